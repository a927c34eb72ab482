import JvmDerived
import JvmDerived.Pilot.@@N@@Statement
import JvmDerived.Pilot.@@N@@Code
set_option linter.unusedVariables false
set_option linter.unusedSimpArgs false
namespace Jvm.AM
open Sem ClassFile Op Lib Jvm.Stand Jvm.Free Jvm.LawKit Jvm.RoadKit
/-! ## 1. The abstract objects: one object of the class, its scalars and its arrays by number -/
abbrev S : Type := (Nat → Int32) × (Nat → Int64) × (Nat → List Int32) × (Nat → List Int64)
def upd {A : Type} (g : Nat → A) (f : Nat) (v : A) : Nat → A := fun x => if x = f then v else g x
def gI (s : S) (f : Nat) : Int32 := s.1 f
def gL (s : S) (f : Nat) : Int64 := s.2.1 f
def gA (s : S) (f : Nat) : List Int32 := s.2.2.1 f
def gB (s : S) (f : Nat) : List Int64 := s.2.2.2 f
def sI (s : S) (f : Nat) (v : Int32) : S := (upd s.1 f v, s.2)
def sL (s : S) (f : Nat) (v : Int64) : S := (s.1, upd s.2.1 f v, s.2.2)
def sA (s : S) (f : Nat) (v : List Int32) : S := (s.1, s.2.1, upd s.2.2.1 f v, s.2.2.2)
def sB (s : S) (f : Nat) (v : List Int64) : S := (s.1, s.2.1, s.2.2.1, upd s.2.2.2 f v)
def s0 : S := (fun _ => 0, fun _ => 0, fun _ => [], fun _ => [])
theorem gI_s0 (f : Nat) : gI s0 f = 0 := by simp only [gI, s0]
theorem gL_s0 (f : Nat) : gL s0 f = 0 := by simp only [gL, s0]
theorem gA_s0 (f : Nat) : gA s0 f = [] := by simp only [gA, s0]
theorem gB_s0 (f : Nat) : gB s0 f = [] := by simp only [gB, s0]
theorem gI_sI (s : S) (f g : Nat) (v : Int32) : gI (sI s f v) g = if g = f then v else gI s g := by simp only [gI, gL, gA, gB, sI, sL, sA, sB, upd]
theorem gI_sL (s : S) (f g : Nat) (v : Int64) : gI (sL s f v) g = gI s g := by simp only [gI, gL, gA, gB, sI, sL, sA, sB, upd]
theorem gI_sA (s : S) (f g : Nat) (v : List Int32) : gI (sA s f v) g = gI s g := by simp only [gI, gL, gA, gB, sI, sL, sA, sB, upd]
theorem gI_sB (s : S) (f g : Nat) (v : List Int64) : gI (sB s f v) g = gI s g := by simp only [gI, gL, gA, gB, sI, sL, sA, sB, upd]
theorem gL_sI (s : S) (f g : Nat) (v : Int32) : gL (sI s f v) g = gL s g := by simp only [gI, gL, gA, gB, sI, sL, sA, sB, upd]
theorem gL_sL (s : S) (f g : Nat) (v : Int64) : gL (sL s f v) g = if g = f then v else gL s g := by simp only [gI, gL, gA, gB, sI, sL, sA, sB, upd]
theorem gL_sA (s : S) (f g : Nat) (v : List Int32) : gL (sA s f v) g = gL s g := by simp only [gI, gL, gA, gB, sI, sL, sA, sB, upd]
theorem gL_sB (s : S) (f g : Nat) (v : List Int64) : gL (sB s f v) g = gL s g := by simp only [gI, gL, gA, gB, sI, sL, sA, sB, upd]
theorem gA_sI (s : S) (f g : Nat) (v : Int32) : gA (sI s f v) g = gA s g := by simp only [gI, gL, gA, gB, sI, sL, sA, sB, upd]
theorem gA_sL (s : S) (f g : Nat) (v : Int64) : gA (sL s f v) g = gA s g := by simp only [gI, gL, gA, gB, sI, sL, sA, sB, upd]
theorem gA_sA (s : S) (f g : Nat) (v : List Int32) : gA (sA s f v) g = if g = f then v else gA s g := by simp only [gI, gL, gA, gB, sI, sL, sA, sB, upd]
theorem gA_sB (s : S) (f g : Nat) (v : List Int64) : gA (sB s f v) g = gA s g := by simp only [gI, gL, gA, gB, sI, sL, sA, sB, upd]
theorem gB_sI (s : S) (f g : Nat) (v : Int32) : gB (sI s f v) g = gB s g := by simp only [gI, gL, gA, gB, sI, sL, sA, sB, upd]
theorem gB_sL (s : S) (f g : Nat) (v : Int64) : gB (sL s f v) g = gB s g := by simp only [gI, gL, gA, gB, sI, sL, sA, sB, upd]
theorem gB_sA (s : S) (f g : Nat) (v : List Int32) : gB (sA s f v) g = gB s g := by simp only [gI, gL, gA, gB, sI, sL, sA, sB, upd]
theorem gB_sB (s : S) (f g : Nat) (v : List Int64) : gB (sB s f v) g = if g = f then v else gB s g := by simp only [gI, gL, gA, gB, sI, sL, sA, sB, upd]
def rep {A : Type} (n : Nat) (x : A) : List A := List.replicate n x
theorem rep_length {A : Type} (n : Nat) (x : A) : (rep n x).length = n := by simp only [rep, List.length_replicate]
theorem rep_get {A : Type} (n : Nat) (x : A) (k : Nat) : (rep n x)[k]? = if k < n then some x else none := by simp only [rep, List.getElem?_replicate]
theorem rep_set {A : Type} (n : Nat) (x : A) (k : Nat) : (rep n x).set k x = rep n x := by simp only [rep, List.set_replicate_self]
/-- reading and writing a component -/
def ix {A : Type} (l : List A) (j : Int32) : Option A := if j < 0 then none else l[j.toNatClampNeg]?
def st {A : Type} (l : List A) (j : Int32) (x : A) : Option (List A) := if j < 0 then none else if j.toNatClampNeg < l.length then some (l.set j.toNatClampNeg x) else none
/-- the world of a run: the script array, if there is one; the objects made so far, each with the number of arrays that it has been given -/
abbrev W : Type := Option (List Int32) × List (Nat × S)
/-- the class: name, slots, scalar fields (name, descriptor, type), array fields in the order of their making (name, descriptor, component type, most slots) -/
abbrev CI : Type := String × Nat × List (String × String × FieldType) × List (String × String × FieldType × Nat)
def cN (c : CI) : String := c.1
def cF (c : CI) : Nat := c.2.1
def cS (c : CI) : List (String × String × FieldType) := c.2.2.1
def cA (c : CI) : List (String × String × FieldType × Nat) := c.2.2.2
def cK (c : CI) : Nat := (cA c).length
/-- the program: the sheet's words, the class -/
abbrev PI : Type := List Jvm.Cond × CI
/-- a method: name, bytes, variables, return type, room, most objects, whether it makes cells, cells and slots at its start -/
abbrev Meth : Type := MethodName × ByteArray × Nat × Option FieldType × Room × Nat × Bool × Nat × Nat
def mY (M : Meth) : MethodName := M.1
def mB (M : Meth) : ByteArray := M.2.1
def mL (M : Meth) : Nat := M.2.2.1
def mT (M : Meth) : Option FieldType := M.2.2.2.1
def mR (M : Meth) : Room := M.2.2.2.2.1
def mN (M : Meth) : Nat := M.2.2.2.2.2.1
def mTop (M : Meth) : Bool := M.2.2.2.2.2.2.1
def mUC (M : Meth) : Nat := M.2.2.2.2.2.2.2.1
def mUS (M : Meth) : Nat := M.2.2.2.2.2.2.2.2
/-! ## 2. Abstract references: 0 the script; j + 1 the cell at b + j -/
def con (α b : Nat) : Value → Value
  | .ref 0 => .ref α
  | .ref (j + 1) => .ref (b + j)
  | v => v
def cs (α b : Nat) : Slot → Slot
  | .val v => .val (con α b v)
  | .unset => .unset
  | .second => .second
def cL (α b : Nat) (L : List Slot) : Array Slot := (L.map (cs α b)).toArray
def cV (α b : Nat) (l : List Value) : List Value := l.map (con α b)
theorem con_cat (α b : Nat) (v : Value) : (con α b v).category = v.category := by
  cases v <;> try rfl
  rename_i a; cases a <;> rfl
theorem con_ref (α b : Nat) (v : Value) : (con α b v).isRef = v.isRef := by
  cases v <;> try rfl
  rename_i a; cases a <;> rfl
theorem cL_get {α b : Nat} {L : List Slot} {k : Nat} {x : Slot} (h : L[k]? = some x) : (cL α b L)[k]? = some (cs α b x) := by
  simp [cL, List.getElem?_toArray, List.getElem?_map, h]
theorem cL_size (α b : Nat) (L : List Slot) : (cL α b L).size = L.length := by simp [cL]
theorem cV_sum (α b : Nat) (l : List Value) : ((cV α b l).map fun v => v.category).sum = (l.map fun v => v.category).sum := by
  simp [cV, List.map_map, Function.comp_def, con_cat]
theorem setAt_map {α b : Nat} {l l' : Array Slot} {i : Nat} {x : Slot} (h : setAt l i x = some l') : setAt (l.map (cs α b)) i (cs α b x) = some (l'.map (cs α b)) := by
  unfold setAt at h ⊢
  split at h
  · rename_i q
    cases h
    rw [if_pos (by simpa using q)]
    simp [Array.map_setIfInBounds]
  · cases h
theorem storeSelf_map {α b : Nat} {l l' : Array Slot} {i : Nat} {v : Value} (h : storeSelf l i v = some l') : storeSelf (l.map (cs α b)) i (con α b v) = some (l'.map (cs α b)) := by
  simp only [storeSelf, Option.bind_eq_bind, Option.bind_eq_some_iff] at h ⊢
  obtain ⟨l1, h1, h2⟩ := h
  refine ⟨l1.map (cs α b), setAt_map (x := .val v) h1, ?_⟩
  rw [con_cat]
  split at h2
  · rename_i q
    rw [if_pos q]
    obtain ⟨x, h3, h4⟩ := Option.bind_eq_some_iff.mp h2
    refine Option.bind_eq_some_iff.mpr ⟨cs α b x, by simp [h3], ?_⟩
    cases x with
    | unset => exact setAt_map (x := .second) h4
    | second => exact setAt_map (x := .second) h4
    | val old =>
      simp only [cs, con_cat] at h4 ⊢
      split at h4
      · rename_i q2
        rw [if_pos q2]
        obtain ⟨y, h5, h6⟩ := Option.bind_eq_some_iff.mp h4
        exact Option.bind_eq_some_iff.mpr ⟨_, setAt_map (x := .unset) h5, setAt_map (x := .second) h6⟩
      · rename_i q2
        rw [if_neg q2]
        exact setAt_map (x := .second) h4
  · rename_i q
    rw [if_neg q]
    cases h2; rfl
theorem store_map {α b : Nat} {l l' : Array Slot} {i : Nat} {v : Value} (h : storeLocals l i v = some l') : storeLocals (l.map (cs α b)) i (con α b v) = some (l'.map (cs α b)) := by
  simp only [storeLocals, Option.bind_eq_bind, Option.bind_eq_some_iff] at h ⊢
  obtain ⟨x, h1, h2⟩ := h
  refine ⟨cs α b x, by simp [h1], ?_⟩
  cases x with
  | unset => exact storeSelf_map h2
  | second =>
    obtain ⟨y, h3, h4⟩ := Option.bind_eq_some_iff.mp h2
    exact Option.bind_eq_some_iff.mpr ⟨_, setAt_map (x := .unset) h3, storeSelf_map h4⟩
  | val old =>
    simp only [cs, con_cat] at h2 ⊢
    split at h2
    · rename_i q
      rw [if_pos q]
      obtain ⟨y, h3, h4⟩ := Option.bind_eq_some_iff.mp h2
      exact Option.bind_eq_some_iff.mpr ⟨_, setAt_map (x := .unset) h3, storeSelf_map h4⟩
    · rename_i q
      rw [if_neg q]
      exact storeSelf_map h2
theorem storeC {α b : Nat} {L L' : List Slot} {i : Nat} {v : Value} (h : storeLocals L.toArray i v = some L'.toArray) : storeLocals (cL α b L) i (con α b v) = some (cL α b L') := by
  have := store_map (α := α) (b := b) h
  simpa [cL] using this
theorem setAt_size {l l' : Array Slot} {i : Nat} {x : Slot} (h : setAt l i x = some l') : l'.size = l.size := by
  unfold setAt at h; split at h <;> cases h; simp
theorem storeSelf_size {l l' : Array Slot} {i : Nat} {v : Value} (h : storeSelf l i v = some l') : l'.size = l.size := by
  simp only [storeSelf, Option.bind_eq_bind, Option.bind_eq_some_iff] at h
  obtain ⟨l1, h1, h2⟩ := h
  have e1 := setAt_size h1
  split at h2
  · obtain ⟨x, h3, h4⟩ := Option.bind_eq_some_iff.mp h2
    cases x with
    | unset => exact (setAt_size h4).trans e1
    | second => exact (setAt_size h4).trans e1
    | val old =>
      dsimp only at h4
      split at h4
      · obtain ⟨y, h5, h6⟩ := Option.bind_eq_some_iff.mp h4
        exact (setAt_size h6).trans ((setAt_size h5).trans e1)
      · exact (setAt_size h4).trans e1
  · cases h2; exact e1
theorem store_size {l l' : Array Slot} {i : Nat} {v : Value} (h : storeLocals l i v = some l') : l'.size = l.size := by
  simp only [storeLocals, Option.bind_eq_bind, Option.bind_eq_some_iff] at h
  obtain ⟨x, h1, h2⟩ := h
  cases x with
  | unset => exact storeSelf_size h2
  | second =>
    obtain ⟨y, h3, h4⟩ := Option.bind_eq_some_iff.mp h2
    exact (storeSelf_size h4).trans (setAt_size h3)
  | val old =>
    dsimp only at h2
    split at h2
    · obtain ⟨y, h3, h4⟩ := Option.bind_eq_some_iff.mp h2
      exact (storeSelf_size h4).trans (setAt_size h3)
    · exact storeSelf_size h2
/-- a variable that may be written over by a value of one word -/
def k1 (o : Slot) : Prop := o = .unset ∨ ∃ w, o = .val w ∧ w.category = 1
def k2 (o o2 : Slot) : Prop := (o = .unset ∧ o2 = .unset) ∨ ∃ u, o = .val (.long u) ∧ o2 = .second
theorem setAt_l {L : List Slot} {k : Nat} {x : Slot} (h : k < L.length) : setAt L.toArray k x = some (L.set k x).toArray := by simp [setAt, h]
theorem get_l {L : List Slot} {k : Nat} {o : Slot} (h : L[k]? = some o) : L.toArray[k]? = some o := by rw [List.getElem?_toArray]; exact h
theorem store_u {L : List Slot} {k : Nat} {v : Value} (h : L[k]? = some .unset) : storeLocals L.toArray k v = storeSelf L.toArray k v := by
  simp only [storeLocals, Option.bind_eq_bind, get_l h, Option.bind_some]
theorem store_1 {L : List Slot} {k : Nat} {v w : Value} (h : L[k]? = some (.val w)) (hw : w.category = 1) : storeLocals L.toArray k v = storeSelf L.toArray k v := by
  simp only [storeLocals, Option.bind_eq_bind, get_l h, Option.bind_some]
  rw [if_neg (by rw [hw]; decide)]
theorem store_k {L : List Slot} {k : Nat} {v : Value} {o : Slot} (h : L[k]? = some o) (ho : k1 o) : storeLocals L.toArray k v = storeSelf L.toArray k v := by
  rcases ho with rfl | ⟨w, rfl, hw⟩
  · exact store_u h
  · exact store_1 h hw
theorem store_2 {L : List Slot} {k : Nat} {v w : Value} (h : L[k]? = some (.val w)) (hw : w.category = 2) (l2 : k + 1 < L.length) : storeLocals L.toArray k v = storeSelf (L.set (k + 1) .unset).toArray k v := by
  simp only [storeLocals, Option.bind_eq_bind, get_l h, Option.bind_some]
  rw [if_pos hw, setAt_l l2, Option.bind_some]
theorem self_1 {L : List Slot} {k : Nat} {v : Value} (hv : v.category = 1) (l : k < L.length) : storeSelf L.toArray k v = some (L.set k (.val v)).toArray := by
  simp only [storeSelf, Option.bind_eq_bind, setAt_l l, Option.bind_some]
  rw [if_neg (by rw [hv]; decide)]
theorem self_2 {L : List Slot} {k : Nat} {v : Value} {o : Slot} (hv : v.category = 2) (h : L[k + 1]? = some o) (ho : k1 o ∨ o = .second) (l : k < L.length) : storeSelf L.toArray k v = some ((L.set k (.val v)).set (k + 1) .second).toArray := by
  have l2 := (List.getElem?_eq_some_iff.mp h).1
  have e2 : (L.set k (.val v))[k + 1]? = some o := by rw [List.getElem?_set_ne (by omega)]; exact h
  simp only [storeSelf, Option.bind_eq_bind, setAt_l l, Option.bind_some]
  rw [if_pos hv, get_l e2, Option.bind_some]
  rcases ho with (rfl | ⟨w, rfl, hw⟩) | rfl
  · exact setAt_l (by rw [List.length_set]; exact l2)
  · dsimp only
    rw [if_neg (by rw [hw]; decide)]
    exact setAt_l (by rw [List.length_set]; exact l2)
  · exact setAt_l (by rw [List.length_set]; exact l2)
theorem self_3 {L : List Slot} {k : Nat} {v w : Value} (hv : v.category = 2) (h : L[k + 1]? = some (.val w)) (hw : w.category = 2) (l3 : k + 2 < L.length) (l : k < L.length) : storeSelf L.toArray k v = some (((L.set k (.val v)).set (k + 2) .unset).set (k + 1) .second).toArray := by
  have l2 := (List.getElem?_eq_some_iff.mp h).1
  have e2 : (L.set k (.val v))[k + 1]? = some (.val w) := by rw [List.getElem?_set_ne (by omega)]; exact h
  simp only [storeSelf, Option.bind_eq_bind, setAt_l l, Option.bind_some]
  rw [if_pos hv, get_l e2, Option.bind_some]
  dsimp only
  rw [if_pos hw, setAt_l (by rw [List.length_set]; exact l3), Option.bind_some, setAt_l (by rw [List.length_set, List.length_set]; exact l2)]
theorem stx {L : List Slot} {k : Nat} {o : Slot} {v : Value} (h : L[k]? = some o) (ho : k1 o) (hv : v.category = 1) : storeLocals L.toArray k v = some (L.set k (.val v)).toArray := by
  rw [store_k h ho, self_1 hv (List.getElem?_eq_some_iff.mp h).1]
theorem stx3 {L : List Slot} {k : Nat} {o o2 : Slot} {u : Int64} (h : L[k]? = some o) (h2 : L[k + 1]? = some o2) (ho : k1 o) (ho2 : k1 o2) : storeLocals L.toArray k (.long u) = some ((L.set k (.val (.long u))).set (k + 1) .second).toArray := by
  rw [store_k h ho, self_2 rfl h2 (Or.inl ho2) (List.getElem?_eq_some_iff.mp h).1]
theorem stx2 {L : List Slot} {k : Nat} {o o2 : Slot} {u : Int64} (h : L[k]? = some o) (h2 : L[k + 1]? = some o2) (ho : k2 o o2) : storeLocals L.toArray k (.long u) = some ((L.set k (.val (.long u))).set (k + 1) .second).toArray := by
  have l1 := (List.getElem?_eq_some_iff.mp h).1
  have l2 := (List.getElem?_eq_some_iff.mp h2).1
  rcases ho with ⟨rfl, rfl⟩ | ⟨u', rfl, rfl⟩
  · exact stx3 h h2 (Or.inl rfl) (Or.inl rfl)
  · rw [store_2 h rfl l2, self_2 (o := .unset) rfl (by rw [List.getElem?_set_self l2]) (Or.inl (Or.inl rfl)) (by rw [List.length_set]; exact l1)]
    rw [List.set_comm _ _ (show k + 1 ≠ k by omega), List.set_set]
theorem stx4 {L : List Slot} {k : Nat} {o2 : Slot} {w : Int64} {v : Value} (h : L[k]? = some (.val (.long w))) (h2 : L[k + 1]? = some o2) (hv : v.category = 1) : storeLocals L.toArray k v = some ((L.set (k + 1) .unset).set k (.val v)).toArray := by
  rw [store_2 h rfl (List.getElem?_eq_some_iff.mp h2).1, self_1 hv (by rw [List.length_set]; exact (List.getElem?_eq_some_iff.mp h).1)]
theorem stx5 {L : List Slot} {k : Nat} {o o3 : Slot} {w u : Int64} (h : L[k]? = some o) (ho : k1 o) (h2 : L[k + 1]? = some (.val (.long w))) (h3 : L[k + 2]? = some o3) : storeLocals L.toArray k (.long u) = some (((L.set k (.val (.long u))).set (k + 2) .unset).set (k + 1) .second).toArray := by
  rw [store_k h ho, self_3 rfl h2 rfl (List.getElem?_eq_some_iff.mp h3).1 (List.getElem?_eq_some_iff.mp h).1]
/-- a tail of dead variables -/
def wtf : Slot ⊕ Int64 → List Slot
  | .inl x => [x]
  | .inr u => [.val (.long u), .second]
def WT (D : List Slot) : Prop := ∃ l : List (Slot ⊕ Int64), D = l.flatMap wtf ∧ ∀ x, Sum.inl x ∈ l → k1 x
theorem wt0 : WT [] := ⟨[], rfl, fun _ h => nomatch h⟩
theorem wt1 {x : Slot} {D : List Slot} (h : k1 x) (W : WT D) : WT (x :: D) := by
  obtain ⟨l, rfl, g⟩ := W
  refine ⟨.inl x :: l, by simp [wtf], fun y hy => ?_⟩
  rcases List.mem_cons.mp hy with e | e
  · cases e; exact h
  · exact g y e
theorem wt2 {u : Int64} {D : List Slot} (W : WT D) : WT (.val (.long u) :: .second :: D) := by
  obtain ⟨l, rfl, g⟩ := W
  refine ⟨.inr u :: l, by simp [wtf], fun y hy => ?_⟩
  rcases List.mem_cons.mp hy with e | e
  · cases e
  · exact g y e
theorem wt12 {x y : Slot} {D : List Slot} (h : k2 x y) (W : WT D) : WT (x :: y :: D) := by
  rcases h with ⟨rfl, rfl⟩ | ⟨u, rfl, rfl⟩
  · exact wt1 (Or.inl rfl) (wt1 (Or.inl rfl) W)
  · exact wt2 W
theorem wt_cases {D : List Slot} (W : WT D) : D = [] ∨ (∃ x E, D = x :: E ∧ k1 x ∧ WT E) ∨ ∃ u E, D = .val (.long u) :: .second :: E ∧ WT E := by
  obtain ⟨l, rfl, g⟩ := W
  match l, g with
  | [], _ => exact Or.inl rfl
  | .inl x :: r, g => exact Or.inr (Or.inl ⟨x, r.flatMap wtf, by simp [wtf], g x (List.mem_cons_self ..), r, rfl, fun y hy => g y (List.mem_cons_of_mem _ hy)⟩)
  | .inr u :: r, g => exact Or.inr (Or.inr ⟨u, r.flatMap wtf, by simp [wtf], r, rfl, fun y hy => g y (List.mem_cons_of_mem _ hy)⟩)
theorem stT {L0 D : List Slot} {v : Value} {n : Nat} (W : WT D) (hl : D.length = n + 1) (hv : v.category = 1) : ∃ D', WT D' ∧ D'.length = n ∧ storeLocals (L0 ++ D).toArray L0.length v = some (L0 ++ ([.val v] : List Slot) ++ D').toArray := by
  rcases wt_cases W with rfl | ⟨x, E, rfl, hx, WE⟩ | ⟨u, E, rfl, WE⟩
  · simp at hl
  · refine ⟨E, WE, by simpa using hl, ?_⟩
    rw [stx (o := x) (by simp) hx hv]; simp
  · refine ⟨.unset :: E, wt1 (Or.inl rfl) WE, by simpa using hl, ?_⟩
    rw [stx4 (w := u) (o2 := .second) (by simp) (by rw [List.getElem?_append_right (by omega)]; simp) hv]
    simp [List.set_append]
theorem stT2 {L0 D : List Slot} {u : Int64} {n : Nat} (W : WT D) (hl : D.length = n + 2) : ∃ D', WT D' ∧ D'.length = n ∧ storeLocals (L0 ++ D).toArray L0.length (.long u) = some (L0 ++ ([.val (.long u), .second] : List Slot) ++ D').toArray := by
  rcases wt_cases W with rfl | ⟨x, E, rfl, hx, WE⟩ | ⟨w, E, rfl, WE⟩
  · simp at hl
  · rcases wt_cases WE with rfl | ⟨y, F, rfl, hy, WF⟩ | ⟨w, F, rfl, WF⟩
    · simp at hl
    · refine ⟨F, WF, by simpa using hl, ?_⟩
      rw [stx3 (o := x) (o2 := y) (by simp) (by rw [List.getElem?_append_right (by omega)]; simp) hx hy]
      simp [List.set_append]
    · refine ⟨.unset :: F, wt1 (Or.inl rfl) WF, by simpa using hl, ?_⟩
      rw [stx5 (o := x) (w := w) (o3 := .second) (by simp) hx (by rw [List.getElem?_append_right (by omega)]; simp) (by rw [List.getElem?_append_right (by omega)]; simp)]
      simp [List.set_append]
  · refine ⟨E, WE, by simpa using hl, ?_⟩
    rw [stx2 (o := .val (.long w)) (o2 := .second) (by simp) (by rw [List.getElem?_append_right (by omega)]; simp) (Or.inr ⟨w, rfl, rfl⟩)]
    simp [List.set_append]
/-- the variables at a method's entry -/
def argL : List Value → List Slot
  | [] => []
  | v :: r => if v.category = 2 then .val v :: .second :: argL r else .val v :: argL r
def entryL (as : List Value) (n : Nat) : List Slot := argL as ++ List.replicate (n - (argL as).length) .unset
theorem argL_fold : ∀ (as : List Value) (acc : List Slot), as.foldl (fun acc v => if v.category = 2 then (acc.push (.val v)).push .second else acc.push (.val v)) acc.toArray = (acc ++ argL as).toArray
  | [], acc => by simp [argL]
  | v :: r, acc => by
    simp only [List.foldl_cons, argL]
    split
    · rename_i q
      rw [show ((acc.toArray.push (Slot.val v)).push Slot.second) = (acc ++ [Slot.val v, Slot.second]).toArray by simp, argL_fold r]
      simp
    · rename_i q
      rw [show (acc.toArray.push (Slot.val v)) = (acc ++ [Slot.val v]).toArray by simp, argL_fold r]
      simp
theorem argL_map (α b : Nat) : ∀ as : List Value, argL (cV α b as) = (argL as).map (cs α b)
  | [] => rfl
  | v :: r => by
    have ih := argL_map α b r
    simp only [cV, List.map_cons, argL, con_cat] at ih ⊢
    split <;> simp [ih, cs]
theorem entry_locals (α b : Nat) (as : List Value) (n : Nat) : argsToLocals (cV α b as).toArray n = cL α b (entryL as n) := by
  have h := argL_fold (cV α b as) []
  simp only [List.nil_append] at h
  have h' : (cV α b as).toArray.foldl (fun acc v => if v.category = 2 then (acc.push (Slot.val v)).push Slot.second else acc.push (Slot.val v)) #[] = (argL (cV α b as)).toArray := by
    rw [← h]; simp
  simp only [argsToLocals]
  rw [h', argL_map]
  simp [cL, entryL, List.map_append, cs]
/-! ## 3. What the heap shows -/
def scV (ty : FieldType) (s : S) (f : Nat) : Value := match ty with
  | .long => .long (gL s f)
  | _ => .int (gI s f)
def arV (ty : FieldType) (s : S) (q : Nat) : List Value := match ty with
  | .long => (gB s q).map .long
  | _ => (gA s q).map .int
def Ar (Z : State) (h : Heap) (a : Nat) (ty : FieldType) (vs : List Value) : Prop := ∃ c : Cell, Arr Z h a c ty ∧ c.slots = vs.toArray
def Rep1 (Z : State) (ci : CI) (h : Heap) (b : Nat) (o : Nat × S) : Prop :=
  Exa Z h b (cN ci) ∧ (∀ f x, (cS ci)[f]? = some x → Fld Z h b (cN ci) x.1 x.2.1 (scV x.2.2 o.2 f)) ∧
  (∀ q x, (cA ci)[q]? = some x → Fld Z h b (cN ci) x.1 x.2.1 (if q < o.1 then .ref (b + 1 + q) else .null)) ∧
  (∀ q x, (cA ci)[q]? = some x → q < o.1 → Ar Z h (b + 1 + q) x.2.2.1 (arV x.2.2.1 o.2 q))
def RepW (Z : State) (ci : CI) (α b : Nat) (w : W) (h : Heap) : Prop :=
  (∀ l, w.1 = some l → Ar Z h α .int (l.map .int) ∧ α < b) ∧ ∀ i o, w.2[i]? = some o → Rep1 Z ci h (b + (cK ci + 1) * i) o
def Frm (lo hi : Nat) (h0 h : Heap) : Prop := ∀ (x : Nat) (c : Cell), h0[x]? = some c → (x < lo ∨ hi ≤ x) → h[x]? = some c
def usedC (w : W) : Nat := (w.2.map fun o => 1 + o.1).sum
def usedS (ci : CI) (w : W) : Nat := (w.2.map fun o => cF ci + (((cA ci).take o.1).map fun x => x.2.2.2).sum).sum
/-- what the sheet says of the class -/
def Facts (Z : State) (a0 : Array Value) (ci : CI) : Prop :=
  (Jvm.Cond.instantiable (cN ci) (cF ci)).before a0 Z = true ∧ (Jvm.Cond.initialized (cN ci)).before a0 Z = true ∧
  (∀ (f : Nat) (x : String × String × FieldType), (cS ci)[f]? = some x → Laid Z a0 (cN ci) (cN ci) x.1 x.2.1 ∧ parseFieldDescriptor x.2.1 = some x.2.2) ∧
  (∀ (q : Nat) (x : String × String × FieldType × Nat), (cA ci)[q]? = some x → Laid Z a0 (cN ci) (cN ci) x.1 x.2.1 ∧ parseFieldDescriptor x.2.1 = some (.array x.2.2.1)) ∧
  ((cS ci).map (fun x => x.1) ++ (cA ci).map (fun x => x.1)).Nodup ∧ (∀ f x, (cS ci)[f]? = some x → defaultValue x.2.2 = scV x.2.2 s0 f) ∧ (cN ci ≠ "java/lang/invoke/MethodHandle" ∧ cN ci ≠ "java/lang/invoke/VarHandle")
theorem nq {a b : Nat} (h : a ≠ b) : @Ne Addr a b := h
theorem Ar.frm {Z : State} {h h' : Heap} {a : Nat} {ty : FieldType} {vs : List Value} (A : Ar Z h a ty vs) (k : ∀ c, h[a]? = some c → h'[a]? = some c) : Ar Z h' a ty vs := by
  obtain ⟨c, ⟨q1, q2⟩, q3⟩ := A; exact ⟨c, ⟨k c q1, q2⟩, q3⟩
theorem fld_frm {Z : State} {h h' : Heap} {a : Nat} {C n d : String} {v : Value} (F : Fld Z h a C n d v) (k : ∀ c, h[a]? = some c → h'[a]? = some c) : Fld Z h' a C n d v := by
  obtain ⟨cell, cf, kc, i, f, h1, r⟩ := F; exact ⟨cell, cf, kc, i, f, k _ h1, r⟩
theorem exa_frm {Z : State} {h h' : Heap} {a : Nat} {C : String} (F : Exa Z h a C) (k : ∀ c, h[a]? = some c → h'[a]? = some c) : Exa Z h' a C := by
  obtain ⟨cell, kc, h1, r⟩ := F; exact ⟨cell, kc, k _ h1, r⟩
theorem get_lt {A : Type} {l : List A} {i : Nat} {x : A} (h : l[i]? = some x) : i < l.length := (List.getElem?_eq_some_iff.mp h).1
theorem Rep1.frm {Z : State} {ci : CI} {h h' : Heap} {b : Nat} {o : Nat × S} (F : Rep1 Z ci h b o) (k : ∀ x c, b ≤ x → x < b + (cK ci + 1) → h[x]? = some c → h'[x]? = some c) : Rep1 Z ci h' b o := by
  obtain ⟨f1, f2, f3, f4⟩ := F
  refine ⟨exa_frm f1 fun c => k b c (Nat.le_refl _) (by omega), fun f x hx => fld_frm (f2 f x hx) fun c => k b c (Nat.le_refl _) (by omega), fun q x hx => fld_frm (f3 q x hx) fun c => k b c (Nat.le_refl _) (by omega), fun q x hx hq => (f4 q x hx hq).frm fun c => k _ c (by omega) ?_⟩
  have := get_lt hx
  simp only [cK]; omega
theorem RepW.ext {Z : State} {ci : CI} {α b : Nat} {w : W} {h h' : Heap} (F : RepW Z ci α b w h) (E : Ext h h') : RepW Z ci α b w h' :=
  ⟨fun l hl => ⟨((F.1 l hl).1).frm fun c q => E.2 _ _ q, (F.1 l hl).2⟩, fun i o ho => (F.2 i o ho).frm fun x c _ _ q => E.2 _ _ q⟩
theorem Frm.refl (lo hi : Nat) (h : Heap) : Frm lo hi h h := fun _ _ q _ => q
theorem Frm.trans {lo hi : Nat} {h0 h1 h2 : Heap} (A : Frm lo hi h0 h1) (B : Frm lo hi h1 h2) : Frm lo hi h0 h2 := fun x c q r => B x c (A x c q r) r
theorem Frm.wide {lo hi lo' hi' : Nat} {h0 h1 : Heap} (A : Frm lo hi h0 h1) (q1 : lo' ≤ lo) (q2 : hi ≤ hi') : Frm lo' hi' h0 h1 := fun x c q r => A x c q (by omega)
theorem Frm.ext {lo hi : Nat} {h0 h1 h2 : Heap} (A : Frm lo hi h0 h1) (E : Ext h1 h2) : Frm lo hi h0 h2 := fun x c q r => E.2 _ _ (A x c q r)
theorem Frm.wr {lo hi : Nat} {h0 h1 h2 : Heap} {a : Nat} {sl : Nat} {v : Value} (A : Frm lo hi h0 h1) (Wt : Wr h1 h2 a sl v) (q1 : lo ≤ a) (q2 : a < hi) : Frm lo hi h0 h2 := fun x c q r => by
  have q3 := A x c q r
  obtain ⟨c', e1, -, -, -, e5, -⟩ := wr_at Wt q3
  have : x ≠ a := by omega
  rw [← e5 this]; exact e1
/-! ## 4. The walk -/
def Ok (P : PI) (M : Meth) (Z : State) (a0 : Array Value) (p : Program) (R : Room) (s : State) (m : MethodId) (meth : Method) (c : Code) (b n0 : Nat) (h0 : Heap) (uC uS : Nat) : Prop :=
  (∀ d ∈ P.1, d.before a0 Z = true) ∧ Facts Z a0 P.2 ∧ p.tables.exec = Jvm.exec ∧ Z.Warmed39 s.vm ∧ s.vm.findClass (mY M).cls = some m.cls ∧ c.code = mB M ∧ c.maxLocals = mL M ∧ meth.sig.returnType = mT M ∧ meth.name = (mY M).name ∧ R = mR M ∧ n0 ≤ b ∧
  (mTop M = true → h0.size = b + uC ∧ uC = mUC M ∧ uS = mUS M) ∧ s.heap.size = h0.size
def Inv (P : PI) (M : Meth) (l : Launch) (Z : State) (p : Program) (e : Env) (R : Room) (s : State) (m : MethodId) (args : Array Value) (below : List Frame) (meth : Method) (c : Code) (α b n0 : Nat) (h0 : Heap) (uC uS : Nat) (w : W) (T : State) (locs : List Loc) (cells slots : Nat) : Prop :=
  Stand p l e R s m args below meth c T locs cells slots ∧ RepW Z P.2 α b w T.heap ∧ Frm b (b + (cK P.2 + 1) * mN M) h0 T.heap ∧ Fr n0 locs ∧ T.heap.size = h0.size + cells ∧ cells + uC = usedC w ∧ slots + uS = usedS P.2 w ∧ cells ≤ R.cells ∧ slots ≤ R.slots ∧ w.2.length ≤ mN M
def Lv (e : Env) (T : State) (m : MethodId) (r : Option Value) (fs : List Frame) : Prop := ∀ (f : JFrame) (acts : List Action), f.method = m → f.locked = none → f.entered = [] → (doReturn e (T.setTop f) acts r).1 = T.setFrames fs
/-- from here the invocation comes to its end, with this value and this world -/
def Go (P : PI) (M : Meth) (pc : Nat) (L : List Slot) (st : List Value) (w : W) (out : Option Value × W) : Prop :=
  L.length = mL M → ∀ (l : Launch) (Z : State) (a0 : Array Value) (p : Program) (e : Env) (R : Room) (s : State) (m : MethodId) (args : Array Value) (below : List Frame) (meth : Method) (c : Code) (α b n0 : Nat) (h0 : Heap) (uC uS : Nat),
    Ok P M Z a0 p R s m meth c b n0 h0 uC uS → ∀ (T : State) (locs : List Loc) (cells slots : Nat), Inv P M l Z p e R s m args below meth c α b n0 h0 uC uS w T locs cells slots →
    ∃ (T' : State) (locs' : List Loc) (cells' slots' : Nat), Inv P M l Z p e R s m args below meth c α b n0 h0 uC uS out.2 T' locs' cells' slots' ∧
      ∀ fs, Lv e T' m (out.1.map (con α b)) fs → Steps p.tables e below (T.setTop (mkF m pc (cL α b L) (cV α b st))) (T'.setFrames fs)
section Rules
variable {P : PI} {M : Meth} {pc pc' : Nat} {L L' : List Slot} {st st' : List Value} {w w' : W} {out : Option Value × W} {x y z v : Int32} {u r : Int64}
theorem go_mv (hL : L.length = mL M → L'.length = mL M)
    (H : ∀ {p : Program} {e : Env} {below : List Frame} {T target : State} {m : MethodId} {c : Code}, At T m c below → p.tables.exec = Jvm.exec → c.code = mB M → ∀ α b : Nat, Steps p.tables e below (T.setTop (mkF m pc' (cL α b L') (cV α b st'))) target → Steps p.tables e below (T.setTop (mkF m pc (cL α b L) (cV α b st))) target)
    (k : Go P M pc' L' st' w out) : Go P M pc L st w out := by
  intro hl l Z a0 p e R s m args below meth c α b n0 h0 uC uS ok T locs cells slots I
  obtain ⟨T', l', c', n', I', fin⟩ := k (hL hl) l Z a0 p e R s m args below meth c α b n0 h0 uC uS ok T locs cells slots I
  exact ⟨T', l', c', n', I', fun fs hv => H I.1.here ok.2.2.1 ok.2.2.2.2.2.1 α b (fin fs hv)⟩
theorem go_ch (H : ∀ (l : Launch) (Z : State) (a0 : Array Value) (p : Program) (e : Env) (R : Room) (s : State) (m : MethodId) (args : Array Value) (below : List Frame) (meth : Method) (c : Code) (α b n0 : Nat) (h0 : Heap) (uC uS : Nat),
      Ok P M Z a0 p R s m meth c b n0 h0 uC uS → L.length = mL M → ∀ (T : State) (locs : List Loc) (cells slots : Nat), Inv P M l Z p e R s m args below meth c α b n0 h0 uC uS w T locs cells slots →
      ∃ (T' : State) (locs' : List Loc) (cells' slots' : Nat), Inv P M l Z p e R s m args below meth c α b n0 h0 uC uS w' T' locs' cells' slots' ∧
        ∀ target, Steps p.tables e below (T'.setTop (mkF m pc' (cL α b L) (cV α b st'))) target → Steps p.tables e below (T.setTop (mkF m pc (cL α b L) (cV α b st))) target)
    (k : Go P M pc' L st' w' out) : Go P M pc L st w out := by
  intro hl l Z a0 p e R s m args below meth c α b n0 h0 uC uS ok T locs cells slots I
  obtain ⟨T1, l1, c1, n1, I1, h1⟩ := H l Z a0 p e R s m args below meth c α b n0 h0 uC uS ok hl T locs cells slots I
  obtain ⟨T', l', c', n', I', fin⟩ := k hl l Z a0 p e R s m args below meth c α b n0 h0 uC uS ok T1 l1 c1 n1 I1
  exact ⟨T', l', c', n', I', fun fs hv => h1 _ (fin fs hv)⟩
/-! ### loads, stores, constants -/
theorem go_iloadN {k : Fin 4} (d : decode (mB M) pc = .ok (.iload_n k, 1)) (hl : L[k.val]? = some (.val (.int v))) (g : Go P M (pc + 1) L (.int v :: st) w out) : Go P M pc L (st) w out :=
  go_mv id (fun h hx hc α b r => XS.iloadN (g := mkF _ pc (cL α b L) (cV α b (st))) h hx rfl (hb hc d) (cL_get hl) r) g
theorem go_iload {k : Nat} (d : decode (mB M) pc = .ok (.iload k, 2)) (hl : L[k]? = some (.val (.int v))) (g : Go P M (pc + 2) L (.int v :: st) w out) : Go P M pc L (st) w out :=
  go_mv id (fun h hx hc α b r => XS.iload (g := mkF _ pc (cL α b L) (cV α b (st))) h hx rfl (hb hc d) (cL_get hl) r) g
theorem go_lloadN {k : Fin 4} (d : decode (mB M) pc = .ok (.lload_n k, 1)) (hl : L[k.val]? = some (.val (.long u))) (g : Go P M (pc + 1) L (.long u :: st) w out) : Go P M pc L (st) w out :=
  go_mv id (fun h hx hc α b r => XT.lloadN (g := mkF _ pc (cL α b L) (cV α b (st))) h hx rfl (hb hc d) (cL_get hl) r) g
theorem go_lload {k : Nat} (d : decode (mB M) pc = .ok (.lload k, 2)) (hl : L[k]? = some (.val (.long u))) (g : Go P M (pc + 2) L (.long u :: st) w out) : Go P M pc L (st) w out :=
  go_mv id (fun h hx hc α b r => XT.lload (g := mkF _ pc (cL α b L) (cV α b (st))) h hx rfl (hb hc d) (cL_get hl) r) g
theorem go_aloadN {k : Fin 4} {a : Nat} (d : decode (mB M) pc = .ok (.aload_n k, 1)) (hl : L[k.val]? = some (.val (.ref a))) (g : Go P M (pc + 1) L (.ref a :: st) w out) : Go P M pc L (st) w out :=
  go_mv id (fun h hx hc α b r => XS.aloadN (g := mkF _ pc (cL α b L) (cV α b (st))) h hx rfl (hb hc d) (cL_get hl) (con_ref α b (.ref a)) r) g
theorem go_aload {k : Nat} {a : Nat} (d : decode (mB M) pc = .ok (.aload k, 2)) (hl : L[k]? = some (.val (.ref a))) (g : Go P M (pc + 2) L (.ref a :: st) w out) : Go P M pc L (st) w out :=
  go_mv id (fun h hx hc α b r => XS.aload (g := mkF _ pc (cL α b L) (cV α b (st))) h hx rfl (hb hc d) (cL_get hl) (con_ref α b (.ref a)) r) g
theorem go_istoreN {k : Fin 4} (d : decode (mB M) pc = .ok (.istore_n k, 1)) (hl : storeLocals L.toArray k.val (.int x) = some L'.toArray) (g : Go P M (pc + 1) L' (st) w out) : Go P M pc L (.int x :: st) w out :=
  go_mv (fun q => by have := store_size hl; simp at this; omega) (fun h hx hc α b r => XS.istoreN (g := mkF _ pc (cL α b L) (cV α b (.int x :: st))) h hx rfl (hb hc d) rfl (storeC hl) r) g
theorem go_istore {k : Nat} (d : decode (mB M) pc = .ok (.istore k, 2)) (hl : storeLocals L.toArray k (.int x) = some L'.toArray) (g : Go P M (pc + 2) L' (st) w out) : Go P M pc L (.int x :: st) w out :=
  go_mv (fun q => by have := store_size hl; simp at this; omega) (fun h hx hc α b r => XS.istore (g := mkF _ pc (cL α b L) (cV α b (.int x :: st))) h hx rfl (hb hc d) rfl (storeC hl) r) g
theorem go_lstoreN {k : Fin 4} (d : decode (mB M) pc = .ok (.lstore_n k, 1)) (hl : storeLocals L.toArray k.val (.long u) = some L'.toArray) (g : Go P M (pc + 1) L' (st) w out) : Go P M pc L (.long u :: st) w out :=
  go_mv (fun q => by have := store_size hl; simp at this; omega) (fun h hx hc α b r => XT.lstoreN (g := mkF _ pc (cL α b L) (cV α b (.long u :: st))) h hx rfl (hb hc d) rfl (storeC hl) r) g
theorem go_lstore {k : Nat} (d : decode (mB M) pc = .ok (.lstore k, 2)) (hl : storeLocals L.toArray k (.long u) = some L'.toArray) (g : Go P M (pc + 2) L' (st) w out) : Go P M pc L (.long u :: st) w out :=
  go_mv (fun q => by have := store_size hl; simp at this; omega) (fun h hx hc α b r => XT.lstore (g := mkF _ pc (cL α b L) (cV α b (.long u :: st))) h hx rfl (hb hc d) rfl (storeC hl) r) g
theorem go_astoreN {k : Fin 4} {a : Nat} (d : decode (mB M) pc = .ok (.astore_n k, 1)) (hl : storeLocals L.toArray k.val (.ref a) = some L'.toArray) (g : Go P M (pc + 1) L' (st) w out) : Go P M pc L (.ref a :: st) w out :=
  go_mv (fun q => by have := store_size hl; simp at this; omega) (fun h hx hc α b r => XS.astoreN (g := mkF _ pc (cL α b L) (cV α b (.ref a :: st))) h hx rfl (hb hc d) rfl (con_ref α b (.ref a)) (storeC hl) r) g
theorem go_astore {k : Nat} {a : Nat} (d : decode (mB M) pc = .ok (.astore k, 2)) (hl : storeLocals L.toArray k (.ref a) = some L'.toArray) (g : Go P M (pc + 2) L' (st) w out) : Go P M pc L (.ref a :: st) w out :=
  go_mv (fun q => by have := store_size hl; simp at this; omega) (fun h hx hc α b r => XS.astore (g := mkF _ pc (cL α b L) (cV α b (.ref a :: st))) h hx rfl (hb hc d) rfl (con_ref α b (.ref a)) (storeC hl) r) g
theorem go_istoreNT {k : Fin 4} {L0 L1 D : List Slot} {n : Nat} (d : decode (mB M) pc = .ok (.istore_n k, 1)) (hk : k.val = L0.length) (h1 : L1 = L0 ++ [.val (.int x)]) (W : WT D) (hl : D.length = n + 1) (g : ∀ D', WT D' → D'.length = n → Go P M (pc + 1) (L1 ++ D') st w out) : Go P M pc (L0 ++ D) (.int x :: st) w out := by
  obtain ⟨D', W', l', e⟩ := stT (L0 := L0) (v := .int x) W hl rfl
  subst h1
  exact go_istoreN d (by rw [hk]; exact e) (g D' W' l')
theorem go_istoreT {k : Nat} {L0 L1 D : List Slot} {n : Nat} (d : decode (mB M) pc = .ok (.istore k, 2)) (hk : k = L0.length) (h1 : L1 = L0 ++ [.val (.int x)]) (W : WT D) (hl : D.length = n + 1) (g : ∀ D', WT D' → D'.length = n → Go P M (pc + 2) (L1 ++ D') st w out) : Go P M pc (L0 ++ D) (.int x :: st) w out := by
  obtain ⟨D', W', l', e⟩ := stT (L0 := L0) (v := .int x) W hl rfl
  subst h1
  exact go_istore d (by rw [hk]; exact e) (g D' W' l')
theorem go_astoreNT {k : Fin 4} {L0 L1 D : List Slot} {n : Nat} {a : Nat} (d : decode (mB M) pc = .ok (.astore_n k, 1)) (hk : k.val = L0.length) (h1 : L1 = L0 ++ [.val (.ref a)]) (W : WT D) (hl : D.length = n + 1) (g : ∀ D', WT D' → D'.length = n → Go P M (pc + 1) (L1 ++ D') st w out) : Go P M pc (L0 ++ D) (.ref a :: st) w out := by
  obtain ⟨D', W', l', e⟩ := stT (L0 := L0) (v := .ref a) W hl rfl
  subst h1
  exact go_astoreN d (by rw [hk]; exact e) (g D' W' l')
theorem go_astoreT {k : Nat} {L0 L1 D : List Slot} {n : Nat} {a : Nat} (d : decode (mB M) pc = .ok (.astore k, 2)) (hk : k = L0.length) (h1 : L1 = L0 ++ [.val (.ref a)]) (W : WT D) (hl : D.length = n + 1) (g : ∀ D', WT D' → D'.length = n → Go P M (pc + 2) (L1 ++ D') st w out) : Go P M pc (L0 ++ D) (.ref a :: st) w out := by
  obtain ⟨D', W', l', e⟩ := stT (L0 := L0) (v := .ref a) W hl rfl
  subst h1
  exact go_astore d (by rw [hk]; exact e) (g D' W' l')
theorem go_lstoreNT {k : Fin 4} {L0 L1 D : List Slot} {n : Nat} (d : decode (mB M) pc = .ok (.lstore_n k, 1)) (hk : k.val = L0.length) (h1 : L1 = L0 ++ [.val (.long u), .second]) (W : WT D) (hl : D.length = n + 2) (g : ∀ D', WT D' → D'.length = n → Go P M (pc + 1) (L1 ++ D') st w out) : Go P M pc (L0 ++ D) (.long u :: st) w out := by
  obtain ⟨D', W', l', e⟩ := stT2 (L0 := L0) (u := u) W hl
  subst h1
  exact go_lstoreN d (by rw [hk]; exact e) (g D' W' l')
theorem go_lstoreT {k : Nat} {L0 L1 D : List Slot} {n : Nat} (d : decode (mB M) pc = .ok (.lstore k, 2)) (hk : k = L0.length) (h1 : L1 = L0 ++ [.val (.long u), .second]) (W : WT D) (hl : D.length = n + 2) (g : ∀ D', WT D' → D'.length = n → Go P M (pc + 2) (L1 ++ D') st w out) : Go P M pc (L0 ++ D) (.long u :: st) w out := by
  obtain ⟨D', W', l', e⟩ := stT2 (L0 := L0) (u := u) W hl
  subst h1
  exact go_lstore d (by rw [hk]; exact e) (g D' W' l')
theorem go_iconst {i : Int} (d : decode (mB M) pc = .ok (.iconst i, 1)) (hv : v = Int32.ofInt i) (g : Go P M (pc + 1) L (.int v :: st) w out) : Go P M pc L (st) w out :=
  go_mv id (fun h hx hc α b r => XS.iconst (g := mkF _ pc (cL α b L) (cV α b (st))) h hx rfl (hb hc d) (hv ▸ r)) g
theorem go_bipush {i : Int} (d : decode (mB M) pc = .ok (.bipush i, 2)) (hv : v = (Int8.ofInt i).toInt32) (g : Go P M (pc + 2) L (.int v :: st) w out) : Go P M pc L (st) w out :=
  go_mv id (fun h hx hc α b r => XS.bipush (g := mkF _ pc (cL α b L) (cV α b (st))) h hx rfl (hb hc d) (hv ▸ r)) g
theorem go_sipush {i : Int} (d : decode (mB M) pc = .ok (.sipush i, 3)) (hv : v = (Int16.ofInt i).toInt32) (g : Go P M (pc + 3) L (.int v :: st) w out) : Go P M pc L (st) w out :=
  go_mv id (fun h hx hc α b r => XS.sipush (g := mkF _ pc (cL α b L) (cV α b (st))) h hx rfl (hb hc d) (hv ▸ r)) g
theorem go_lconst {i : Fin 2} (d : decode (mB M) pc = .ok (.lconst i, 1)) (hv : u = Int64.ofNat i) (g : Go P M (pc + 1) L (.long u :: st) w out) : Go P M pc L (st) w out :=
  go_mv id (fun h hx hc α b r => XT.lconst (g := mkF _ pc (cL α b L) (cV α b (st))) h hx rfl (hb hc d) (hv ▸ r)) g
theorem go_dup  (d : decode (mB M) pc = .ok (.dup, 1))  (g : Go P M (pc + 1) L (.int x :: .int x :: st) w out) : Go P M pc L (.int x :: st) w out :=
  go_mv id (fun h hx hc α b r => XS.dup (g := mkF _ pc (cL α b L) (cV α b (.int x :: st))) h hx rfl (hb hc d) rfl rfl r) g
theorem go_dupR {a : Nat} (d : decode (mB M) pc = .ok (.dup, 1))  (g : Go P M (pc + 1) L (.ref a :: .ref a :: st) w out) : Go P M pc L (.ref a :: st) w out :=
  go_mv id (fun h hx hc α b r => XS.dup (g := mkF _ pc (cL α b L) (cV α b (.ref a :: st))) h hx rfl (hb hc d) rfl (con_cat α b (.ref a)) r) g
theorem go_dup2 {a : Nat} (d : decode (mB M) pc = .ok (.dup2, 1))  (g : Go P M (pc + 1) L (.int x :: .ref a :: .int x :: .ref a :: st) w out) : Go P M pc L (.int x :: .ref a :: st) w out :=
  go_mv id (fun h hx hc α b r => XT.dup2 (g := mkF _ pc (cL α b L) (cV α b (.int x :: .ref a :: st))) h hx rfl (hb hc d) rfl rfl (con_cat α b (.ref a)) r) g
theorem go_dup2I  (d : decode (mB M) pc = .ok (.dup2, 1))  (g : Go P M (pc + 1) L (.int x :: .int y :: .int x :: .int y :: st) w out) : Go P M pc L (.int x :: .int y :: st) w out :=
  go_mv id (fun h hx hc α b r => XT.dup2 (g := mkF _ pc (cL α b L) (cV α b (.int x :: .int y :: st))) h hx rfl (hb hc d) rfl rfl rfl r) g
theorem go_dup2L  (d : decode (mB M) pc = .ok (.dup2, 1))  (g : Go P M (pc + 1) L (.long u :: .long u :: st) w out) : Go P M pc L (.long u :: st) w out :=
  go_mv id (fun h hx hc α b r => XT.dup2L (g := mkF _ pc (cL α b L) (cV α b (.long u :: st))) h hx rfl (hb hc d) rfl r) g
theorem go_pop  (d : decode (mB M) pc = .ok (.pop, 1))  (g : Go P M (pc + 1) L (st) w out) : Go P M pc L (.int x :: st) w out :=
  go_mv id (fun h hx hc α b r => XT.pop (g := mkF _ pc (cL α b L) (cV α b (.int x :: st))) h hx rfl (hb hc d) rfl rfl r) g
theorem go_iadd  (d : decode (mB M) pc = .ok (.iadd, 1))  (g : Go P M (pc + 1) L (.int (x + y) :: st) w out) : Go P M pc L (.int y :: .int x :: st) w out :=
  go_mv id (fun h hx hc α b r => XS.iadd (g := mkF _ pc (cL α b L) (cV α b (.int y :: .int x :: st))) h hx rfl (hb hc d) rfl r) g
theorem go_isub  (d : decode (mB M) pc = .ok (.isub, 1))  (g : Go P M (pc + 1) L (.int (x - y) :: st) w out) : Go P M pc L (.int y :: .int x :: st) w out :=
  go_mv id (fun h hx hc α b r => XS.isub (g := mkF _ pc (cL α b L) (cV α b (.int y :: .int x :: st))) h hx rfl (hb hc d) rfl r) g
theorem go_imul  (d : decode (mB M) pc = .ok (.imul, 1))  (g : Go P M (pc + 1) L (.int (x * y) :: st) w out) : Go P M pc L (.int y :: .int x :: st) w out :=
  go_mv id (fun h hx hc α b r => XS.imul (g := mkF _ pc (cL α b L) (cV α b (.int y :: .int x :: st))) h hx rfl (hb hc d) rfl r) g
theorem go_iand  (d : decode (mB M) pc = .ok (.iand, 1))  (g : Go P M (pc + 1) L (.int (x &&& y) :: st) w out) : Go P M pc L (.int y :: .int x :: st) w out :=
  go_mv id (fun h hx hc α b r => XS.iand (g := mkF _ pc (cL α b L) (cV α b (.int y :: .int x :: st))) h hx rfl (hb hc d) rfl r) g
theorem go_ior  (d : decode (mB M) pc = .ok (.ior, 1))  (g : Go P M (pc + 1) L (.int (x ||| y) :: st) w out) : Go P M pc L (.int y :: .int x :: st) w out :=
  go_mv id (fun h hx hc α b r => XT.ior (g := mkF _ pc (cL α b L) (cV α b (.int y :: .int x :: st))) h hx rfl (hb hc d) rfl r) g
theorem go_ixor  (d : decode (mB M) pc = .ok (.ixor, 1))  (g : Go P M (pc + 1) L (.int (x ^^^ y) :: st) w out) : Go P M pc L (.int y :: .int x :: st) w out :=
  go_mv id (fun h hx hc α b r => XT.ixor (g := mkF _ pc (cL α b L) (cV α b (.int y :: .int x :: st))) h hx rfl (hb hc d) rfl r) g
theorem go_ishl  (d : decode (mB M) pc = .ok (.ishl, 1))  (g : Go P M (pc + 1) L (.int (x <<< (y &&& 31)) :: st) w out) : Go P M pc L (.int y :: .int x :: st) w out :=
  go_mv id (fun h hx hc α b r => XT.ishl (g := mkF _ pc (cL α b L) (cV α b (.int y :: .int x :: st))) h hx rfl (hb hc d) rfl r) g
theorem go_ishr  (d : decode (mB M) pc = .ok (.ishr, 1))  (g : Go P M (pc + 1) L (.int (x >>> (y &&& 31)) :: st) w out) : Go P M pc L (.int y :: .int x :: st) w out :=
  go_mv id (fun h hx hc α b r => XT.ishr (g := mkF _ pc (cL α b L) (cV α b (.int y :: .int x :: st))) h hx rfl (hb hc d) rfl r) g
theorem go_iushr  (d : decode (mB M) pc = .ok (.iushr, 1))  (g : Go P M (pc + 1) L (.int (XT.ushr x y) :: st) w out) : Go P M pc L (.int y :: .int x :: st) w out :=
  go_mv id (fun h hx hc α b r => XT.iushr (g := mkF _ pc (cL α b L) (cV α b (.int y :: .int x :: st))) h hx rfl (hb hc d) rfl r) g
theorem go_idiv  (d : decode (mB M) pc = .ok (.idiv, 1)) (hy : y ≠ 0) (g : Go P M (pc + 1) L (.int (x / y) :: st) w out) : Go P M pc L (.int y :: .int x :: st) w out :=
  go_mv id (fun h hx hc α b r => XS.idiv (g := mkF _ pc (cL α b L) (cV α b (.int y :: .int x :: st))) h hx rfl (hb hc d) rfl hy r) g
theorem go_irem  (d : decode (mB M) pc = .ok (.irem, 1)) (hy : y ≠ 0) (g : Go P M (pc + 1) L (.int (x % y) :: st) w out) : Go P M pc L (.int y :: .int x :: st) w out :=
  go_mv id (fun h hx hc α b r => XS.irem (g := mkF _ pc (cL α b L) (cV α b (.int y :: .int x :: st))) h hx rfl (hb hc d) rfl hy (by rw [irem_eq_mod x y]; exact r)) g
theorem go_ineg  (d : decode (mB M) pc = .ok (.ineg, 1))  (g : Go P M (pc + 1) L (.int (-x) :: st) w out) : Go P M pc L (.int x :: st) w out :=
  go_mv id (fun h hx hc α b r => XS.ineg (g := mkF _ pc (cL α b L) (cV α b (.int x :: st))) h hx rfl (hb hc d) rfl r) g
theorem go_ladd  (d : decode (mB M) pc = .ok (.ladd, 1))  (g : Go P M (pc + 1) L (.long (u + r) :: st) w out) : Go P M pc L (.long r :: .long u :: st) w out :=
  go_mv id (fun h hx hc α b k => XT.ladd (g := mkF _ pc (cL α b L) (cV α b (.long r :: .long u :: st))) h hx rfl (hb hc d) rfl k) g
theorem go_lsub  (d : decode (mB M) pc = .ok (.lsub, 1))  (g : Go P M (pc + 1) L (.long (u - r) :: st) w out) : Go P M pc L (.long r :: .long u :: st) w out :=
  go_mv id (fun h hx hc α b k => XT.lsub (g := mkF _ pc (cL α b L) (cV α b (.long r :: .long u :: st))) h hx rfl (hb hc d) rfl k) g
theorem go_lmul  (d : decode (mB M) pc = .ok (.lmul, 1))  (g : Go P M (pc + 1) L (.long (u * r) :: st) w out) : Go P M pc L (.long r :: .long u :: st) w out :=
  go_mv id (fun h hx hc α b k => XT.lmul (g := mkF _ pc (cL α b L) (cV α b (.long r :: .long u :: st))) h hx rfl (hb hc d) rfl k) g
theorem go_land  (d : decode (mB M) pc = .ok (.land, 1))  (g : Go P M (pc + 1) L (.long (u &&& r) :: st) w out) : Go P M pc L (.long r :: .long u :: st) w out :=
  go_mv id (fun h hx hc α b k => XT.land (g := mkF _ pc (cL α b L) (cV α b (.long r :: .long u :: st))) h hx rfl (hb hc d) rfl k) g
theorem go_lor  (d : decode (mB M) pc = .ok (.lor, 1))  (g : Go P M (pc + 1) L (.long (u ||| r) :: st) w out) : Go P M pc L (.long r :: .long u :: st) w out :=
  go_mv id (fun h hx hc α b k => XT.lor (g := mkF _ pc (cL α b L) (cV α b (.long r :: .long u :: st))) h hx rfl (hb hc d) rfl k) g
theorem go_lxor  (d : decode (mB M) pc = .ok (.lxor, 1))  (g : Go P M (pc + 1) L (.long (u ^^^ r) :: st) w out) : Go P M pc L (.long r :: .long u :: st) w out :=
  go_mv id (fun h hx hc α b k => XT.lxor (g := mkF _ pc (cL α b L) (cV α b (.long r :: .long u :: st))) h hx rfl (hb hc d) rfl k) g
theorem go_lshl  (d : decode (mB M) pc = .ok (.lshl, 1))  (g : Go P M (pc + 1) L (.long (u <<< (y.toInt64 &&& 63)) :: st) w out) : Go P M pc L (.int y :: .long u :: st) w out :=
  go_mv id (fun h hx hc α b r => XT.lshl (g := mkF _ pc (cL α b L) (cV α b (.int y :: .long u :: st))) h hx rfl (hb hc d) rfl r) g
theorem go_lshr  (d : decode (mB M) pc = .ok (.lshr, 1))  (g : Go P M (pc + 1) L (.long (u >>> (y.toInt64 &&& 63)) :: st) w out) : Go P M pc L (.int y :: .long u :: st) w out :=
  go_mv id (fun h hx hc α b r => XT.lshr (g := mkF _ pc (cL α b L) (cV α b (.int y :: .long u :: st))) h hx rfl (hb hc d) rfl r) g
theorem go_lushr  (d : decode (mB M) pc = .ok (.lushr, 1))  (g : Go P M (pc + 1) L (.long (XT.ushrL u y) :: st) w out) : Go P M pc L (.int y :: .long u :: st) w out :=
  go_mv id (fun h hx hc α b r => XT.lushr (g := mkF _ pc (cL α b L) (cV α b (.int y :: .long u :: st))) h hx rfl (hb hc d) rfl r) g
theorem go_lcmp  (d : decode (mB M) pc = .ok (.lcmp, 1))  (g : Go P M (pc + 1) L (.int (XT.cmpL u r) :: st) w out) : Go P M pc L (.long r :: .long u :: st) w out :=
  go_mv id (fun h hx hc α b k => XT.lcmp (g := mkF _ pc (cL α b L) (cV α b (.long r :: .long u :: st))) h hx rfl (hb hc d) rfl k) g
theorem go_i2l  (d : decode (mB M) pc = .ok (.i2l, 1))  (g : Go P M (pc + 1) L (.long x.toInt64 :: st) w out) : Go P M pc L (.int x :: st) w out :=
  go_mv id (fun h hx hc α b r => XT.i2l (g := mkF _ pc (cL α b L) (cV α b (.int x :: st))) h hx rfl (hb hc d) rfl r) g
theorem go_l2i  (d : decode (mB M) pc = .ok (.l2i, 1))  (g : Go P M (pc + 1) L (.int u.toInt32 :: st) w out) : Go P M pc L (.long u :: st) w out :=
  go_mv id (fun h hx hc α b r => XT.l2i (g := mkF _ pc (cL α b L) (cV α b (.long u :: st))) h hx rfl (hb hc d) rfl r) g
theorem go_i2b  (d : decode (mB M) pc = .ok (.i2b, 1))  (g : Go P M (pc + 1) L (.int x.toInt8.toInt32 :: st) w out) : Go P M pc L (.int x :: st) w out :=
  go_mv id (fun h hx hc α b r => XT.i2b (g := mkF _ pc (cL α b L) (cV α b (.int x :: st))) h hx rfl (hb hc d) rfl r) g
theorem go_iinc {k : Nat} {i : Int} (d : decode (mB M) pc = .ok (.iinc k i, 3)) (h1 : L[k]? = some (.val (.int x))) (hv : v = Int32.ofInt i) (hl : storeLocals L.toArray k (.int (x + v)) = some L'.toArray) (g : Go P M (pc + 3) L' (st) w out) : Go P M pc L (st) w out :=
  by subst hv; exact go_mv (fun q => by have := store_size hl; simp at this; omega) (fun h hx hc α b r => XS.iinc (g := mkF _ pc (cL α b L) (cV α b (st))) h hx rfl (hb hc d) (cL_get h1) (storeC hl) r) g
theorem go_goto {o : Int} (d : decode (mB M) pc = .ok (.goto o, 3)) (hp : 0 ≤ (pc : Int) + o ∧ ((pc : Int) + o).toNat = pc') (g : Go P M pc' L (st) w out) : Go P M pc L (st) w out :=
  go_mv id (fun h hx hc α b r => XS.goto (g := mkF _ pc (cL α b L) (cV α b (st))) h hx rfl rfl (hb hc d) hp.1 hp.2 r) g
theorem go_ifY {cd : ClassFile.Cond} {o : Int} (d : decode (mB M) pc = .ok (.ifCond cd o, 3)) (hq : ifCond.holds cd x = true) (hp : 0 ≤ (pc : Int) + o ∧ ((pc : Int) + o).toNat = pc') (g : Go P M pc' L (st) w out) : Go P M pc L (.int x :: st) w out :=
  go_mv id (fun h hx hc α b r => XS.ifYes (g := mkF _ pc (cL α b L) (cV α b (.int x :: st))) h hx rfl rfl (hb hc d) rfl hq hp.1 hp.2 r) g
theorem go_ifN {cd : ClassFile.Cond} {o : Int} (d : decode (mB M) pc = .ok (.ifCond cd o, 3)) (hq : ifCond.holds cd x = false) (g : Go P M (pc + 3) L (st) w out) : Go P M pc L (.int x :: st) w out :=
  go_mv id (fun h hx hc α b r => XS.ifNo (g := mkF _ pc (cL α b L) (cV α b (.int x :: st))) h hx rfl (hb hc d) rfl hq r) g
theorem go_icY {cd : ClassFile.Cond} {o : Int} (d : decode (mB M) pc = .ok (.if_icmp cd o, 3)) (hq : if_icmp.holds cd x y = true) (hp : 0 ≤ (pc : Int) + o ∧ ((pc : Int) + o).toNat = pc') (g : Go P M pc' L (st) w out) : Go P M pc L (.int y :: .int x :: st) w out :=
  go_mv id (fun h hx hc α b r => XS.icmpYes (g := mkF _ pc (cL α b L) (cV α b (.int y :: .int x :: st))) h hx rfl rfl (hb hc d) rfl hq hp.1 hp.2 r) g
theorem go_icN {cd : ClassFile.Cond} {o : Int} (d : decode (mB M) pc = .ok (.if_icmp cd o, 3)) (hq : if_icmp.holds cd x y = false) (g : Go P M (pc + 3) L (st) w out) : Go P M pc L (.int y :: .int x :: st) w out :=
  go_mv id (fun h hx hc α b r => XS.icmpNo (g := mkF _ pc (cL α b L) (cV α b (.int y :: .int x :: st))) h hx rfl (hb hc d) rfl hq r) g
theorem go_nonnull {o : Int} (d : decode (mB M) pc = .ok (.ifnonnull o, 3)) (hp : 0 ≤ (pc : Int) + o ∧ ((pc : Int) + o).toNat = pc') (g : Go P M pc' L st w out) : Go P M pc L (.ref 0 :: st) w out :=
  go_mv id (fun h hx hc α b r => XT.ifnonnullYes (g := mkF _ pc (cL α b L) (cV α b (.ref 0 :: st))) (b := α) h hx rfl rfl (hb hc d) rfl hp.1 hp.2 r) g
theorem go_tswIn {dflt low high : Int} {offs : Array Int} {len : Nat} {o : Int} (d : decode (mB M) pc = .ok (.tableswitch dflt low high offs, len)) (hin : ¬ (x.toInt < low ∨ x.toInt > high)) (hoff : offs[(x.toInt - low).toNat]? = some o) (hp : 0 ≤ (pc : Int) + o ∧ ((pc : Int) + o).toNat = pc') (g : Go P M pc' L st w out) : Go P M pc L (.int x :: st) w out :=
  go_mv id (fun h hx hc α b r => XS.tswIn (g := mkF _ pc (cL α b L) (cV α b (.int x :: st))) h hx rfl rfl (hb hc d) rfl hin hoff hp.1 hp.2 r) g
theorem go_tswOut {dflt low high : Int} {offs : Array Int} {len : Nat} (d : decode (mB M) pc = .ok (.tableswitch dflt low high offs, len)) (hout : x.toInt < low ∨ x.toInt > high) (hp : 0 ≤ (pc : Int) + dflt ∧ ((pc : Int) + dflt).toNat = pc') (g : Go P M pc' L st w out) : Go P M pc L (.int x :: st) w out :=
  go_mv id (fun h hx hc α b r => XS.tswOut (g := mkF _ pc (cL α b L) (cV α b (.int x :: st))) h hx rfl rfl (hb hc d) rfl hout hp.1 hp.2 r) g
/-! ### constants of the pool -/
theorem go_ldc {k : Nat} (d : decode (mB M) pc = .ok (.ldc k, 2)) (hk : Jvm.Cond.constant (mY M).cls k v ∈ P.1) (g : Go P M (pc + 2) L (.int v :: st) w out) : Go P M pc L st w out :=
  go_ch (fun l Z a0 p e R s m args below meth c α b n0 h0 uC uS ok hl T locs cells slots I => ⟨T, locs, cells, slots, I, fun target r => Stand.ldcI (g := mkF m pc (cL α b L) (cV α b st)) I.1 ok.2.2.1 ok.2.2.2.2.1 (mvT ok.2.2.2.1 (ok.1 _ hk)) rfl (hb ok.2.2.2.2.2.1 d) r⟩) g
theorem go_ldcW {k : Nat} (d : decode (mB M) pc = .ok (.ldc_w k, 3)) (hk : Jvm.Cond.constant (mY M).cls k v ∈ P.1) (g : Go P M (pc + 3) L (.int v :: st) w out) : Go P M pc L st w out :=
  go_ch (fun l Z a0 p e R s m args below meth c α b n0 h0 uC uS ok hl T locs cells slots I => ⟨T, locs, cells, slots, I, fun target r => Stand.ldcWI (g := mkF m pc (cL α b L) (cV α b st)) I.1 ok.2.2.1 ok.2.2.2.2.1 (mvT ok.2.2.2.1 (ok.1 _ hk)) rfl (hb ok.2.2.2.2.2.1 d) r⟩) g
theorem go_ldc2 {k : Nat} (d : decode (mB M) pc = .ok (.ldc2_w k, 3)) (hk : Jvm.Cond.constantLong (mY M).cls k u ∈ P.1) (g : Go P M (pc + 3) L (.long u :: st) w out) : Go P M pc L st w out :=
  go_ch (fun l Z a0 p e R s m args below meth c α b n0 h0 uC uS ok hl T locs cells slots I => ⟨T, locs, cells, slots, I, fun target r => Stand.ldc2J (g := mkF m pc (cL α b L) (cV α b st)) I.1 ok.2.2.1 ok.2.2.2.2.1 (mvT ok.2.2.2.1 (ok.1 _ hk)) rfl (hb ok.2.2.2.2.2.1 d) r⟩) g
/-! ### returns -/
theorem go_iret (hT : mT M = some .int) (d : decode (mB M) pc = .ok (.ireturn, 1)) : Go P M pc L (.int x :: st) w (some (.int x), w) := by
  intro hl l Z a0 p e R s m args below meth c α b n0 h0 uC uS ok T locs cells slots I
  exact ⟨T, locs, cells, slots, I, fun fs hv => retOut I.1 ok.2.2.1 (t := .int) (ok.2.2.2.2.2.2.2.1.trans hT) rfl (Or.inl ⟨rfl, Or.inl rfl, x, rfl⟩) (hb ok.2.2.2.2.2.1 d) hv⟩
theorem go_zret (hT : mT M = some .boolean) (d : decode (mB M) pc = .ok (.ireturn, 1)) (hz : v = nar .boolean x) : Go P M pc L (.int x :: st) w (some (.int v), w) := by
  intro hl l Z a0 p e R s m args below meth c α b n0 h0 uC uS ok T locs cells slots I
  subst hz
  exact ⟨T, locs, cells, slots, I, fun fs hv => retN I.1 ok.2.2.1 (t := .boolean) (ok.2.2.2.2.2.2.2.1.trans hT) (Or.inl rfl) (hb ok.2.2.2.2.2.1 d) hv⟩
theorem go_lret (hT : mT M = some .long) (d : decode (mB M) pc = .ok (.lreturn, 1)) : Go P M pc L (.long u :: st) w (some (.long u), w) := by
  intro hl l Z a0 p e R s m args below meth c α b n0 h0 uC uS ok T locs cells slots I
  exact ⟨T, locs, cells, slots, I, fun fs hv => retOut I.1 ok.2.2.1 (t := .long) (ok.2.2.2.2.2.2.2.1.trans hT) rfl (Or.inr (Or.inl ⟨rfl, rfl, u, rfl⟩)) (hb ok.2.2.2.2.2.1 d) hv⟩
theorem go_ret (hT : mT M = none) (d : decode (mB M) pc = .ok (.return_, 1)) : Go P M pc L [] w (none, w) := by
  intro hl l Z a0 p e R s m args below meth c α b n0 h0 uC uS ok T locs cells slots I
  exact ⟨T, locs, cells, slots, I, fun fs hv => I.1.returnOut ok.2.2.1 (ok.2.2.2.2.2.2.2.1.trans hT) (hb ok.2.2.2.2.2.1 d) hv⟩
/-! ### fields -/
variable {o o' : Nat × S} {s : S} {k n : Nat}
theorem rep_one {Z : State} {ci : CI} {α b : Nat} {h : Heap} (F : RepW Z ci α b (none, [o]) h) : Rep1 Z ci h b o := by
  have := F.2 0 o rfl
  simpa using this
theorem rep_mk {Z : State} {ci : CI} {α b : Nat} {h : Heap} (F : Rep1 Z ci h b o) : RepW Z ci α b (none, [o]) h :=
  ⟨fun l hl => (nomatch hl), fun i o1 ho => by
    cases i with
    | zero => cases ho; simpa using F
    | succ i => simp at ho⟩
/-- the entry idx names the scalar field number f; of type ty -/
def FldS (P : PI) (idx f : Nat) (ty : FieldType) : Prop := ∃ nm ds, (cS P.2)[f]? = some (nm, ds, ty) ∧ Jvm.Cond.fieldLink (cN P.2) idx (cN P.2) nm ds ∈ P.1
def FldA (P : PI) (idx q : Nat) (ty : FieldType) : Prop := ∃ nm ds cap, (cA P.2)[q]? = some (nm, ds, ty, cap) ∧ Jvm.Cond.fieldLink (cN P.2) idx (cN P.2) nm ds ∈ P.1
theorem go_getV {idx f : Nat} {ty : FieldType} (F : FldS P idx f ty) (hM : (mY M).cls = cN P.2) (d : decode (mB M) pc = .ok (.getfield idx, 3)) {vv : Value} (hv : vv = scV ty s f) (hr : ∀ α b, con α b vv = vv) (g : Go P M (pc + 3) L (vv :: st) (none, [(k, s)]) out) : Go P M pc L (.ref 1 :: st) (none, [(k, s)]) out :=
  go_ch (fun l Z a0 p e R s1 m args below meth c α b n0 h0 uC uS ok hl T locs cells slots I => by
    obtain ⟨nm, ds, f1, f2⟩ := F
    obtain ⟨hw, fa, hx, hZ, hown, hc, hml, hret, hnm, hR, hn0, htop, hsz⟩ := ok
    obtain ⟨X, Rp, Fm, Nl, hs, u1, u2, c1, c2, hN⟩ := I
    have Fd := (rep_one Rp).2.1 f _ f1
    rw [hM] at hown
    obtain ⟨T', X', e', stp⟩ := getF X hx hZ hown (host := "") (Or.inl (hw _ f2)) Via.refl rfl Fd (g := mkF m pc (cL α b L) (cV α b (.ref 1 :: st))) rfl rfl (hb hc d)
    refine ⟨T', locs, cells, slots, ⟨X', by rw [e']; exact Rp, by rw [e']; exact Fm, Nl, by rw [e']; exact hs, u1, u2, c1, c2, hN⟩, fun target r => stp target ?_⟩
    rw [show cV α b (vv :: st) = con α b vv :: cV α b st from rfl, hr, hv] at r
    exact r) g
theorem go_getI {idx f : Nat} (F : FldS P idx f .int) (hM : (mY M).cls = cN P.2) (d : decode (mB M) pc = .ok (.getfield idx, 3)) (g : Go P M (pc + 3) L (.int (gI s f) :: st) (none, [(k, s)]) out) : Go P M pc L (.ref 1 :: st) (none, [(k, s)]) out :=
  go_getV F hM d rfl (fun _ _ => rfl) g
theorem go_getZ {idx f : Nat} (F : FldS P idx f .boolean) (hM : (mY M).cls = cN P.2) (d : decode (mB M) pc = .ok (.getfield idx, 3)) (g : Go P M (pc + 3) L (.int (gI s f) :: st) (none, [(k, s)]) out) : Go P M pc L (.ref 1 :: st) (none, [(k, s)]) out :=
  go_getV F hM d rfl (fun _ _ => rfl) g
theorem go_getJ {idx f : Nat} (F : FldS P idx f .long) (hM : (mY M).cls = cN P.2) (d : decode (mB M) pc = .ok (.getfield idx, 3)) (g : Go P M (pc + 3) L (.long (gL s f) :: st) (none, [(k, s)]) out) : Go P M pc L (.ref 1 :: st) (none, [(k, s)]) out :=
  go_getV F hM d rfl (fun _ _ => rfl) g
theorem go_getA {idx q : Nat} {ty : FieldType} (F : FldA P idx q ty) (hM : (mY M).cls = cN P.2) (d : decode (mB M) pc = .ok (.getfield idx, 3)) (hq : Nat.blt q k = true) (g : Go P M (pc + 3) L (.ref (q + 2) :: st) (none, [(k, s)]) out) : Go P M pc L (.ref 1 :: st) (none, [(k, s)]) out :=
  go_ch (fun l Z a0 p e R s1 m args below meth c α b n0 h0 uC uS ok hl T locs cells slots I => by
    obtain ⟨nm, ds, cap, f1, f2⟩ := F
    obtain ⟨hw, fa, hx, hZ, hown, hc, hml, hret, hnm, hR, hn0, htop, hsz⟩ := ok
    obtain ⟨X, Rp, Fm, Nl, hs, u1, u2, c1, c2, hN⟩ := I
    have Fd := (rep_one Rp).2.2.1 q _ f1
    rw [if_pos (show q < (k, s).1 by simpa [Nat.blt_eq] using hq)] at Fd
    rw [hM] at hown
    obtain ⟨T', X', e', stp⟩ := getF X hx hZ hown (host := "") (Or.inl (hw _ f2)) Via.refl rfl Fd (g := mkF m pc (cL α b L) (cV α b (.ref 1 :: st))) rfl rfl (hb hc d)
    refine ⟨T', locs, cells, slots, ⟨X', by rw [e']; exact Rp, by rw [e']; exact Fm, Nl, by rw [e']; exact hs, u1, u2, c1, c2, hN⟩, fun target r => stp target ?_⟩
    rw [show cV α b (.ref (q + 2) :: st) = .ref (b + (q + 1)) :: cV α b st from rfl] at r
    rw [show b + 1 + q = b + (q + 1) by omega]
    exact r) g
/-- another scalar of the object takes its value -/
theorem rep_put {Z : State} {a0 : Array Value} {ci : CI} {h h' : Heap} {b : Nat} {s s' : S} {k f : Nat} {nm ds : String} {ty : FieldType} {vv : Value} (fa : Facts Z a0 ci) (F : Rep1 Z ci h b (k, s)) (hf : (cS ci)[f]? = some (nm, ds, ty))
    (Wt : Wr h h' b (Jvm.RoadKit.slotOf Z (cN ci) nm ds) vv) (hv : vv = scV ty s' f) (ho : ∀ f' x, (cS ci)[f']? = some x → f' ≠ f → scV x.2.2 s' f' = scV x.2.2 s f') (ha : gA s' = gA s) (hbb : gB s' = gB s) : Rep1 Z ci h' b (k, s') := by
  obtain ⟨f1, f2, f3, f4⟩ := F
  obtain ⟨-, -, g1, g2, g3, -⟩ := fa
  have lt := get_lt hf
  refine ⟨f1.wr Wt, fun f' x hx => ?_, fun q x hx => ?_, fun q x hx hq => ?_⟩
  · by_cases e : f' = f
    · subst e
      cases hf.symm.trans hx
      show Fld Z h' b (cN ci) nm ds (scV ty s' f')
      rw [← hv]; exact (f2 f' _ hf).same Wt
    · have lt' := get_lt hx
      show Fld Z h' b (cN ci) x.1 x.2.1 (scV x.2.2 s' f')
      rw [ho f' x hx e]
      refine (f2 f' x hx).other Wt (Or.inr ?_)
      refine slot_ne (g1 f' x hx).1 (g1 f _ hf).1 ?_ (g1 f' x hx).2 (g1 f _ hf).2
      intro en
      have n1 : ((cS ci).map (fun x => x.1) ++ (cA ci).map (fun x => x.1))[f']? = some x.1 := by rw [List.getElem?_append_left (by simpa using lt')]; simp [hx]
      have n2 : ((cS ci).map (fun x => x.1) ++ (cA ci).map (fun x => x.1))[f]? = some nm := by rw [List.getElem?_append_left (by simpa using lt)]; simp [hf]
      rw [en] at n1
      obtain ⟨i1, j1⟩ := List.getElem?_eq_some_iff.mp n1
      obtain ⟨i2, j2⟩ := List.getElem?_eq_some_iff.mp n2
      exact e ((List.getElem_inj g3).mp (j1.trans j2.symm))
  · refine (f3 q x hx).other Wt (Or.inr ?_)
    have lt' := get_lt hx
    refine slot_ne (g2 q x hx).1 (g1 f _ hf).1 ?_ (g2 q x hx).2 (g1 f _ hf).2
    intro en
    have n1 : ((cS ci).map (fun x => x.1) ++ (cA ci).map (fun x => x.1))[(cS ci).length + q]? = some x.1 := by rw [List.getElem?_append_right (by simp)]; simp [hx]
    have n2 : ((cS ci).map (fun x => x.1) ++ (cA ci).map (fun x => x.1))[f]? = some nm := by rw [List.getElem?_append_left (by simpa using lt)]; simp [hf]
    rw [en] at n1
    obtain ⟨i1, j1⟩ := List.getElem?_eq_some_iff.mp n1
    obtain ⟨i2, j2⟩ := List.getElem?_eq_some_iff.mp n2
    have := (List.getElem_inj g3).mp (j1.trans j2.symm)
    omega
  · obtain ⟨c, A, e⟩ := f4 q x hx hq
    refine ⟨c, A.other Wt (nq (by omega)), e.trans ?_⟩
    show (arV x.2.2.1 s q).toArray = (arV x.2.2.1 s' q).toArray
    unfold arV
    split <;> simp [ha, hbb]
theorem go_putV {idx f : Nat} {ty : FieldType} {vv : Value} {s' : S} (F : FldS P idx f ty) (hM : (mY M).cls = cN P.2)
    (hlays : ∀ nm ds, (cS P.2)[f]? = some (nm, ds, ty) → Jvm.Cond.lays (cN P.2) (cN P.2) nm ds ∈ P.1 ∨ (Jvm.Cond.laysFinal (cN P.2) (cN P.2) nm ds ∈ P.1 ∧ (mY M).name = "<init>"))
    (hpos : 0 < mN M) (hr : ∀ α b, con α b vv = vv) (hn : narrow ty vv = vv) (hfi : fits ty vv = true) (hv : vv = scV ty s' f) (ho : ∀ f' x, (cS P.2)[f']? = some x → f' ≠ f → scV x.2.2 s' f' = scV x.2.2 s f') (ha : gA s' = gA s) (hbb : gB s' = gB s)
    (d : decode (mB M) pc = .ok (.putfield idx, 3)) (g : Go P M (pc + 3) L st (none, [(k, s')]) out) : Go P M pc L (vv :: .ref 1 :: st) (none, [(k, s)]) out :=
  go_ch (fun l Z a0 p e R s1 m args below meth c α b n0 h0 uC uS ok hl T locs cells slots I => by
    obtain ⟨nm, ds, f1, f2⟩ := F
    obtain ⟨hw, fa, hx, hZ, hown, hc, hml, hret, hnm, hR, hn0, htop, hsz⟩ := ok
    obtain ⟨X, Rp, Fm, Nl, hs, u1, u2, c1, c2, hN⟩ := I
    have Rp1 := rep_one Rp
    have Fd := Rp1.2.1 f _ f1
    rw [hM] at hown
    obtain ⟨T', h', X', e', Wt, stp⟩ := putF X hx hZ hown (host := "") (Or.inl (hw _ f2)) Via.refl rfl Fd Rp1.1 ((hlays nm ds f1).imp (fun q => hw _ q) (fun q => ⟨hw _ q.1, rfl, hnm.trans q.2⟩)) fa.1 (fa.2.2.1 f _ f1).2 hn hfi (g := mkF m pc (cL α b L) (vv :: .ref b :: cV α b st)) rfl rfl (hb hc d)
    refine ⟨T', _, cells, slots, ⟨X', rep_mk (by rw [e']; exact rep_put fa Rp1 f1 Wt hv ho ha hbb), by rw [e']; exact Fm.wr Wt (Nat.le_refl _) (by have := Nat.mul_le_mul_left (cK P.2 + 1) hpos; omega), Fr.snoc X' Nl hn0, by rw [e', Wt.size]; exact hs, u1, u2, c1, c2, hN⟩, fun target r => ?_⟩
    rw [show cV α b (vv :: .ref 1 :: st) = con α b vv :: .ref b :: cV α b st from rfl, hr]
    exact stp target r) g
theorem scV_sI (s : S) (f : Nat) (x : Int32) (ty : FieldType) (f' : Nat) (h : f' ≠ f) : scV ty (sI s f x) f' = scV ty s f' := by
  unfold scV; split <;> simp [gI_sI, gL_sI, h]
theorem scV_sL (s : S) (f : Nat) (x : Int64) (ty : FieldType) (f' : Nat) (h : f' ≠ f) : scV ty (sL s f x) f' = scV ty s f' := by
  unfold scV; split <;> simp [gI_sL, gL_sL, h]
/-- the word that lets the field be written -/
def Wrt (P : PI) (M : Meth) (f : Nat) : Prop := ∃ nm ds ty, (cS P.2)[f]? = some (nm, ds, ty) ∧ (Jvm.Cond.lays (cN P.2) (cN P.2) nm ds ∈ P.1 ∨ (Jvm.Cond.laysFinal (cN P.2) (cN P.2) nm ds ∈ P.1 ∧ (mY M).name = "<init>"))
theorem Wrt.use {f : Nat} {ty : FieldType} (h : Wrt P M f) : ∀ nm ds, (cS P.2)[f]? = some (nm, ds, ty) → Jvm.Cond.lays (cN P.2) (cN P.2) nm ds ∈ P.1 ∨ (Jvm.Cond.laysFinal (cN P.2) (cN P.2) nm ds ∈ P.1 ∧ (mY M).name = "<init>") := by
  obtain ⟨nm, ds, ty', h1, h2⟩ := h
  intro nm' ds' h3
  cases h1.symm.trans h3
  exact h2
theorem go_putI {idx f : Nat} (F : FldS P idx f .int) (hM : (mY M).cls = cN P.2) (hl : Wrt P M f) (hp : 0 < mN M) (d : decode (mB M) pc = .ok (.putfield idx, 3)) (g : Go P M (pc + 3) L st (none, [(k, sI s f x)]) out) : Go P M pc L (.int x :: .ref 1 :: st) (none, [(k, s)]) out :=
  go_putV F hM hl.use hp (fun _ _ => rfl) rfl rfl (by simp [scV, gI_sI]) (fun f' y _ h => scV_sI s f x _ f' h) rfl rfl d g
theorem go_putZ {idx f : Nat} (F : FldS P idx f .boolean) (hM : (mY M).cls = cN P.2) (hl : Wrt P M f) (hp : 0 < mN M) (hz : x = 0 ∨ x = 1) (d : decode (mB M) pc = .ok (.putfield idx, 3)) (g : Go P M (pc + 3) L st (none, [(k, sI s f x)]) out) : Go P M pc L (.int x :: .ref 1 :: st) (none, [(k, s)]) out :=
  go_putV F hM hl.use hp (fun _ _ => rfl) (by rcases hz with rfl | rfl <;> rfl) (by rcases hz with rfl | rfl <;> rfl) (by simp [scV, gI_sI]) (fun f' y _ h => scV_sI s f x _ f' h) rfl rfl d g
theorem go_putJ {idx f : Nat} (F : FldS P idx f .long) (hM : (mY M).cls = cN P.2) (hl : Wrt P M f) (hp : 0 < mN M) (d : decode (mB M) pc = .ok (.putfield idx, 3)) (g : Go P M (pc + 3) L st (none, [(k, sL s f u)]) out) : Go P M pc L (.long u :: .ref 1 :: st) (none, [(k, s)]) out :=
  go_putV F hM hl.use hp (fun _ _ => rfl) rfl rfl (by simp [scV, gL_sL]) (fun f' y _ h => scV_sL s f u _ f' h) rfl rfl d g
/-! ### arrays -/
theorem ix_some {A : Type} {l : List A} {j : Int32} {x : A} (h : ix l j = some x) : ¬ j < 0 ∧ l[j.toNatClampNeg]? = some x := by
  unfold ix at h; split at h
  · cases h
  · rename_i q; exact ⟨q, h⟩
theorem st_some {A : Type} {l l' : List A} {j : Int32} {x : A} (h : Jvm.AM.st l j x = some l') : ¬ j < 0 ∧ j.toNatClampNeg < l.length ∧ l' = l.set j.toNatClampNeg x := by
  unfold Jvm.AM.st at h; split at h
  · cases h
  · rename_i q; split at h
    · rename_i q2; cases h; exact ⟨q, q2, rfl⟩
    · cases h
theorem ar_in {c : Cell} {vs : List Value} {j : Int32} {vv : Value} (e : c.slots = vs.toArray) (h1 : ¬ j < 0) (h2 : vs[j.toNatClampNeg]? = some vv) : ¬ (j < 0 ∨ c.slots.size ≤ j.toNatClampNeg) ∧ c.slots[j.toNatClampNeg]? = some vv := by
  have := get_lt h2
  refine ⟨fun q => ?_, by rw [e]; simpa using h2⟩
  rcases q with q | q
  · exact h1 q
  · rw [e] at q; simp at q; omega
theorem go_iaload {q : Nat} {j : Int32} {nm ds : String} {cap : Nat} (ha : (cA P.2)[q]? = some (nm, ds, .int, cap)) (hq : Nat.blt q k = true) (hx : ix (gA s q) j = some v) (d : decode (mB M) pc = .ok (.iaload, 1)) (g : Go P M (pc + 1) L (.int v :: st) (none, [(k, s)]) out) : Go P M pc L (.int j :: .ref (q + 2) :: st) (none, [(k, s)]) out :=
  go_ch (fun l Z a0 p e R s1 m args below meth c α b n0 h0 uC uS ok hl T locs cells slots I => by
    obtain ⟨cl, A, ec⟩ := (rep_one I.2.1).2.2.2 q _ ha (by simpa [Nat.blt_eq] using hq)
    obtain ⟨h1, h2⟩ := ix_some hx
    obtain ⟨h3, h4⟩ := ar_in ec h1 (vv := .int v) (by simp [arV, h2])
    refine ⟨T, locs, cells, slots, I, fun target r => ?_⟩
    refine I.1.iaload ok.2.2.1 (j := j) (v := .int v) A.1 (State.isArrayOf_alike ok.2.2.2.1.alike A.2.1) A.2.2 h3 h4 (g := mkF m pc (cL α b L) (.int j :: .ref (b + 1 + q) :: cV α b st)) rfl rfl (hb ok.2.2.2.2.2.1 d) _ r |> fun t => ?_
    rw [show cV α b (.int j :: .ref (q + 2) :: st) = .int j :: .ref (b + (q + 1)) :: cV α b st from rfl, show b + (q + 1) = b + 1 + q by omega]
    exact t) g
theorem go_laload {q : Nat} {j : Int32} {nm ds : String} {cap : Nat} (ha : (cA P.2)[q]? = some (nm, ds, .long, cap)) (hq : Nat.blt q k = true) (hx : ix (gB s q) j = some u) (d : decode (mB M) pc = .ok (.laload, 1)) (g : Go P M (pc + 1) L (.long u :: st) (none, [(k, s)]) out) : Go P M pc L (.int j :: .ref (q + 2) :: st) (none, [(k, s)]) out :=
  go_ch (fun l Z a0 p e R s1 m args below meth c α b n0 h0 uC uS ok hl T locs cells slots I => by
    obtain ⟨cl, A, ec⟩ := (rep_one I.2.1).2.2.2 q _ ha (by simpa [Nat.blt_eq] using hq)
    obtain ⟨h1, h2⟩ := ix_some hx
    obtain ⟨h3, h4⟩ := ar_in ec h1 (vv := .long u) (by simp [arV, h2])
    refine ⟨T, locs, cells, slots, I, fun target r => ?_⟩
    refine I.1.laload ok.2.2.1 (j := j) (v := .long u) A.1 (State.isArrayOf_alike ok.2.2.2.1.alike A.2.1) A.2.2 h3 h4 (g := mkF m pc (cL α b L) (.int j :: .ref (b + 1 + q) :: cV α b st)) rfl rfl (hb ok.2.2.2.2.2.1 d) _ r |> fun t => ?_
    rw [show cV α b (.int j :: .ref (q + 2) :: st) = .int j :: .ref (b + (q + 1)) :: cV α b st from rfl, show b + (q + 1) = b + 1 + q by omega]
    exact t) g
theorem go_baload {q : Nat} {j : Int32} {nm ds : String} {ty : FieldType} {cap : Nat} (ha : (cA P.2)[q]? = some (nm, ds, ty, cap)) (hty : ty = .boolean ∨ ty = .byte) (hq : Nat.blt q k = true) (hx : ix (gA s q) j = some v) (d : decode (mB M) pc = .ok (.baload, 1)) (g : Go P M (pc + 1) L (.int v :: st) (none, [(k, s)]) out) : Go P M pc L (.int j :: .ref (q + 2) :: st) (none, [(k, s)]) out :=
  go_ch (fun l Z a0 p e R s1 m args below meth c α b n0 h0 uC uS ok hl T locs cells slots I => by
    obtain ⟨cl, A, ec⟩ := (rep_one I.2.1).2.2.2 q _ ha (by simpa [Nat.blt_eq] using hq)
    obtain ⟨h1, h2⟩ := ix_some hx
    refine ⟨T, locs, cells, slots, I, fun target r => ?_⟩
    rw [show cV α b (.int j :: .ref (q + 2) :: st) = .int j :: .ref (b + (q + 1)) :: cV α b st from rfl, show b + (q + 1) = b + 1 + q by omega]
    rcases hty with rfl | rfl
    · obtain ⟨h3, h4⟩ := ar_in ec h1 (vv := .int v) (by simp [arV, h2])
      exact I.1.baloadBooleans ok.2.2.1 (j := j) (v := .int v) A.1 (State.isArrayOf_alike ok.2.2.2.1.alike A.2.1) A.2.2 h3 h4 (g := mkF m pc (cL α b L) (.int j :: .ref (b + 1 + q) :: cV α b st)) rfl rfl (hb ok.2.2.2.2.2.1 d) _ r
    · obtain ⟨h3, h4⟩ := ar_in ec h1 (vv := .int v) (by simp [arV, h2])
      exact I.1.baloadBytes ok.2.2.1 (j := j) (v := .int v) A.1 (State.isArrayOf_alike ok.2.2.2.1.alike A.2.1) A.2.2 h3 h4 (g := mkF m pc (cL α b L) (.int j :: .ref (b + 1 + q) :: cV α b st)) rfl rfl (hb ok.2.2.2.2.2.1 d) _ r) g
theorem go_alen {q : Nat} {nm ds : String} {ty : FieldType} {cap : Nat} (ha : (cA P.2)[q]? = some (nm, ds, ty, cap)) (hty : ty ≠ .long) (hq : Nat.blt q k = true) (d : decode (mB M) pc = .ok (.arraylength, 1)) (g : Go P M (pc + 1) L (.int (gA s q).length.toInt32 :: st) (none, [(k, s)]) out) : Go P M pc L (.ref (q + 2) :: st) (none, [(k, s)]) out :=
  go_ch (fun l Z a0 p e R s1 m args below meth c α b n0 h0 uC uS ok hl T locs cells slots I => by
    obtain ⟨cl, A, ec⟩ := (rep_one I.2.1).2.2.2 q _ ha (by simpa [Nat.blt_eq] using hq)
    refine ⟨T, locs, cells, slots, I, fun target r => ?_⟩
    have e1 : cl.slots.size = (gA s q).length := by rw [ec]; cases ty <;> simp [arV] at hty ⊢
    rw [show cV α b (.ref (q + 2) :: st) = .ref (b + (q + 1)) :: cV α b st from rfl, show b + (q + 1) = b + 1 + q by omega]
    refine I.1.arraylength ok.2.2.1 (cell := cl) A.1 (State.isArrayOf_alike ok.2.2.2.1.alike A.2.1) (g := mkF m pc (cL α b L) (.ref (b + 1 + q) :: cV α b st)) rfl rfl (hb ok.2.2.2.2.2.1 d) _ ?_
    rw [e1]; exact r) g
theorem go_sload {l0 : List Int32} {os : List (Nat × S)} {j : Int32} (hx : ix l0 j = some v) (d : decode (mB M) pc = .ok (.iaload, 1)) (g : Go P M (pc + 1) L (.int v :: st) (some l0, os) out) : Go P M pc L (.int j :: .ref 0 :: st) (some l0, os) out :=
  go_ch (fun l Z a0 p e R s1 m args below meth c α b n0 h0 uC uS ok hl T locs cells slots I => by
    obtain ⟨cl, A, ec⟩ := (I.2.1.1 l0 rfl).1
    obtain ⟨h1, h2⟩ := ix_some hx
    obtain ⟨h3, h4⟩ := ar_in ec h1 (vv := .int v) (by simp [h2])
    exact ⟨T, locs, cells, slots, I, fun target r => I.1.iaload ok.2.2.1 (j := j) (v := .int v) A.1 (State.isArrayOf_alike ok.2.2.2.1.alike A.2.1) A.2.2 h3 h4 (g := mkF m pc (cL α b L) (cV α b (.int j :: .ref 0 :: st))) rfl rfl (hb ok.2.2.2.2.2.1 d) _ r⟩) g
theorem go_slen {l0 : List Int32} {os : List (Nat × S)} (d : decode (mB M) pc = .ok (.arraylength, 1)) (g : Go P M (pc + 1) L (.int l0.length.toInt32 :: st) (some l0, os) out) : Go P M pc L (.ref 0 :: st) (some l0, os) out :=
  go_ch (fun l Z a0 p e R s1 m args below meth c α b n0 h0 uC uS ok hl T locs cells slots I => by
    obtain ⟨cl, A, ec⟩ := (I.2.1.1 l0 rfl).1
    refine ⟨T, locs, cells, slots, I, fun target r => ?_⟩
    have e1 : cl.slots.size = l0.length := by rw [ec]; simp
    refine I.1.arraylength ok.2.2.1 (cell := cl) A.1 (State.isArrayOf_alike ok.2.2.2.1.alike A.2.1) (g := mkF m pc (cL α b L) (cV α b (.ref 0 :: st))) rfl rfl (hb ok.2.2.2.2.2.1 d) _ ?_
    rw [e1]; exact r) g
/-- a component of an array of the object takes its value -/
theorem rep_store {Z : State} {ci : CI} {h h' : Heap} {b : Nat} {s s' : S} {k q i : Nat} {nm ds : String} {ty : FieldType} {cap : Nat} {vv : Value} (F : Rep1 Z ci h b (k, s)) (hf : (cA ci)[q]? = some (nm, ds, ty, cap)) (hq : q < k)
    (Wt : Wr h h' (b + 1 + q) i vv) (hi : i < (arV ty s q).length) (hv : arV ty s' q = (arV ty s q).set i vv) (ho : ∀ q' x, (cA ci)[q']? = some x → q' ≠ q → arV x.2.2.1 s' q' = arV x.2.2.1 s q') (ha : gI s' = gI s) (hbb : gL s' = gL s) : Rep1 Z ci h' b (k, s') := by
  obtain ⟨f1, f2, f3, f4⟩ := F
  refine ⟨f1.wr Wt, fun f x hx => ?_, fun q' x hx => (f3 q' x hx).other Wt (Or.inl (nq (by omega))), fun q' x hx hq' => ?_⟩
  · have e : scV x.2.2 s' f = scV x.2.2 s f := by unfold scV; split <;> simp [ha, hbb]
    show Fld Z h' b (cN ci) x.1 x.2.1 (scV x.2.2 s' f)
    rw [e]
    exact (f2 f x hx).other Wt (Or.inl (nq (by omega)))
  · by_cases e : q' = q
    · subst e
      cases hf.symm.trans hx
      obtain ⟨c, A, ec⟩ := f4 q' _ hf hq
      refine ⟨_, A.same Wt, ?_⟩
      show (c.setSlot i vv).slots = (arV ty s' q').toArray
      rw [hv]
      simp only [Cell.setSlot, ec]
      simp
    · obtain ⟨c, A, ec⟩ := f4 q' x hx hq'
      refine ⟨c, A.other Wt (nq (by omega)), ec.trans ?_⟩
      rw [ho q' x hx e]
theorem arV_sA (s : S) (q : Nat) (l : List Int32) (ty : FieldType) (q' : Nat) (h : q' ≠ q) : arV ty (sA s q l) q' = arV ty s q' := by
  unfold arV; split <;> simp [gA_sA, gB_sA, h]
theorem arV_sB (s : S) (q : Nat) (l : List Int64) (ty : FieldType) (q' : Nat) (h : q' ≠ q) : arV ty (sB s q l) q' = arV ty s q' := by
  unfold arV; split <;> simp [gA_sB, gB_sB, h]
theorem in_of {c : Cell} {vs : List Value} {j : Int32} (e : c.slots = vs.toArray) (h1 : ¬ j < 0) (h2 : j.toNatClampNeg < vs.length) : ¬ (j < 0 ∨ c.slots.size ≤ j.toNatClampNeg) := fun q => by
  rcases q with q | q
  · exact h1 q
  · rw [e] at q; simp at q; omega
theorem go_iastore {q : Nat} {j : Int32} {nm ds : String} {cap : Nat} {l' : List Int32} (ha : (cA P.2)[q]? = some (nm, ds, .int, cap)) (hq : Nat.blt q k = true) (hp : 0 < mN M) (hx : Jvm.AM.st (gA s q) j x = some l') (d : decode (mB M) pc = .ok (.iastore, 1)) (g : Go P M (pc + 1) L st (none, [(k, sA s q l')]) out) : Go P M pc L (.int x :: .int j :: .ref (q + 2) :: st) (none, [(k, s)]) out :=
  go_ch (fun l Z a0 p e R s1 m args below meth c α b n0 h0 uC uS ok hl T locs cells slots I => by
    have hq' : q < k := by simpa [Nat.blt_eq] using hq
    have hqK := get_lt ha
    obtain ⟨X, Rp, Fm, Nl, hs, u1, u2, c1, c2, hN⟩ := I
    obtain ⟨cl, A, ec⟩ := (rep_one Rp).2.2.2 q _ ha hq'
    obtain ⟨h1, h2, rfl⟩ := st_some hx
    have hin := in_of ec h1 (by simpa [arV] using h2)
    obtain ⟨T', h', X', e', Wt, stp⟩ := stI X ok.2.2.1 ok.2.2.2.1 rfl A (x := x) hin (g := mkF m pc (cL α b L) (.int x :: .int j :: .ref (b + 1 + q) :: cV α b st)) rfl rfl (hb ok.2.2.2.2.2.1 d)
    refine ⟨T', _, cells, slots, ⟨X', rep_mk (by rw [e']; exact rep_store (rep_one Rp) ha hq' Wt (by simpa [arV] using h2) (by simp [arV, gA_sA, List.map_set]) (fun q' y _ h => arV_sA s q _ _ q' h) rfl rfl), by rw [e']; exact Fm.wr Wt (by omega) (by have := Nat.mul_le_mul_left (cK P.2 + 1) hp; simp only [cK] at *; omega), Fr.snoc X' Nl (by have := ok.2.2.2.2.2.2.2.2.2.2.1; omega), by rw [e', Wt.size]; exact hs, u1, u2, c1, c2, hN⟩, fun target r => ?_⟩
    rw [show cV α b (.int x :: .int j :: .ref (q + 2) :: st) = .int x :: .int j :: .ref (b + (q + 1)) :: cV α b st from rfl, show b + (q + 1) = b + 1 + q by omega]
    exact stp target r) g
theorem go_lastore {q : Nat} {j : Int32} {nm ds : String} {cap : Nat} {l' : List Int64} (ha : (cA P.2)[q]? = some (nm, ds, .long, cap)) (hq : Nat.blt q k = true) (hp : 0 < mN M) (hx : Jvm.AM.st (gB s q) j u = some l') (d : decode (mB M) pc = .ok (.lastore, 1)) (g : Go P M (pc + 1) L st (none, [(k, sB s q l')]) out) : Go P M pc L (.long u :: .int j :: .ref (q + 2) :: st) (none, [(k, s)]) out :=
  go_ch (fun l Z a0 p e R s1 m args below meth c α b n0 h0 uC uS ok hl T locs cells slots I => by
    have hq' : q < k := by simpa [Nat.blt_eq] using hq
    have hqK := get_lt ha
    obtain ⟨X, Rp, Fm, Nl, hs, u1, u2, c1, c2, hN⟩ := I
    obtain ⟨cl, A, ec⟩ := (rep_one Rp).2.2.2 q _ ha hq'
    obtain ⟨h1, h2, rfl⟩ := st_some hx
    have hin := in_of ec h1 (by simpa [arV] using h2)
    obtain ⟨T', h', X', e', Wt, stp⟩ := stJ X ok.2.2.1 ok.2.2.2.1 rfl A (x := u) hin (g := mkF m pc (cL α b L) (.long u :: .int j :: .ref (b + 1 + q) :: cV α b st)) rfl rfl (hb ok.2.2.2.2.2.1 d)
    refine ⟨T', _, cells, slots, ⟨X', rep_mk (by rw [e']; exact rep_store (rep_one Rp) ha hq' Wt (by simpa [arV] using h2) (by simp [arV, gB_sB, List.map_set]) (fun q' y _ h => arV_sB s q _ _ q' h) rfl rfl), by rw [e']; exact Fm.wr Wt (by omega) (by have := Nat.mul_le_mul_left (cK P.2 + 1) hp; simp only [cK] at *; omega), Fr.snoc X' Nl (by have := ok.2.2.2.2.2.2.2.2.2.2.1; omega), by rw [e', Wt.size]; exact hs, u1, u2, c1, c2, hN⟩, fun target r => ?_⟩
    rw [show cV α b (.long u :: .int j :: .ref (q + 2) :: st) = .long u :: .int j :: .ref (b + (q + 1)) :: cV α b st from rfl, show b + (q + 1) = b + 1 + q by omega]
    exact stp target r) g
theorem go_bastore {q : Nat} {j : Int32} {nm ds : String} {ty : FieldType} {cap : Nat} {l' : List Int32} (ha : (cA P.2)[q]? = some (nm, ds, ty, cap)) (hty : ty = .boolean ∨ ty = .byte) (hq : Nat.blt q k = true) (hp : 0 < mN M) (hv : v = nar ty x) (hx : Jvm.AM.st (gA s q) j v = some l') (d : decode (mB M) pc = .ok (.bastore, 1)) (g : Go P M (pc + 1) L st (none, [(k, sA s q l')]) out) : Go P M pc L (.int x :: .int j :: .ref (q + 2) :: st) (none, [(k, s)]) out :=
  go_ch (fun l Z a0 p e R s1 m args below meth c α b n0 h0 uC uS ok hl T locs cells slots I => by
    have hq' : q < k := by simpa [Nat.blt_eq] using hq
    have hqK := get_lt ha
    obtain ⟨X, Rp, Fm, Nl, hs, u1, u2, c1, c2, hN⟩ := I
    obtain ⟨cl, A, ec⟩ := (rep_one Rp).2.2.2 q _ ha hq'
    obtain ⟨h1, h2, rfl⟩ := st_some hx
    subst hv
    have hlen : j.toNatClampNeg < (arV ty s q).length := by rcases hty with rfl | rfl <;> simpa [arV] using h2
    have hset : arV ty (sA s q ((gA s q).set j.toNatClampNeg (nar ty x))) q = (arV ty s q).set j.toNatClampNeg (.int (nar ty x)) := by rcases hty with rfl | rfl <;> simp [arV, gA_sA, List.map_set]
    have hin := in_of ec h1 hlen
    obtain ⟨T', h', X', e', Wt, stp⟩ : ∃ T' h', Stand p l e R s1 m args below meth c T' (locs ++ [⟨b + 1 + q, j.toNatClampNeg⟩]) cells slots ∧ T'.heap = h' ∧ Wr T.heap h' (b + 1 + q) j.toNatClampNeg (.int (nar ty x)) ∧ ∀ target, Steps p.tables e below (T'.setTop (mkF m (pc + 1) (cL α b L) (cV α b st))) target → Steps p.tables e below (T.setTop (mkF m pc (cL α b L) (.int x :: .int j :: .ref (b + 1 + q) :: cV α b st))) target := by
      rcases hty with rfl | rfl
      · exact stZ X ok.2.2.1 ok.2.2.2.1 rfl A (x := x) hin (g := mkF m pc (cL α b L) (.int x :: .int j :: .ref (b + 1 + q) :: cV α b st)) rfl rfl (hb ok.2.2.2.2.2.1 d)
      · exact stB X ok.2.2.1 ok.2.2.2.1 rfl A (x := x) hin (g := mkF m pc (cL α b L) (.int x :: .int j :: .ref (b + 1 + q) :: cV α b st)) rfl rfl (hb ok.2.2.2.2.2.1 d)
    refine ⟨T', _, cells, slots, ⟨X', rep_mk (by rw [e']; exact rep_store (rep_one Rp) ha hq' Wt hlen hset (fun q' y _ h => arV_sA s q _ _ q' h) rfl rfl), by rw [e']; exact Fm.wr Wt (by omega) (by have := Nat.mul_le_mul_left (cK P.2 + 1) hp; simp only [cK] at *; omega), Fr.snoc X' Nl (by have := ok.2.2.2.2.2.2.2.2.2.2.1; omega), by rw [e', Wt.size]; exact hs, u1, u2, c1, c2, hN⟩, fun target r => ?_⟩
    rw [show cV α b (.int x :: .int j :: .ref (q + 2) :: st) = .int x :: .int j :: .ref (b + (q + 1)) :: cV α b st from rfl, show b + (q + 1) = b + 1 + q by omega]
    exact stp target r) g
/-! ## 5. A method as a whole; calls -/
def Call (P : PI) (M : Meth) (as : List Value) (w : W) (out : Option Value × W) : Prop :=
  ∀ (l : Launch) (Z : State) (a0 : Array Value) (ws : List Jvm.Cond) (α b n0 : Nat) (h0 : Heap), (∀ d ∈ P.1, d.before a0 Z = true) → Facts Z a0 P.2 → n0 ≤ b → RepW Z P.2 α b w h0 → w.2.length ≤ mN M → (mTop M = true → h0.size = b + usedC w ∧ usedC w = mUC M ∧ usedS P.2 w = mUS M) →
    MetFree l (mY M) (head1 (Jvm.Cond.code (mY M) (mB M) (mL M) (mT M) :: ws) (mR M)) (fun a U => a = (cV α b as).toArray ∧ Z.Warmed39 U.vm ∧ U.heap = h0) (fun _ _ _ _ _ => True)
      (fun _ U o U' => ∃ v L, o = .returned v ∧ (v = out.1.map (con α b) ∧ Fr n0 L ∧ RepW Z P.2 α b out.2 U'.heap ∧ Frm b (b + (cK P.2 + 1) * mN M) h0 U'.heap ∧ ∃ k, U'.heap.size = h0.size + k ∧ k + usedC w = usedC out.2) ∧ FrameEnd U o U' L (mR M).cells (mR M).slots)
theorem call_of_go {as : List Value} (hpl : plainName (mY M).cls = true) (hlen : (entryL as (mL M)).length = mL M) (hret : mT M = none → out.1 = none) (g : Go P M 0 (entryL as (mL M)) [] w out) : Call P M as w out := by
  intro l Z a0 ws α b n0 h0 hw fa hn0 Rp hN htop
  refine MetFree.of_bodySF (plainFor_of_name hpl) hisR ?_
  intro p e s m args below meth c s₁ Bd hml0 hP hK
  obtain ⟨rfl, hZ, hh⟩ := hP
  have X0 : Stand p l e (mR M) s m (cV α b as).toArray below meth c s₁ [] 0 0 := Stand.of_body Bd
  have e0 : s₁.heap = h0 := by rw [← hh, Bd.state]; rfl
  obtain ⟨T', L', c', n', I', fin⟩ := g hlen l Z a0 p e (mR M) s m (cV α b as).toArray below meth c α b n0 h0 (usedC w) (usedS P.2 w) ⟨hw, fa, Bd.exec, hZ, findClass_of_methodNamed Bd.named, Bd.bytes, hml0, Bd.returns, (name_of_methodNamed Bd.named Bd.method).1, rfl, hn0, htop, by rw [hh]⟩ s₁ [] 0 0 ⟨X0, by rw [e0]; exact Rp, by rw [e0]; exact Frm.refl _ _ _, Fr.nil _, by rw [e0]; rfl, by simp, by simp, Nat.zero_le _, Nat.zero_le _, hN⟩
  obtain ⟨X', Rp', Fm', Nl', hs', u1', u2', c1', c2', hN'⟩ := I'
  obtain ⟨fs, hr, hrun, hended, hW, hsame⟩ := X'.leave (v := out.1.map (con α b)) (fun h => by rw [Bd.returns] at h; rw [hret h]; rfl)
  refine ⟨_, _, ?_, hrun, hended, _, _, rfl, ⟨rfl, Nl', Rp', Fm', c', hs', u1'⟩, ⟨_, rfl⟩, hW, hsame.mono c1' c2'⟩
  have q := fin fs hr
  rw [← entry_locals] at q
  exact q
def nr : Value → Bool
  | .ref _ => false
  | _ => true
theorem con_nr {α b : Nat} {v : Value} (h : nr v = true) : con α b v = v := by
  cases v <;> first | rfl | cases h
theorem cV_nr {α b : Nat} {l : List Value} (h : l.all nr = true) : cV α b l = l := by
  have : ∀ x ∈ l, con α b x = x := fun x hx => con_nr (List.all_eq_true.mp h x hx)
  unfold cV
  exact (List.map_congr_left this).trans (List.map_id _)
theorem rep_obj {Z : State} {ci : CI} {α b : Nat} {h : Heap} {i : Nat} (F : RepW Z ci α b w h) (ho : w.2[i]? = some o) : RepW Z ci 0 (b + (cK ci + 1) * i) (none, [o]) h := rep_mk (F.2 i o ho)
theorem rep_back {Z : State} {ci : CI} {α α' b : Nat} {h h' : Heap} {i : Nat} (F : RepW Z ci α b w h) (ho : w.2[i]? = some o) (G : RepW Z ci α' (b + (cK ci + 1) * i) (none, [o']) h') (Fm : Frm (b + (cK ci + 1) * i) (b + (cK ci + 1) * i + (cK ci + 1) * 1) h h') : RepW Z ci α b (w.1, w.2.set i o') h' := by
  refine ⟨fun l hl => ⟨((F.1 l hl).1).frm fun c q => Fm _ _ q (Or.inl ?_), (F.1 l hl).2⟩, fun j oj hj => ?_⟩
  · have := (F.1 l hl).2; exact Nat.lt_of_lt_of_le this (Nat.le_add_right _ _)
  · by_cases e : j = i
    · subst e
      rw [show (w.1, w.2.set j o').2 = w.2.set j o' from rfl, List.getElem?_set_self (get_lt ho)] at hj
      cases hj
      exact rep_one G
    · rw [show (w.1, w.2.set i o').2 = w.2.set i o' from rfl, List.getElem?_set_ne (Ne.symm e)] at hj
      refine (F.2 j oj hj).frm fun x c q1 q2 q3 => Fm _ _ q3 ?_
      rcases Nat.lt_or_gt_of_ne e with q | q
      · have := Nat.mul_le_mul_left (cK ci + 1) q
        rw [Nat.mul_succ] at this; omega
      · have := Nat.mul_le_mul_left (cK ci + 1) q
        rw [Nat.mul_succ] at this; omega
theorem sum_set {A : Type} (f : A → Nat) {a a' : A} : ∀ {l : List A} {i : Nat}, l[i]? = some a → ((l.set i a').map f).sum + f a = (l.map f).sum + f a'
  | [], i, h => by simp at h
  | b :: r, 0, h => by simp at h; subst h; simp; omega
  | b :: r, i + 1, h => by
    simp only [List.getElem?_cons_succ] at h
    have := sum_set f (a' := a') h
    simp only [List.set_cons_succ, List.map_cons, List.sum_cons]; omega
def CQ (ci : CI) (Z : State) (α b n0 : Nat) (h0 : Heap) (N : Nat) (w : W) (out : Option Value × W) (v : Option Value) (hp : Heap) (L : List Loc) : Prop := v = out.1.map (con α b) ∧ Fr n0 L ∧ RepW Z ci α b out.2 hp ∧ Frm b (b + (cK ci + 1) * N) h0 hp ∧ ∃ k, hp.size = h0.size + k ∧ k + usedC w = usedC out.2
/-- what a callee that makes nothing must fit into -/
def Small (M M' : Meth) (rest : List Value) : Prop := (mR M').cells = 0 ∧ (mR M').slots = 0 ∧ mTop M' = false ∧ Nat.ble ((mR M').frames + 1) (mR M).frames = true ∧ Nat.ble ((rest.map fun v => v.category).sum + (mL M' + 11) + (mR M').locals) (mR M).locals = true
theorem ret_st {α b b' : Nat} {r : Option Value} {rest : List Value} (hr : r.all nr = true) : (r.map (con 0 b')).toList ++ cV α b rest = cV α b (r.toList ++ rest) := by
  cases r with
  | none => rfl
  | some v => simp only [Option.map_some, Option.toList_some, cV, List.cons_append, List.nil_append, List.map_cons]; rw [con_nr (show nr v = true from hr), con_nr (show nr v = true from hr)]
theorem inv_obj {l : Launch} {Z : State} {p : Program} {e : Env} {R : Room} {s : State} {m : MethodId} {args : Array Value} {below : List Frame} {meth : Method} {c : Code} {α b n0 : Nat} {h0 : Heap} {uC uS : Nat} {T T2 : State} {locs L2 : List Loc} {cells slots rc rs i : Nat}
    (I : Inv P M l Z p e R s m args below meth c α b n0 h0 uC uS w T locs cells slots) (ho : w.2[i]? = some o) (X2 : Stand p l e R s m args below meth c T2 (locs ++ L2) (cells + rc) (slots + rs))
    (N2 : Fr n0 L2) (R2 : RepW Z P.2 0 (b + (cK P.2 + 1) * i) (none, [o']) T2.heap) (F2 : Frm (b + (cK P.2 + 1) * i) (b + (cK P.2 + 1) * i + (cK P.2 + 1) * 1) T.heap T2.heap) (k2 : ∃ k, T2.heap.size = T.heap.size + k ∧ k + usedC (none, [o]) = usedC (none, [o']))
    (hC : o'.1 = o.1 + rc) (hS : usedS P.2 (none, [o']) = usedS P.2 (none, [o]) + rs) (q1 : cells + rc ≤ R.cells) (q2 : slots + rs ≤ R.slots) : Inv P M l Z p e R s m args below meth c α b n0 h0 uC uS (w.1, w.2.set i o') T2 (locs ++ L2) (cells + rc) (slots + rs) := by
  obtain ⟨X, Rp, Fm, Nl, hs, u1, u2, c1, c2, hN⟩ := I
  obtain ⟨k, k1, k3⟩ := k2
  have hi := get_lt ho
  have a1 := sum_set (fun o : Nat × S => 1 + o.1) (a' := o') ho
  have a2 := sum_set (fun o : Nat × S => cF P.2 + (((cA P.2).take o.1).map fun x => x.2.2.2).sum) (a' := o') ho
  have hle : (cK P.2 + 1) * (i + 1) ≤ (cK P.2 + 1) * mN M := Nat.mul_le_mul_left _ (by omega)
  rw [Nat.mul_succ] at hle
  refine ⟨X2, rep_back Rp ho R2 F2, Fm.trans (F2.wide (Nat.le_add_right _ _) (by omega)), Nl.app N2, ?_, ?_, ?_, q1, q2, by simpa using hN⟩
  · simp only [usedC, List.map_cons, List.map_nil, List.sum_cons, List.sum_nil] at k3; omega
  · simp only [usedC] at u1 ⊢; omega
  · simp only [usedS, List.map_cons, List.map_nil, List.sum_cons, List.sum_nil] at u2 hS ⊢; omega
def LinkV (P : PI) (own : String) (idx : Nat) (M' : Meth) : Prop := Jvm.Cond.methodLink own idx (mY M') ∈ P.1 ∧ Jvm.Cond.declares (mY M') ∈ P.1 ∧ Jvm.Cond.selects (cN P.2) (mY M') (mY M') ∈ P.1 ∧ Jvm.Cond.instanceMethod (mY M') ∈ P.1 ∧ Jvm.Cond.code (mY M') (mB M') (mL M') (mT M') ∈ P.1 ∧ (mY M').cls = cN P.2 ∧ mN M' = 1
def LinkP (P : PI) (own : String) (idx : Nat) (M' : Meth) : Prop := Jvm.Cond.methodLink own idx (mY M') ∈ P.1 ∧ Jvm.Cond.instanceMethod (mY M') ∈ P.1 ∧ Jvm.Cond.privateMethod (mY M') ∈ P.1 ∧ Jvm.Cond.code (mY M') (mB M') (mL M') (mT M') ∈ P.1 ∧ (mY M').cls = cN P.2 ∧ mN M' = 1
def LinkS (P : PI) (own : String) (idx : Nat) (M' : Meth) : Prop := Jvm.Cond.methodLink own idx (mY M') ∈ P.1 ∧ Jvm.Cond.static (mY M') ∈ P.1 ∧ Jvm.Cond.initialized (mY M').cls ∈ P.1 ∧ Jvm.Cond.code (mY M') (mB M') (mL M') (mT M') ∈ P.1 ∧ ((mY M').cls ≠ "java/lang/invoke/MethodHandle" ∧ (mY M').cls ≠ "java/lang/invoke/VarHandle")
def LinkI (P : PI) (own : String) (idx : Nat) (M' : Meth) : Prop := Jvm.Cond.methodLink own idx (mY M') ∈ P.1 ∧ Jvm.Cond.instanceMethod (mY M') ∈ P.1 ∧ Jvm.Cond.code (mY M') (mB M') (mL M') (mT M') ∈ P.1 ∧ (mY M').cls = cN P.2 ∧ mN M' = 1 ∧ mT M' = none ∧ (mY M').name = "<init>"
variable {M' : Meth} {i idx id : Nat} {as rest : List Value} {rv : Option Value} {ps : List FieldType} {rt : Option FieldType}
theorem cV_call {α b : Nat} {jd : Nat} (hnr : as.all nr = true) (hst : st = as.reverse ++ .ref (jd + 1) :: rest) : cV α b st = as.reverse ++ .ref (b + jd) :: cV α b rest := by
  subst hst
  have h1 : cV α b as.reverse = as.reverse := cV_nr (by rw [List.all_reverse]; exact hnr)
  unfold cV at h1 ⊢
  rw [List.map_append, h1]; rfl
theorem go_virt (lk : LinkV P (mY M).cls idx M') (pd : parseMethodDescriptor (mY M').desc = some ⟨ps, rt⟩) (hn : as.length = ps.length) (hid : id = (cK P.2 + 1) * i + 1) (hst : st = as.reverse ++ .ref id :: rest) (hnr : as.all nr = true) (hrr : rv.all nr = true) (ho : w.2[i]? = some o) (hw' : w' = (w.1, w.2.set i o')) (hC : o'.1 = o.1) (sm : Small M M' rest)
    (d : decode (mB M) pc = .ok (.invokevirtual idx, 3)) (cl : Call P M' (.ref 1 :: as) (none, [o]) (rv, (none, [o']))) (g : Go P M (pc + 3) L (rv.toList ++ rest) w' out) : Go P M pc L st w out :=
  go_ch (fun l Z a0 p e R s1 m args below meth c α b n0 h0 uC uS ok hl T locs cells slots I => by
    subst hw' hid
    obtain ⟨hw, fa, hx, hZ, hown, hc, hml, hret, hnm, hR, hn0, htop, hsz⟩ := ok
    obtain ⟨k1, k2, k3, k4, k5, k6, k7⟩ := lk
    obtain ⟨z1, z2, z3, z4, z5⟩ := sm
    have C := cl l Z a0 [] 0 (b + (cK P.2 + 1) * i) n0 T.heap hw fa (Nat.le_trans hn0 (Nat.le_add_right _ _)) (rep_obj I.2.1 ho) (by rw [k7]; exact Nat.le_refl _) (fun q => by rw [z3] at q; cases q)
    have Bk := backOf (Q := CQ P.2 Z 0 (b + (cK P.2 + 1) * i) n0 T.heap (mN M') (none, [o]) (rv, (none, [o']))) (R := R) (p := p) (e := e) (below := below) (s := s1) (args := args) (len := 3) (W := (rest.map fun v => v.category).sum) C hZ (hw _ k5) (by rw [k6]; exact fa.2.1) (by rw [hR]; exact Nat.le_of_ble_eq_true z4) (by rw [hR]; exact Nat.le_of_ble_eq_true z5)
    have E := (I.2.1.2 i o ho).1
    obtain ⟨cB, kB, q1, q2, q3⟩ := isOf (T := T) hZ rfl E
    obtain ⟨v, vm1, ⟨T2, Lx, kx, nx⟩, -, X2, ⟨L2, hQ, l2, y2, n2⟩, stp⟩ := I.1.virtualBack hx (y := mY M') (z := mY M') hown (mvT hZ (hw _ k1)) (mvT hZ (hw _ k2)) (notFace_of_selects (args := #[]) (mvT hZ (hw _ k3))) (mvT hZ (hw _ k3)) (mvT hZ (hw _ k4)) (by rw [k6]; exact fa.2.2.2.2.2.2) Bk q1 q3 (g := mkF m pc (cL α b L) (cV α b st)) rfl (by show (cL α b L).size = c.maxLocals; rw [cL_size, hl, hml]) (Steps.refl _) (argsL := as) (rest := cV α b rest) (lenOf pd hn) (cV_call hnr hst)
      (by show 2 * 0 + _ ≤ _; rw [cV_sum]; exact Nat.le_of_eq (Nat.zero_add _)) (hb hc d) (fun _ _ => ⟨by rw [show (cV 0 (b + (cK P.2 + 1) * i) (.ref 1 :: as)) = .ref (b + (cK P.2 + 1) * i) :: cV 0 (b + (cK P.2 + 1) * i) as from rfl, cV_nr hnr], rfl, by rw [z1]; exact I.2.2.2.2.2.2.2.1, by rw [z2]; exact I.2.2.2.2.2.2.2.2.1⟩)
    dsimp only [Pt.U, Pt.locs, Pt.cells, Pt.slots] at X2 l2 y2 n2 stp hQ
    subst l2 y2 n2
    obtain ⟨rfl, N2, R2, F2, k8⟩ := hQ
    rw [k7] at F2
    refine ⟨T2, _, _, _, inv_obj I ho X2 N2 R2 F2 k8 (by rw [z1]; exact hC) (by rw [z2]; simp [usedS, hC]) (by rw [z1]; exact I.2.2.2.2.2.2.2.1) (by rw [z2]; exact I.2.2.2.2.2.2.2.2.1), fun target r => stp.trans ?_⟩
    rw [← ret_st (b' := b + (cK P.2 + 1) * i) hrr] at r
    exact r) g
theorem go_priv (lk : LinkP P (mY M).cls idx M') (pd : parseMethodDescriptor (mY M').desc = some ⟨ps, rt⟩) (hn : as.length = ps.length) (hid : id = (cK P.2 + 1) * i + 1) (hst : st = as.reverse ++ .ref id :: rest) (hnr : as.all nr = true) (hrr : rv.all nr = true) (ho : w.2[i]? = some o) (hw' : w' = (w.1, w.2.set i o')) (hC : o'.1 = o.1) (sm : Small M M' rest)
    (d : decode (mB M) pc = .ok (.invokevirtual idx, 3)) (cl : Call P M' (.ref 1 :: as) (none, [o]) (rv, (none, [o']))) (g : Go P M (pc + 3) L (rv.toList ++ rest) w' out) : Go P M pc L st w out :=
  go_ch (fun l Z a0 p e R s1 m args below meth c α b n0 h0 uC uS ok hl T locs cells slots I => by
    subst hw' hid
    obtain ⟨hw, fa, hx, hZ, hown, hc, hml, hret, hnm, hR, hn0, htop, hsz⟩ := ok
    obtain ⟨k1, k4, k3, k5, k6, k7⟩ := lk
    obtain ⟨z1, z2, z3, z4, z5⟩ := sm
    have C := cl l Z a0 [] 0 (b + (cK P.2 + 1) * i) n0 T.heap hw fa (Nat.le_trans hn0 (Nat.le_add_right _ _)) (rep_obj I.2.1 ho) (by rw [k7]; exact Nat.le_refl _) (fun q => by rw [z3] at q; cases q)
    have Bk := backOf (Q := CQ P.2 Z 0 (b + (cK P.2 + 1) * i) n0 T.heap (mN M') (none, [o]) (rv, (none, [o']))) (R := R) (p := p) (e := e) (below := below) (s := s1) (args := args) (len := 3) (W := (rest.map fun v => v.category).sum) C hZ (hw _ k5) (by rw [k6]; exact fa.2.1) (by rw [hR]; exact Nat.le_of_ble_eq_true z4) (by rw [hR]; exact Nat.le_of_ble_eq_true z5)
    obtain ⟨cell, q1, q2⟩ := (I.2.1.2 i o ho).1.cell
    have hy : (mY M').cls ≠ "java/lang/invoke/MethodHandle" ∧ (mY M').cls ≠ "java/lang/invoke/VarHandle" := by rw [k6]; exact fa.2.2.2.2.2.2
    have hpriv : s1.PrivateAt (mY M') := Cond.privateMethod_at (mvP hZ (hw _ k3) (args := #[]))
    have hin : (Jvm.Cond.instanceMethod (mY M')).before args s1 = true := mvT hZ (hw _ k4)
    obtain ⟨c2, kk, i1, i2, i3, i4, -⟩ := Cond.instantiable_spec fa.1
    obtain ⟨k', j1, j2⟩ := hZ.alike.2.2 _ _ i2
    have hsel : (Jvm.Cond.selects (mY M').cls (mY M') (mY M')).before args s1 = true := selects_self_of_private (c := c2) (k := k') (by rw [k6, hZ.alike.findClass]; exact i1) j1 (by
      have : kk.isInterface = false := by simp only [Bool.or_eq_false_iff] at i4; exact i4.1
      rw [j2]; exact this) hpriv hin hy
    obtain ⟨v, vm1, ⟨T2, Lx, kx, nx⟩, -, X2, ⟨L2, hQ, l2, y2, n2⟩, stp⟩ := I.1.privateBack hx (y := mY M') hown (mvT hZ (hw _ k1)) hin hsel hpriv (mvT hZ (hw _ k5)) hy Bk (g := mkF m pc (cL α b L) (cV α b st)) rfl (by show (cL α b L).size = c.maxLocals; rw [cL_size, hl, hml]) (Steps.refl _) (a := b + (cK P.2 + 1) * i) q1 q2 (argsL := as) (rest := cV α b rest) (lenOf pd hn) (cV_call hnr hst)
      (by show 2 * 0 + _ ≤ _; rw [cV_sum]; exact Nat.le_of_eq (Nat.zero_add _)) (hb hc d) (fun _ _ => ⟨by rw [show (cV 0 (b + (cK P.2 + 1) * i) (.ref 1 :: as)) = .ref (b + (cK P.2 + 1) * i) :: cV 0 (b + (cK P.2 + 1) * i) as from rfl, cV_nr hnr], rfl, by rw [z1]; exact I.2.2.2.2.2.2.2.1, by rw [z2]; exact I.2.2.2.2.2.2.2.2.1⟩)
    dsimp only [Pt.U, Pt.locs, Pt.cells, Pt.slots] at X2 l2 y2 n2 stp hQ
    subst l2 y2 n2
    obtain ⟨rfl, N2, R2, F2, k8⟩ := hQ
    rw [k7] at F2
    refine ⟨T2, _, _, _, inv_obj I ho X2 N2 R2 F2 k8 (by rw [z1]; exact hC) (by rw [z2]; simp [usedS, hC]) (by rw [z1]; exact I.2.2.2.2.2.2.2.1) (by rw [z2]; exact I.2.2.2.2.2.2.2.2.1), fun target r => stp.trans ?_⟩
    rw [← ret_st (b' := b + (cK P.2 + 1) * i) hrr] at r
    exact r) g
theorem go_stat (lk : LinkS P (mY M).cls idx M') (pd : parseMethodDescriptor (mY M').desc = some ⟨ps, rt⟩) (hn : as.length = ps.length) (hst : st = as.reverse ++ rest) (hN' : mN M' ≤ mN M ∧ w.2.length ≤ mN M') (hu : usedC w' = usedC w ∧ usedS P.2 w' = usedS P.2 w ∧ w'.2.length = w.2.length) (sm : Small M M' rest)
    (d : decode (mB M) pc = .ok (.invokestatic idx, 3)) (cl : Call P M' as w (rv, w')) (g : Go P M (pc + 3) L (rv.toList ++ rest) w' out) : Go P M pc L st w out :=
  go_ch (fun l Z a0 p e R s1 m args below meth c α b n0 h0 uC uS ok hl T locs cells slots I => by
    obtain ⟨hw, fa, hx, hZ, hown, hc, hml, hret, hnm, hR, hn0, htop, hsz⟩ := ok
    obtain ⟨k1, k2, k3, k5, k6⟩ := lk
    obtain ⟨z1, z2, z3, z4, z5⟩ := sm
    have C := cl l Z a0 [] α b n0 T.heap hw fa hn0 I.2.1 hN'.2 (fun q => by rw [z3] at q; cases q)
    have Bk := backOf (Q := CQ P.2 Z α b n0 T.heap (mN M') w (rv, w')) (R := R) (p := p) (e := e) (below := below) (s := s1) (args := args) (len := 3) (W := (rest.map fun v => v.category).sum) C hZ (hw _ k5) (hw _ k3) (by rw [hR]; exact Nat.le_of_ble_eq_true z4) (by rw [hR]; exact Nat.le_of_ble_eq_true z5)
    obtain ⟨v, vm1, ⟨T2, Lx, kx, nx⟩, -, X2, ⟨L2, hQ, l2, y2, n2⟩, stp⟩ := Jvm.LawKit.callS I.1 hx (y := mY M') hown (mvT hZ (hw _ k1)) (mvT hZ (hw _ k2)) (mvT hZ (hw _ k3)) (mvT hZ (hw _ k5)) k6 Bk (g := mkF m pc (cL α b L) (cV α b st)) rfl (by show (cL α b L).size = c.maxLocals; rw [cL_size, hl, hml]) (argsL := cV α b as) (rest := cV α b rest) (lenOf pd (by simpa [cV] using hn)) (by subst hst; simp [cV])
      (by show 2 * 0 + _ ≤ _; rw [cV_sum]; exact Nat.le_of_eq (Nat.zero_add _)) (hb hc d) (fun _ _ => ⟨rfl, rfl, by rw [z1]; exact I.2.2.2.2.2.2.2.1, by rw [z2]; exact I.2.2.2.2.2.2.2.2.1⟩)
    dsimp only [Pt.U, Pt.locs, Pt.cells, Pt.slots] at X2 l2 y2 n2 stp hQ
    subst l2 y2 n2
    obtain ⟨rfl, N2, R2, F2, k, k8, k9⟩ := hQ
    obtain ⟨X, Rp, Fm, Nl, hs, u1, u2, c1, c2, hN⟩ := I
    rw [z1, z2] at X2
    refine ⟨T2, _, _, _, ⟨X2, R2, Fm.trans (F2.wide (Nat.le_refl _) (by have := Nat.mul_le_mul_left (cK P.2 + 1) hN'.1; omega)), Nl.app N2, ?_, ?_, ?_, c1, c2, by rw [hu.2.2]; exact hN⟩, fun target r => stp target ?_⟩
    · rw [k8]; have := hu.1; simp only at k9; omega
    · rw [hu.1]; exact u1
    · rw [hu.2.1]; exact u2
    · have e1 : cV α b (rv.toList ++ rest) = (rv.map (con α b)).toList ++ cV α b rest := by cases rv <;> rfl
      rw [e1] at r; exact r) g
/-- a constructor, by its contract -/
theorem go_init {k2 : Nat} {s2 : S} (lk : LinkI P (mY M).cls idx M') (pd : parseMethodDescriptor (mY M').desc = some ⟨ps, rt⟩) (hn : as.length = ps.length) (hid : id = (cK P.2 + 1) * i + 1) (hst : st = as.reverse ++ .ref id :: rest) (hnr : as.all nr = true) (ho : w.2[i]? = some (k, s)) (hw' : w' = (w.1, w.2.set i (k2, s2)))
    (hC : k2 = k + (mR M').cells) (hS : usedS P.2 (none, [(k2, s2)]) = usedS P.2 (none, [(k, s)]) + (mR M').slots) (htM : mTop M = true) (hR1 : Nat.ble (usedC w + (mR M').cells) ((mR M).cells + mUC M) = true) (hR2 : Nat.ble (usedS P.2 w + (mR M').slots) ((mR M).slots + mUS M) = true)
    (hq : usedC w = (cK P.2 + 1) * i + usedC (none, [(k, s)]) ∧ usedC (none, [(k, s)]) = mUC M' ∧ usedS P.2 (none, [(k, s)]) = mUS M') (sm : Nat.ble ((mR M').frames + 1) (mR M).frames = true ∧ Nat.ble ((rest.map fun v => v.category).sum + (mL M' + 11) + (mR M').locals) (mR M).locals = true)
    (d : decode (mB M) pc = .ok (.invokespecial idx, 3)) (cl : Call P M' (.ref 1 :: as) (none, [(k, s)]) (none, (none, [(k2, s2)]))) (g : Go P M (pc + 3) L rest w' out) : Go P M pc L st w out :=
  go_ch (fun l Z a0 p e R s1 m args below meth c α b n0 h0 uC uS ok hl T locs cells slots I => by
    subst hw' hid
    obtain ⟨hw, fa, hx, hZ, hown, hc, hml, hret, hnm, hR, hn0, htop, hsz⟩ := ok
    obtain ⟨k1, k4, k5, k6, k7, k9, k10⟩ := lk
    obtain ⟨z4, z5⟩ := sm
    obtain ⟨t1, t2, t3⟩ := htop htM
    have Ic := I.2.2.2.2.2.1
    have Is := I.2.2.2.2.2.2.1
    have b1 : cells + (mR M').cells ≤ R.cells := by have := Nat.le_of_ble_eq_true hR1; rw [hR]; omega
    have b2 : slots + (mR M').slots ≤ R.slots := by have := Nat.le_of_ble_eq_true hR2; rw [hR]; omega
    have C := cl l Z a0 [] 0 (b + (cK P.2 + 1) * i) n0 T.heap hw fa (Nat.le_trans hn0 (Nat.le_add_right _ _)) (rep_obj I.2.1 ho) (by rw [k7]; exact Nat.le_refl _) (fun _ => ⟨by rw [I.2.2.2.2.1]; have := hq.1; omega, hq.2.1, hq.2.2⟩)
    have Bk := backOf (Q := CQ P.2 Z 0 (b + (cK P.2 + 1) * i) n0 T.heap (mN M') (none, [(k, s)]) (none, (none, [(k2, s2)]))) (R := R) (p := p) (e := e) (below := below) (s := s1) (args := args) (len := 3) (W := (rest.map fun v => v.category).sum) C hZ (hw _ k5) (by rw [k6]; exact fa.2.1) (by rw [hR]; exact Nat.le_of_ble_eq_true z4) (by rw [hR]; exact Nat.le_of_ble_eq_true z5)
    have hy : (mY M').cls ≠ "java/lang/invoke/MethodHandle" ∧ (mY M').cls ≠ "java/lang/invoke/VarHandle" := by rw [k6]; exact fa.2.2.2.2.2.2
    have hcd := hw _ k5
    rw [k9] at hcd
    obtain ⟨v, vm1, ⟨T2, Lx, kx, nx⟩, -, X2, ⟨L2, hQ, l2, y2, n2⟩, stp⟩ := I.1.specialBack hx (y := mY M') k10 hown (mvT hZ (hw _ k1)) (mvT hZ (hw _ k4)) (mvT hZ hcd) hy Bk (g := mkF m pc (cL α b L) (cV α b st)) rfl (by show (cL α b L).size = c.maxLocals; rw [cL_size, hl, hml]) (Steps.refl _) (a := b + (cK P.2 + 1) * i) (argsL := as) (rest := cV α b rest) (lenOf pd hn) (cV_call hnr hst)
      (by show 2 * 0 + _ ≤ _; rw [cV_sum]; exact Nat.le_of_eq (Nat.zero_add _)) (hb hc d) (fun _ _ => ⟨by rw [show (cV 0 (b + (cK P.2 + 1) * i) (.ref 1 :: as)) = .ref (b + (cK P.2 + 1) * i) :: cV 0 (b + (cK P.2 + 1) * i) as from rfl, cV_nr hnr], rfl, b1, b2⟩)
    dsimp only [Pt.U, Pt.locs, Pt.cells, Pt.slots] at X2 l2 y2 n2 stp hQ
    subst l2 y2 n2
    obtain ⟨rfl, N2, R2, F2, k8⟩ := hQ
    rw [k7] at F2
    exact ⟨T2, _, _, _, inv_obj I ho X2 N2 R2 F2 k8 hC hS b1 b2, fun target r => stp.trans r⟩) g
/-- Object's constructor -/
theorem go_objinit {a : Nat} (k1 : Jvm.Cond.methodLink (mY M).cls idx Lib.objectInit ∈ P.1) (k2 : Jvm.Cond.instanceMethod Lib.objectInit ∈ P.1) (k3 : Jvm.Cond.code Lib.objectInit ⟨#[0xb1]⟩ 1 none ∈ P.1) (z4 : Nat.ble 1 (mR M).frames = true) (z5 : Nat.ble ((rest.map fun v => v.category).sum + 12) (mR M).locals = true)
    (d : decode (mB M) pc = .ok (.invokespecial idx, 3)) (g : Go P M (pc + 3) L rest w out) : Go P M pc L (.ref (a + 1) :: rest) w out :=
  go_ch (fun l Z a0 p e R s1 m args below meth c α b n0 h0 uC uS ok hl T locs cells slots I => by
    obtain ⟨hw, fa, hx, hZ, hown, hc, hml, hret, hnm, hR, hn0, htop, hsz⟩ := ok
    obtain ⟨X, Rp, Fm, Nl, hs, u1, u2, c1, c2, hN⟩ := I
    obtain ⟨T', X', e', stp⟩ := initO X hx hZ hown (hw _ k1) (hw _ k2) (hw _ k3) rfl (g := mkF m pc (cL α b L) (cV α b (.ref (a + 1) :: rest))) rfl (by show (cL α b L).size = c.maxLocals; rw [cL_size, hl, hml]) (a := b + a) (rest := cV α b rest) rfl (hb hc d) (by rw [hR]; exact Nat.le_of_ble_eq_true z4) (W := (rest.map fun v => v.category).sum) (by show 2 * 0 + _ ≤ _; rw [cV_sum]; exact Nat.le_of_eq (Nat.zero_add _)) (by rw [hR]; exact Nat.le_of_ble_eq_true z5)
    exact ⟨T', locs, cells, slots, ⟨X', by rw [e']; exact Rp, by rw [e']; exact Fm, Nl, by rw [e']; exact hs, u1, u2, c1, c2, hN⟩, fun target r => stp target r⟩) g
/-- a new object of the class -/
theorem go_new {n : Nat} (k1 : Jvm.Cond.classLink (mY M).cls idx (cN P.2) ∈ P.1) (htM : mTop M = true) (hn : w.2.length = n) (hq : usedC w = (cK P.2 + 1) * n) (hw' : w' = (w.1, w.2 ++ [(0, s0)])) (hN' : Nat.blt n (mN M) = true) (hR1 : Nat.ble (usedC w + 1) ((mR M).cells + mUC M) = true) (hR2 : Nat.ble (usedS P.2 w + cF P.2) ((mR M).slots + mUS M) = true)
    (d : decode (mB M) pc = .ok (.new idx, 3)) (hid : id = (cK P.2 + 1) * n + 1) (g : Go P M (pc + 3) L (.ref id :: st) w' out) : Go P M pc L st w out :=
  go_ch (fun l Z a0 p e R s1 m args below meth c α b n0 h0 uC uS ok hl T locs cells slots I => by
    subst hw' hid
    obtain ⟨hw, fa, hx, hZ, hown, hc, hml, hret, hnm, hR, hn0, htop, hsz⟩ := ok
    obtain ⟨X, Rp, Fm, Nl, hs, u1, u2, c1, c2, hN⟩ := I
    obtain ⟨t1, t2, t3⟩ := htop htM
    have b1 : cells + 1 ≤ R.cells := by have := Nat.le_of_ble_eq_true hR1; rw [hR]; omega
    have b2 : slots + cF P.2 ≤ R.slots := by have := Nat.le_of_ble_eq_true hR2; rw [hR]; omega
    obtain ⟨T2, h2, X2, e2, E2, A2, D2, -, st2⟩ := newO X hx hZ hown (hw _ k1) fa.1 fa.2.1 rfl (g := mkF m pc (cL α b L) (cV α b st)) rfl (hb hc d) b1 b2
    have ha : T.heap.size = b + (cK P.2 + 1) * n := by rw [hs, t1]; omega
    rw [ha] at A2 D2 st2
    have sz2 : T2.heap.size = T.heap.size + 1 := by
      have q1 := X2.heapSize
      have q2 : b + (cK P.2 + 1) * n < h2.size := A2.lt
      rw [e2] at q1 ⊢
      omega
    refine ⟨T2, locs, _, _, ⟨X2, ?_, by rw [e2]; exact Fm.ext E2, Nl, by rw [sz2, hs]; omega, ?_, ?_, b1, b2, ?_⟩, fun target r => st2 target ?_⟩
    · rw [e2]
      refine ⟨fun l1 h1 => (Rp.ext E2).1 l1 h1, fun j oj hj => ?_⟩
      by_cases q : j < w.2.length
      · rw [show (w.1, w.2 ++ [(0, s0)]).2 = w.2 ++ [(0, s0)] from rfl, List.getElem?_append_left q] at hj
        exact (Rp.ext E2).2 j oj hj
      · have hj' := get_lt hj
        simp at hj'
        have ej : j = n := by omega
        subst ej
        rw [show (w.1, w.2 ++ [(0, s0)]).2 = w.2 ++ [(0, s0)] from rfl, List.getElem?_append_right (by omega)] at hj
        rw [hn] at hj; simp at hj; subst hj
        refine ⟨A2, fun f x hx => ?_, fun q x hx => ?_, fun q x _ hq => absurd hq (Nat.not_lt_zero _)⟩
        · have := D2 (fa.2.2.1 f x hx).1 (fa.2.2.1 f x hx).2
          rw [fa.2.2.2.2.2.1 f x hx] at this
          exact this
        · have := D2 (fa.2.2.2.1 q x hx).1 (fa.2.2.2.1 q x hx).2
          rw [if_neg (Nat.not_lt_zero _)]
          exact this
    · simp [usedC] at u1 ⊢; omega
    · simp [usedS] at u2 ⊢; omega
    · simp; have : n < mN M := by simpa [Nat.blt_eq] using hN'
      omega
    · exact r) g
/-- a new array, laid into its field at once -/
theorem rep_new {Z : State} {a0 : Array Value} {ci : CI} {h h1 h2 : Heap} {b : Nat} {s s' : S} {k : Nat} {nm ds : String} {ty : FieldType} {cap : Nat} {cl : Cell} (fa : Facts Z a0 ci) (F : Rep1 Z ci h b (k, s)) (hf : (cA ci)[k]? = some (nm, ds, ty, cap)) (E : Ext h h1) (A : Arr Z h1 (b + 1 + k) cl ty) (ec : cl.slots = (arV ty s' k).toArray)
    (Wt : Wr h1 h2 b (Jvm.RoadKit.slotOf Z (cN ci) nm ds) (.ref (b + 1 + k))) (ho : ∀ q' x, (cA ci)[q']? = some x → q' ≠ k → arV x.2.2.1 s' q' = arV x.2.2.1 s q') (ha : gI s' = gI s) (hbb : gL s' = gL s) : Rep1 Z ci h2 b (k + 1, s') := by
  obtain ⟨f1, f2, f3, f4⟩ := F
  obtain ⟨-, -, g1, g2, g3, -⟩ := fa
  have lt := get_lt hf
  refine ⟨(f1.ext E).wr Wt, fun f x hx => ?_, fun q x hx => ?_, fun q x hx hq => ?_⟩
  · have e : scV x.2.2 s' f = scV x.2.2 s f := by unfold scV; split <;> simp [ha, hbb]
    have lt' := get_lt hx
    show Fld Z h2 b (cN ci) x.1 x.2.1 (scV x.2.2 s' f)
    rw [e]
    refine ((f2 f x hx).ext E).other Wt (Or.inr ?_)
    refine slot_ne (g1 f x hx).1 (g2 k _ hf).1 ?_ (g1 f x hx).2 (g2 k _ hf).2
    intro en
    have n1 : ((cS ci).map (fun x => x.1) ++ (cA ci).map (fun x => x.1))[f]? = some x.1 := by rw [List.getElem?_append_left (by simpa using lt')]; simp [hx]
    have n2 : ((cS ci).map (fun x => x.1) ++ (cA ci).map (fun x => x.1))[(cS ci).length + k]? = some nm := by rw [List.getElem?_append_right (by simp)]; simp [hf]
    rw [en] at n1
    obtain ⟨i1, j1⟩ := List.getElem?_eq_some_iff.mp n1
    obtain ⟨i2, j2⟩ := List.getElem?_eq_some_iff.mp n2
    have := (List.getElem_inj g3).mp (j1.trans j2.symm)
    omega
  · by_cases e : q = k
    · subst e
      cases hf.symm.trans hx
      rw [if_pos (show q < (q + 1, s').1 from Nat.lt_succ_self q)]
      exact ((f3 q _ hf).ext E).same Wt
    · have lt' := get_lt hx
      have e2 : (if q < (k + 1, s').1 then Value.ref (b + 1 + q) else Value.null) = (if q < (k, s).1 then Value.ref (b + 1 + q) else Value.null) := by
        show (if q < k + 1 then _ else _) = (if q < k then _ else _)
        by_cases q1 : q < k
        · rw [if_pos q1, if_pos (by omega)]
        · rw [if_neg q1, if_neg (by omega)]
      rw [e2]
      refine ((f3 q x hx).ext E).other Wt (Or.inr ?_)
      refine slot_ne (g2 q x hx).1 (g2 k _ hf).1 ?_ (g2 q x hx).2 (g2 k _ hf).2
      intro en
      have n1 : ((cS ci).map (fun x => x.1) ++ (cA ci).map (fun x => x.1))[(cS ci).length + q]? = some x.1 := by rw [List.getElem?_append_right (by simp)]; simp [hx]
      have n2 : ((cS ci).map (fun x => x.1) ++ (cA ci).map (fun x => x.1))[(cS ci).length + k]? = some nm := by rw [List.getElem?_append_right (by simp)]; simp [hf]
      rw [en] at n1
      obtain ⟨i1, j1⟩ := List.getElem?_eq_some_iff.mp n1
      obtain ⟨i2, j2⟩ := List.getElem?_eq_some_iff.mp n2
      have := (List.getElem_inj g3).mp (j1.trans j2.symm)
      omega
  · by_cases e : q = k
    · subst e
      cases hf.symm.trans hx
      exact ⟨cl, A.other Wt (nq (by omega)), ec⟩
    · obtain ⟨c, B, eb⟩ := f4 q x hx (by have : q < k + 1 := hq; show q < k; omega)
      refine ⟨c, (B.ext E).other Wt (nq (by omega)), eb.trans ?_⟩
      rw [ho q x hx e]
theorem go_newV {aty : ArrayType} {ty : FieldType} {nm ds : String} {cap : Nat} {n : Int32} {s' : S} (hty : newarray.typeOf aty = ty) (ha : (cA P.2)[k]? = some (nm, ds, ty, cap)) (k0 : Jvm.Cond.arrayClass ty ∈ P.1) (k1 : Jvm.Cond.fieldLink (cN P.2) idx (cN P.2) nm ds ∈ P.1) (hM : (mY M).cls = cN P.2)
    (hlays : Jvm.Cond.lays (cN P.2) (cN P.2) nm ds ∈ P.1 ∨ (Jvm.Cond.laysFinal (cN P.2) (cN P.2) nm ds ∈ P.1 ∧ (mY M).name = "<init>")) (htM : mTop M = true) (hp : 0 < mN M) (hn : ¬ n < 0) (hcap : Nat.ble n.toNatClampNeg cap = true) (hbig : Nat.ble (cap * 8) 536870912 = true)
    (hR1 : Nat.ble (1 + k + 1) ((mR M).cells + mUC M) = true) (hR2 : Nat.ble (usedS P.2 (none, [(k, s)]) + cap) ((mR M).slots + mUS M) = true)
    (hv : arV ty s' k = List.replicate n.toNatClampNeg (defaultValue ty)) (hoth : ∀ q' x, (cA P.2)[q']? = some x → q' ≠ k → arV x.2.2.1 s' q' = arV x.2.2.1 s q') (hgI : gI s' = gI s) (hgL : gL s' = gL s)
    (d : decode (mB M) pc = .ok (.newarray aty, 2)) (d2 : decode (mB M) (pc + 2) = .ok (.putfield idx, 3)) (g : Go P M (pc + 5) L st (none, [(k + 1, s')]) out) : Go P M pc L (.int n :: .ref 1 :: st) (none, [(k, s)]) out :=
  go_ch (fun l Z a0 p e R s1 m args below meth c α b n0 h0 uC uS ok hl T locs cells slots I => by
    obtain ⟨hw, fa, hx, hZ, hown, hc, hml, hret, hnm, hR, hn0, htop, hsz⟩ := ok
    obtain ⟨X, Rp, Fm, Nl, hs, u1, u2, c1, c2, hN⟩ := I
    obtain ⟨t1, t2, t3⟩ := htop htM
    have u1' : cells + uC = 1 + k := by simpa [usedC] using u1
    have b1 : cells + 1 ≤ R.cells := by have := Nat.le_of_ble_eq_true hR1; rw [hR]; omega
    have b2 : slots + cap ≤ R.slots := by have := Nat.le_of_ble_eq_true hR2; rw [hR]; omega
    subst hty
    obtain ⟨T2, h2, cA2, X2, e2, E2, A2, st2⟩ := newP X hx hZ (hw _ k0) rfl (g := mkF m pc (cL α b L) (.int n :: .ref b :: cV α b st)) rfl (hb hc d) rfl hn (Nat.le_of_ble_eq_true hcap) (Nat.le_of_ble_eq_true hbig) b1 b2
    have hadr : T.heap.size = b + 1 + k := by rw [hs, t1]; omega
    rw [hadr] at A2 st2
    have sz2 : T2.heap.size = T.heap.size + 1 := by
      have q1 := X2.heapSize
      have q2 : b + 1 + k < h2.size := A2.lt
      rw [e2] at q1 ⊢
      omega
    have Rp1 := rep_one Rp
    have Fd := Rp1.2.2.1 k _ ha
    rw [if_neg (show ¬ k < (k, s).1 from Nat.lt_irrefl k)] at Fd
    rw [hM] at hown
    obtain ⟨T3, h3, X3, e3, Wt, st3⟩ := putF X2 hx hZ hown (host := "") (Or.inl (hw _ k1)) Via.refl e2 (Fd.ext E2) (Rp1.1.ext E2) (hlays.imp (fun q => hw _ q) (fun q => ⟨hw _ q.1, rfl, hnm.trans q.2⟩)) fa.1 (fa.2.2.2.1 k _ ha).2 (v := .ref (b + 1 + k)) rfl rfl (g := mkF m (pc + 2) (cL α b L) (.ref (b + 1 + k) :: .ref b :: cV α b st)) rfl rfl (hb hc d2)
    refine ⟨T3, _, _, _, ⟨X3, rep_mk (by rw [e3]; exact rep_new fa Rp1 ha E2 A2 (by rw [hv]; simp [newA]) Wt hoth hgI hgL), by rw [e3]; exact (Fm.ext E2).wr Wt (Nat.le_refl _) (by have := Nat.mul_le_mul_left (cK P.2 + 1) hp; omega), Fr.snoc X3 Nl hn0, by rw [e3, Wt.size, ← e2, sz2, hs]; omega, by simp [usedC]; omega, ?_, b1, b2, hN⟩, fun target r => st2 target (st3 target r)⟩
    have hk := get_lt ha
    simp only [usedS, List.map_cons, List.map_nil, List.sum_cons, List.sum_nil] at u2 ⊢
    rw [List.take_add_one, List.map_append, List.sum_append, ha]
    simp [List.map_take] at u2 ⊢; omega) g
theorem go_newI {aty : ArrayType} {ty : FieldType} {nm ds : String} {cap : Nat} {n : Int32} (hty : newarray.typeOf aty = ty) (hi : ty = .int ∨ ty = .boolean ∨ ty = .byte) (ha : (cA P.2)[k]? = some (nm, ds, ty, cap)) (k0 : Jvm.Cond.arrayClass ty ∈ P.1) (k1 : Jvm.Cond.fieldLink (cN P.2) idx (cN P.2) nm ds ∈ P.1) (hM : (mY M).cls = cN P.2)
    (hlays : Jvm.Cond.lays (cN P.2) (cN P.2) nm ds ∈ P.1 ∨ (Jvm.Cond.laysFinal (cN P.2) (cN P.2) nm ds ∈ P.1 ∧ (mY M).name = "<init>")) (htM : mTop M = true) (hp : 0 < mN M) (hn : ¬ n < 0) (hcap : Nat.ble n.toNatClampNeg cap = true) (hbig : Nat.ble (cap * 8) 536870912 = true)
    (hR1 : Nat.ble (1 + k + 1) ((mR M).cells + mUC M) = true) (hR2 : Nat.ble (usedS P.2 (none, [(k, s)]) + cap) ((mR M).slots + mUS M) = true)
    (d : decode (mB M) pc = .ok (.newarray aty, 2)) (d2 : decode (mB M) (pc + 2) = .ok (.putfield idx, 3)) (g : Go P M (pc + 5) L st (none, [(k + 1, sA s k (rep n.toNatClampNeg 0))]) out) : Go P M pc L (.int n :: .ref 1 :: st) (none, [(k, s)]) out :=
  go_newV hty ha k0 k1 hM hlays htM hp hn hcap hbig hR1 hR2 (by rcases hi with rfl | rfl | rfl <;> simp [arV, gA_sA, defaultValue, rep]) (fun q' x _ h => arV_sA s k _ _ q' h) rfl rfl d d2 g
theorem go_newJ {nm ds : String} {cap : Nat} {n : Int32} (ha : (cA P.2)[k]? = some (nm, ds, .long, cap)) (k0 : Jvm.Cond.arrayClass .long ∈ P.1) (k1 : Jvm.Cond.fieldLink (cN P.2) idx (cN P.2) nm ds ∈ P.1) (hM : (mY M).cls = cN P.2)
    (hlays : Jvm.Cond.lays (cN P.2) (cN P.2) nm ds ∈ P.1 ∨ (Jvm.Cond.laysFinal (cN P.2) (cN P.2) nm ds ∈ P.1 ∧ (mY M).name = "<init>")) (htM : mTop M = true) (hp : 0 < mN M) (hn : ¬ n < 0) (hcap : Nat.ble n.toNatClampNeg cap = true) (hbig : Nat.ble (cap * 8) 536870912 = true)
    (hR1 : Nat.ble (1 + k + 1) ((mR M).cells + mUC M) = true) (hR2 : Nat.ble (usedS P.2 (none, [(k, s)]) + cap) ((mR M).slots + mUS M) = true)
    (d : decode (mB M) pc = .ok (.newarray .long, 2)) (d2 : decode (mB M) (pc + 2) = .ok (.putfield idx, 3)) (g : Go P M (pc + 5) L st (none, [(k + 1, sB s k (rep n.toNatClampNeg 0))]) out) : Go P M pc L (.int n :: .ref 1 :: st) (none, [(k, s)]) out :=
  go_newV (aty := .long) (ty := .long) rfl ha k0 k1 hM hlays htM hp hn hcap hbig hR1 hR2 (by simp [arV, gB_sB, defaultValue, rep]) (fun q' x _ h => arV_sB s k _ _ q' h) rfl rfl d d2 g
end Rules
/-! ## the start -/
theorem tsw_out {x : Int32} {lo hi : Int} (h1 : -2147483648 ≤ lo) (h2 : hi < 2147483648) (ks : List Int32) (hk : ks = ((List.range (hi - lo + 1).toNat).map fun (j : Nat) => Int32.ofInt (lo + (j : Int)))) (hx : ∀ k ∈ ks, x ≠ k) : x.toInt < lo ∨ x.toInt > hi := by
  by_cases q1 : x.toInt < lo
  · exact Or.inl q1
  by_cases q2 : x.toInt > hi
  · exact Or.inr q2
  refine absurd rfl (hx x ?_)
  rw [hk, List.mem_map]
  refine ⟨(x.toInt - lo).toNat, List.mem_range.mpr (by omega), ?_⟩
  rw [show lo + (((x.toInt - lo).toNat : Nat) : Int) = x.toInt by omega]
  exact Int32.ofInt_toInt x
theorem list_of_array {V : Type} (a : Array V) (f : Nat → V) (h : ∀ j, j < a.size → a[j]? = some (f j)) : a = ((List.range a.size).map f).toArray := by
  apply Array.ext'
  apply List.ext_getElem?
  intro j
  by_cases q : j < a.size
  · simpa [q] using h j q
  · simp [q]
theorem small_len {n : Nat} {k : Int32} (h : n < 2 ^ 31) (q : n.toInt32 ≤ k) : (n : Int) ≤ k.toInt := by
  have e : (Int32.ofNat n).toInt = n := Int32.toInt_ofNat_of_lt h
  have := Int32.le_iff_toInt_le.mp q
  rwa [show n.toInt32.toInt = n from e] at this
theorem script_of {s : State} {args : Array Value} {t : Term} {k : Int32} (hf : Fit s) (h1 : (Cond.arrayOf t .int).value args s none s [] = some true) (h2 : (Cond.le (.length t) (.int k)).value args s none s [] = some true) :
    ∃ (a : Nat) (l : List Int32), t.eval args s none [] s = some (.ref a) ∧ Ar s s.heap a .int (l.map .int) ∧ a < s.heap.size ∧ (l.length : Int) ≤ k.toInt := by
  obtain ⟨a, ev⟩ := arr_v h1
  obtain ⟨c, A⟩ := Arr.start ev h1
  obtain ⟨x, y, ex, ey, -, -⟩ := cmp_v (Or.inr (Or.inr h2))
  obtain ⟨b, cell, e1, e2, e3, ev2⟩ := Jvm.Lib.length_spec ex
  have ea : b = a := by rw [ev] at e1; cases e1; rfl
  have ec : cell = c := by
    have := Arr.fin (Vm.Alike.refl _) A
    rw [ea, this] at e2; cases e2; rfl
  subst ea ec ev2
  obtain ⟨n, en, S⟩ := Scr.start hf A e3
  have hle : cell.slots.size.toInt32 ≤ k := by
    have ek : (Term.int k).eval args s none [] s = some (.int k) := rfl
    simp only [Cond.value, ex, ek] at h2
    simpa using h2
  refine ⟨b, (List.range cell.slots.size).map fun j => atv cell (Int32.ofNat j), ev, ⟨cell, A, ?_⟩, A.lt, ?_⟩
  · rw [List.map_map]
    refine list_of_array cell.slots _ fun j hj => ?_
    have e4 : (Int32.ofNat j).toNatClampNeg = j := by
      have : (Int32.ofNat j).toInt = j := Int32.toInt_ofNat_of_lt (by omega)
      simp [Int32.toNatClampNeg, this]
    have e5 : ¬ (Int32.ofNat j < 0) := by
      rw [Int32.lt_iff_toInt_lt, Int32.toInt_ofNat_of_lt (by omega)]; simp
    have := S.2.2.2 (Int32.ofNat j) (by rw [e4]; rintro (q | q); exact e5 q; omega)
    rw [e4] at this
    exact this
  · simpa using small_len e3 hle
theorem repW_none (Z : State) (ci : CI) (α b : Nat) (h : Heap) : RepW Z ci α b (none, []) h := ⟨fun l hl => (by cases hl), fun i o ho => (by simp at ho)⟩
theorem repW_some {Z : State} {ci : CI} {α b : Nat} {h : Heap} {l : List Int32} (A : Ar Z h α .int (l.map .int)) (q : α < b) : RepW Z ci α b (some l, []) h := ⟨fun l' hl => by cases hl; exact ⟨A, q⟩, fun i o ho => by simp at ho⟩
end Jvm.AM
/-! ## plain lemmas on ints, arrays and updates -/
namespace Jvm.PL
open Jvm.AM
theorem ofNat_toInt {k : Nat} (h : k < 2147483648) : (Int32.ofNat k).toInt = k := Int32.toInt_ofNat_of_lt h
theorem ofNat_lt {k m : Nat} (hk : k < 2147483648) (hm : m < 2147483648) : Int32.ofNat k < Int32.ofNat m ↔ k < m := by
  rw [Int32.lt_iff_toInt_lt, ofNat_toInt hk, ofNat_toInt hm]; omega
theorem lt_lit {k m : Nat} (hk : k < 2147483648) (hm : m < 2147483648 := by decide) : Int32.ofNat k < (OfNat.ofNat m : Int32) ↔ k < m := ofNat_lt hk hm
theorem ofNat_succ (k : Nat) : Int32.ofNat k + 1 = Int32.ofNat (k + 1) := by
  rw [Int32.ofNat_add]; rfl
theorem ofNat_nonneg {k : Nat} (hk : k < 2147483648) : ¬ Int32.ofNat k < 0 := by rw [Int32.lt_iff_toInt_lt, ofNat_toInt hk]; simp
theorem ofNat_clamp {k : Nat} (hk : k < 2147483648) : (Int32.ofNat k).toNatClampNeg = k := by simp [Int32.toNatClampNeg, ofNat_toInt hk]
theorem ix_ofNat {A : Type} (l : List A) {k : Nat} (hk : k < 2147483648) : ix l (Int32.ofNat k) = l[k]? := by
  unfold ix; rw [if_neg (ofNat_nonneg hk), ofNat_clamp hk]
theorem st_ofNat {A : Type} (l : List A) (x : A) {k : Nat} (hk : k < 2147483648) (hl : k < l.length) : Jvm.AM.st l (Int32.ofNat k) x = some (l.set k x) := by
  unfold Jvm.AM.st; rw [if_neg (ofNat_nonneg hk), ofNat_clamp hk, if_pos hl]
theorem toInt_clamp {v : Int32} (h : ¬ v < 0) : (v.toNatClampNeg : Int) = v.toInt := by
  rw [Int32.lt_iff_toInt_lt] at h
  simp only [Int32.toNatClampNeg]
  have : (0 : Int32).toInt = 0 := rfl
  omega
theorem eq_ofNat {v : Int32} (h : ¬ v < 0) : v = Int32.ofNat v.toNatClampNeg ∧ v.toNatClampNeg < 2147483648 := by
  have h1 := toInt_clamp h
  have h2 := v.toInt_lt
  have h3 : v.toNatClampNeg < 2147483648 := by omega
  refine ⟨Int32.toInt_inj.mp ?_, h3⟩
  rw [ofNat_toInt h3]; exact h1.symm
theorem ix_rep {A : Type} {v : Int32} {n : Nat} {x : A} (h0 : ¬ v < 0) (h1 : v < Int32.ofNat n) (hn : n < 2147483648) : ix (rep n x) v = some x := by
  obtain ⟨e, hl⟩ := eq_ofNat h0
  rw [e] at h1 ⊢
  have h2 := (ofNat_lt hl hn).mp h1
  rw [ix_ofNat _ hl, rep_get, if_pos h2]
theorem ix_nat {A : Type} (l : List A) {v : Int32} (h0 : ¬ v < 0) : ix l v = l[v.toNatClampNeg]? := by unfold ix; rw [if_neg h0]
theorem st_nat {A : Type} (l : List A) {v : Int32} {x : A} (h0 : ¬ v < 0) (hl : v.toNatClampNeg < l.length) : Jvm.AM.st l v x = some (l.set v.toNatClampNeg x) := by
  unfold Jvm.AM.st; rw [if_neg h0, if_pos hl]
theorem clamp_lt {v : Int32} {n : Nat} (h0 : ¬ v < 0) (h1 : v < Int32.ofNat n) (hn : n < 2147483648) : v.toNatClampNeg < n := by
  obtain ⟨e, hl⟩ := eq_ofNat h0
  rw [e] at h1
  exact (ofNat_lt hl hn).mp h1
theorem clamp_inj {v w : Int32} (h0 : ¬ v < 0) (h1 : ¬ w < 0) : v.toNatClampNeg = w.toNatClampNeg ↔ v = w := by
  constructor
  · intro h
    have a := toInt_clamp h0
    have b := toInt_clamp h1
    exact Int32.toInt_inj.mp (by omega)
  · intro h; rw [h]
end Jvm.PL
namespace Jvm.PL
open Jvm.AM
/-- all but the named fields and arrays is as it was -/
def Fx (I L A B : List Nat) (s s' : S) : Prop := (∀ f, f ∉ I → gI s' f = gI s f) ∧ (∀ f, f ∉ L → gL s' f = gL s f) ∧ (∀ f, f ∉ A → gA s' f = gA s f) ∧ (∀ f, f ∉ B → gB s' f = gB s f)
theorem Fx.refl (I L A B : List Nat) (s : S) : Fx I L A B s s := ⟨fun _ _ => rfl, fun _ _ => rfl, fun _ _ => rfl, fun _ _ => rfl⟩
theorem Fx.trans {I L A B : List Nat} {s t u : S} (h : Fx I L A B s t) (k : Fx I L A B t u) : Fx I L A B s u :=
  ⟨fun f q => (k.1 f q).trans (h.1 f q), fun f q => (k.2.1 f q).trans (h.2.1 f q), fun f q => (k.2.2.1 f q).trans (h.2.2.1 f q), fun f q => (k.2.2.2 f q).trans (h.2.2.2 f q)⟩
theorem Fx.mono {I L A B I' L' A' B' : List Nat} {s t : S} (h : Fx I L A B s t) (a : ∀ f ∈ I, f ∈ I') (b : ∀ f ∈ L, f ∈ L') (c : ∀ f ∈ A, f ∈ A') (d : ∀ f ∈ B, f ∈ B') : Fx I' L' A' B' s t :=
  ⟨fun f q => h.1 f fun x => q (a f x), fun f q => h.2.1 f fun x => q (b f x), fun f q => h.2.2.1 f fun x => q (c f x), fun f q => h.2.2.2 f fun x => q (d f x)⟩
theorem Fx.sA {I L A B : List Nat} {s t : S} {f : Nat} {l : List Int32} (h : Fx I L A B s t) (hf : f ∈ A) : Fx I L A B s (Jvm.AM.sA t f l) :=
  ⟨fun g q => (gI_sA _ _ _ _).trans (h.1 g q), fun g q => (gL_sA _ _ _ _).trans (h.2.1 g q), fun g q => by rw [gA_sA, if_neg (fun e : g = f => q (e ▸ hf))]; exact h.2.2.1 g q, fun g q => (gB_sA _ _ _ _).trans (h.2.2.2 g q)⟩
theorem Fx.sI {I L A B : List Nat} {s t : S} {f : Nat} {l : Int32} (h : Fx I L A B s t) (hf : f ∈ I) : Fx I L A B s (Jvm.AM.sI t f l) :=
  ⟨fun g q => by rw [gI_sI, if_neg (fun e : g = f => q (e ▸ hf))]; exact h.1 g q, fun g q => (gL_sI _ _ _ _).trans (h.2.1 g q), fun g q => (gA_sI _ _ _ _).trans (h.2.2.1 g q), fun g q => (gB_sI _ _ _ _).trans (h.2.2.2 g q)⟩
theorem Fx.sL {I L A B : List Nat} {s t : S} {f : Nat} {l : Int64} (h : Fx I L A B s t) (hf : f ∈ L) : Fx I L A B s (Jvm.AM.sL t f l) :=
  ⟨fun g q => (gI_sL _ _ _ _).trans (h.1 g q), fun g q => by rw [gL_sL, if_neg (fun e : g = f => q (e ▸ hf))]; exact h.2.1 g q, fun g q => (gA_sL _ _ _ _).trans (h.2.2.1 g q), fun g q => (gB_sL _ _ _ _).trans (h.2.2.2 g q)⟩
theorem Fx.sB {I L A B : List Nat} {s t : S} {f : Nat} {l : List Int64} (h : Fx I L A B s t) (hf : f ∈ B) : Fx I L A B s (Jvm.AM.sB t f l) :=
  ⟨fun g q => (gI_sB _ _ _ _).trans (h.1 g q), fun g q => (gL_sB _ _ _ _).trans (h.2.1 g q), fun g q => (gA_sB _ _ _ _).trans (h.2.2.1 g q), fun g q => by rw [gB_sB, if_neg (fun e : g = f => q (e ▸ hf))]; exact h.2.2.2 g q⟩
theorem ofNat_add' (a b : Nat) : Int32.ofNat a + Int32.ofNat b = Int32.ofNat (a + b) := (Int32.ofNat_add a b).symm
/-- the first k entries are x -/
def Upto {A : Type} (l : List A) (k : Nat) (x : A) : Prop := ∀ i, i < k → l[i]? = some x
theorem Upto.zero {A : Type} (l : List A) (x : A) : Upto l 0 x := fun _ h => absurd h (Nat.not_lt_zero _)
theorem Upto.set {A : Type} {l : List A} {k : Nat} {x : A} (h : Upto l k x) (hk : k < l.length) : Upto (l.set k x) (k + 1) x := fun i hi => by
  by_cases e : i = k
  · subst e; simp [hk]
  · rw [List.getElem?_set_ne (Ne.symm e)]; exact h i (by omega)
theorem Upto.all {A : Type} {l : List A} {k : Nat} {x : A} (h : Upto l k x) (hk : l.length = k) : l = rep k x := by
  apply List.ext_getElem?
  intro i
  rw [rep_get]
  by_cases q : i < k
  · rw [if_pos q]; exact h i q
  · rw [if_neg q, List.getElem?_eq_none (by omega)]
end Jvm.PL
namespace Jvm.PL
open Jvm.AM
/-- a loop by its invariant; m: the turns that are left -/
theorem run_loop {A B : Type} (L : Nat → A → B) (F : A → B) (I : Nat → A → Prop) (h : ∀ n m a, I (m + 1) a → ∃ a', L (n + 1) a = L n a' ∧ I m a') (h0 : ∀ n a, I 0 a → L (n + 1) a = F a) : ∀ m n a, m < n → I m a → ∃ a', L n a = F a' ∧ I 0 a'
  | 0, n + 1, a, _, i => ⟨a, h0 n a i, i⟩
  | m + 1, n + 1, a, q, i => by
    obtain ⟨a', e, i'⟩ := h n m a i
    obtain ⟨a'', e', i''⟩ := run_loop L F I h h0 m n a' (by omega) i'
    exact ⟨a'', e.trans e', i''⟩
/-- 'for k in 0 .. N' -/
theorem run_for {B : Type} (L : Nat → Int32 → S → B) (F : S → B) (N : Nat) (I : Nat → S → Prop) (h : ∀ n k s, k < N → I k s → ∃ s', L (n + 1) (Int32.ofNat k) s = L n (Int32.ofNat (k + 1)) s' ∧ I (k + 1) s') (h0 : ∀ n s, I N s → L (n + 1) (Int32.ofNat N) s = F s) (n : Nat) (s : S) (hn : N < n) (i : I 0 s) :
    ∃ s', L n (Int32.ofNat 0) s = F s' ∧ I N s' := by
  obtain ⟨a, e, k, hk, ea, ia⟩ := run_loop (fun n (a : Int32 × S) => L n a.1 a.2) (fun a => F a.2) (fun m a => ∃ k, k + m = N ∧ a.1 = Int32.ofNat k ∧ I k a.2)
    (fun n m a ⟨k, h1, h2, h3⟩ => by
      obtain ⟨s', e, i'⟩ := h n k a.2 (by omega) h3
      exact ⟨(Int32.ofNat (k + 1), s'), by show L (n + 1) a.1 a.2 = _; rw [h2]; exact e, k + 1, by omega, rfl, i'⟩)
    (fun n a ⟨k, h1, h2, h3⟩ => by
      have : k = N := by omega
      subst this
      show L (n + 1) a.1 a.2 = _; rw [h2]; exact h0 n a.2 h3) N n (Int32.ofNat 0, s) hn ⟨0, by omega, rfl, i⟩
  have : k = N := by omega
  subst this
  exact ⟨a.2, e, ia⟩
end Jvm.PL
namespace Jvm.PL
open Jvm.AM
/-- the end test of a loop over a script -/
theorem len_lt {n k c : Nat} (hn : n ≤ 100000) (hk : k ≤ 100000) (hc : c ≤ 100000) : (n.toInt32 - Int32.ofNat c) < Int32.ofNat k ↔ n < k + c := by
  rw [Int32.lt_iff_toInt_lt, Int32.toInt_sub, show n.toInt32 = Int32.ofNat n from rfl, ofNat_toInt (by omega), ofNat_toInt (by omega), ofNat_toInt (by omega)]
  have : ((n : Int) - c).bmod (2 ^ 32) = n - c := by
    rw [Int.bmod_eq_of_le] <;> omega
  rw [this]; omega
/-- a loop over a script, c entries a turn: it ends in what every way out says -/
theorem run_script {A B : Type} (L : Nat → Int32 → A → B) (c len : Nat) (hc : 0 < c) (P : B → Prop) (I : Nat → A → Prop) (h : ∀ n k a, k + c ≤ len → I k a → P (L (n + 1) (Int32.ofNat k) a) ∨ ∃ a', L (n + 1) (Int32.ofNat k) a = L n (Int32.ofNat (k + c)) a' ∧ I (k + c) a') (h0 : ∀ n k a, k ≤ len → len < k + c → I k a → P (L (n + 1) (Int32.ofNat k) a)) : ∀ n k a, len < n + k → k ≤ len → I k a → P (L n (Int32.ofNat k) a)
  | 0, k, a, hn, hk, i => by omega
  | n + 1, k, a, hn, hk, i => by
    by_cases q : k + c ≤ len
    · rcases h n k a q i with p | ⟨a', e, i'⟩
      · exact p
      · rw [e]; exact run_script L c len hc P I h h0 n (k + c) a' (by omega) q i'
    · exact h0 n k a hk (by omega) i
theorem ix_some {A : Type} (l : List A) {k : Nat} (hk : k < 2147483648) (hl : k < l.length) : ∃ x, ix l (Int32.ofNat k) = some x := ⟨l[k], by rw [ix_ofNat _ hk, List.getElem?_eq_getElem hl]⟩
theorem ofNat_lit (a b : Nat) : Int32.ofNat a + (OfNat.ofNat b : Int32) = Int32.ofNat (a + b) := ofNat_add' a b
end Jvm.PL
namespace Jvm.PL
open Jvm.AM
theorem upd_same {A : Type} (g : Nat → A) (f : Nat) (a b : A) : upd (upd g f a) f b = upd g f b := by
  funext x; unfold upd; by_cases q : x = f <;> simp [q]
theorem upd_comm {A : Type} (g : Nat → A) {f h : Nat} (n : f ≠ h) (a b : A) : upd (upd g f a) h b = upd (upd g h b) f a := by
  funext x; unfold upd
  by_cases q : x = f
  · have : ¬ f = h := n
    simp [q, this]
  · by_cases r : x = h
    · rw [if_pos r, if_neg q, if_pos r]
    · rw [if_neg r, if_neg q, if_neg q, if_neg r]
theorem sA_same (s : S) (f : Nat) (a b : List Int32) : Jvm.AM.sA (Jvm.AM.sA s f a) f b = Jvm.AM.sA s f b := by
  unfold Jvm.AM.sA; simp only [upd_same]
theorem sA_comm (s : S) {f h : Nat} (n : f ≠ h) (a b : List Int32) : Jvm.AM.sA (Jvm.AM.sA s f a) h b = Jvm.AM.sA (Jvm.AM.sA s h b) f a := by
  unfold Jvm.AM.sA; simp only; rw [upd_comm _ n]
end Jvm.PL
/-! ## rows of bits -/
namespace Jvm.PL
open Jvm.AM Jvm.Free
def bt (w : Int32) (y : Nat) : Bool := w.toBitVec.getLsbD y
theorem bt_zero (y : Nat) : bt 0 y = false := by simp [bt]
theorem bt_or (a b : Int32) (y : Nat) : bt (a ||| b) y = (bt a y || bt b y) := by simp [bt]
theorem bt_and (a b : Int32) (y : Nat) : bt (a &&& b) y = (bt a y && bt b y) := by simp [bt]
theorem bt_ge (w : Int32) {y : Nat} (h : 32 ≤ y) : bt w y = false := by unfold bt; exact BitVec.getLsbD_of_ge _ _ h
theorem bt_m1 {y : Nat} (h : y < 32) : bt (-1) y = true := by
  unfold bt
  rw [show (-1 : Int32).toBitVec = BitVec.allOnes 32 from rfl, BitVec.getLsbD_allOnes]
  simp [h]
theorem bt_not (a : Int32) {y : Nat} (h : y < 32) : bt (a ^^^ (-1)) y = !bt a y := by
  have := bt_m1 h
  unfold bt at *
  rw [Int32.toBitVec_xor, BitVec.getLsbD_xor, this]; simp
theorem bt_andn (a b : Int32) (y : Nat) : bt (a &&& (b ^^^ (-1))) y = (bt a y && !bt b y) := by
  rw [bt_and]
  by_cases h : y < 32
  · rw [bt_not b h]
  · rw [bt_ge a (by omega)]; simp
theorem bt_ext {a b : Int32} (h : ∀ y, y < 32 → bt a y = bt b y) : a = b := by
  apply Int32.toBitVec_inj.mp
  apply BitVec.eq_of_getLsbD_eq
  intro i hi
  exact h i hi
theorem bt_eq0 {w : Int32} : w = 0 ↔ ∀ y, y < 32 → bt w y = false := by
  constructor
  · rintro rfl y _; exact bt_zero y
  · intro h; exact bt_ext fun y hy => by rw [h y hy, bt_zero]
theorem ushr_bit (w : Int32) {y : Nat} (hy : y < 32) : (XT.ushr w (Int32.ofNat y)).toBitVec = w.toBitVec >>> y := by
  unfold XT.ushr
  have h1 : ((Int32.ofNat y &&& 31).toUInt32.toBitVec).toNat = y := by
    show ((Int32.ofNat y &&& 31).toBitVec).toNat = y
    rw [Int32.toBitVec_and, BitVec.toNat_and]
    have e1 : (Int32.ofNat y).toBitVec.toNat = y := by
      show (BitVec.ofNat 32 y).toNat = y
      rw [BitVec.toNat_ofNat]; omega
    have e2 : (31 : Int32).toBitVec.toNat = 31 := rfl
    rw [e1, e2, show 31 = 2 ^ 5 - 1 from rfl, Nat.and_two_pow_sub_one_eq_mod]; omega
  show (w.toUInt32 >>> (Int32.ofNat y &&& 31).toUInt32).toBitVec = _
  rw [UInt32.toBitVec_shiftRight]
  show w.toBitVec >>> ((Int32.ofNat y &&& 31).toUInt32.toBitVec % 32) = _
  rw [BitVec.ushiftRight_eq']
  congr 1
  rw [BitVec.toNat_umod, h1]
  show y % 32 = y
  omega
theorem and1 (w : Int32) : (w &&& 1 = 0) ↔ bt w 0 = false := by
  constructor
  · intro h
    have : bt (w &&& 1) 0 = false := by rw [h, bt_zero]
    rw [bt_and] at this
    simpa [show bt 1 0 = true from rfl] using this
  · intro h
    refine bt_ext fun y hy => ?_
    rw [bt_and, bt_zero]
    cases y with
    | zero => rw [h]; rfl
    | succ y =>
      have : bt 1 (y + 1) = false := by
        unfold bt
        show (1#32).getLsbD (y + 1) = false
        simp [BitVec.getLsbD_one]
      rw [this]; simp
theorem test_bit (w : Int32) {y : Nat} (hy : y < 32) : (XT.ushr w (Int32.ofNat y) &&& 1 = 0) ↔ bt w y = false := by
  rw [and1]
  unfold bt
  rw [ushr_bit w hy]; simp
theorem shl_bit {b : Nat} (hb : b < 32) (y : Nat) : bt ((1 : Int32) <<< (Int32.ofNat b &&& 31)) y = decide (y = b) := by
  have h1 : (Int32.ofNat b &&& 31) = Int32.ofNat b := by
    apply Int32.toBitVec_inj.mp
    rw [Int32.toBitVec_and]
    apply BitVec.eq_of_toNat_eq
    rw [BitVec.toNat_and]
    have e1 : (Int32.ofNat b).toBitVec.toNat = b := by
      show (BitVec.ofNat 32 b).toNat = b
      rw [BitVec.toNat_ofNat]; omega
    have e2 : (31 : Int32).toBitVec.toNat = 31 := rfl
    rw [e1, e2, show 31 = 2 ^ 5 - 1 from rfl, Nat.and_two_pow_sub_one_eq_mod]; omega
  rw [h1]
  unfold bt
  have e : ((1 : Int32) <<< Int32.ofNat b).toBitVec = (1#32) <<< b := by
    rw [Int32.toBitVec_shiftLeft]
    show (1#32) <<< ((Int32.ofNat b).toBitVec.smod 32) = _
    have : (Int32.ofNat b).toBitVec.smod 32 = BitVec.ofNat 32 b := by
      have hz : ∀ b : Fin 32, (Int32.ofNat b.val).toBitVec.smod 32 = BitVec.ofNat 32 b.val := by decide
      exact hz ⟨b, hb⟩
    rw [this, BitVec.shiftLeft_eq']
    congr 1
    rw [BitVec.toNat_ofNat]; omega
  rw [e]
  simp only [BitVec.getLsbD_shiftLeft, BitVec.getLsbD_one]
  by_cases h : y = b
  · subst h; simp [hb]
  · simp [h]; omega
end Jvm.PL
namespace Jvm.Pilot.@@N@@
open Jvm Jvm.ClassFile Sem Op Lib Jvm.Free Jvm.Stand Jvm.LawKit Jvm.RoadKit Jvm.AM Jvm.PL Jvm.Pilot.@@N@@.Jvm.D
def ci1 : CI := ("DeferredCountY", 20, [("heapCells", "I", .int), ("fieldsPer", "I", .int), ("rootCap", "I", .int), ("tableCap", "I", .int), ("liveTotal", "I", .int), ("rootDepth", "I", .int), ("tableLen", "I", .int), ("workTop", "I", .int), ("runs", "I", .int)], [("live", "[Z", .boolean, 64), ("cellFields", "[I", .int, 256), ("refs", "[I", .int, 64), ("rootStack", "[I", .int, 16), ("tableIds", "[I", .int, 64), ("tablePos", "[I", .int, 64), ("survivor", "[Z", .boolean, 64), ("rootHeld", "[Z", .boolean, 64), ("queued", "[Z", .boolean, 64), ("holders", "[I", .int, 64), ("work", "[I", .int, 64)])
def PP : PI := (tables_1, ci1)
def BIG : Nat := 1000000
def m0 : Meth := (⟨"DeferredCountY", "clamp", "(III)I"⟩, prog_1_method_58_code, 3, (some .int), { frames := 0, cells := 0, slots := 0, locals := 0 }, 1, false, 0, 0)
def m1 : Meth := (⟨"DeferredCountY", "clearCellFields", "(I)V"⟩, prog_1_method_42_code, 4, none, { frames := 0, cells := 0, slots := 0, locals := 0 }, 1, false, 0, 0)
def m2 : Meth := (⟨"DeferredCountY", "resetHeap", "()V"⟩, prog_1_method_54_code, 2, none, { frames := 1, cells := 0, slots := 0, locals := 15 }, 1, false, 0, 0)
def m3 : Meth := (⟨"DeferredCountY", "resetRoots", "()V"⟩, prog_1_method_55_code, 2, none, { frames := 0, cells := 0, slots := 0, locals := 0 }, 1, false, 0, 0)
def m4 : Meth := (⟨"DeferredCountY", "resetTable", "()V"⟩, prog_1_method_56_code, 2, none, { frames := 0, cells := 0, slots := 0, locals := 0 }, 1, false, 0, 0)
def m5 : Meth := (⟨"DeferredCountY", "resetScratch", "()V"⟩, prog_1_method_57_code, 2, none, { frames := 0, cells := 0, slots := 0, locals := 0 }, 1, false, 0, 0)
def m6 : Meth := (⟨"DeferredCountY", "<init>", "(IIII)V"⟩, prog_1_method_1_code, 6, none, { frames := 2, cells := 11, slots := 848, locals := 28 }, 1, true, 1, 20)
def m7 : Meth := (⟨"DeferredCountY", "rootsFull", "()Z"⟩, prog_1_method_47_code, 1, (some .boolean), { frames := 0, cells := 0, slots := 0, locals := 0 }, 1, false, 0, 0)
def m8 : Meth := (⟨"DeferredCountY", "hasFreeCell", "()Z"⟩, prog_1_method_38_code, 1, (some .boolean), { frames := 0, cells := 0, slots := 0, locals := 0 }, 1, false, 0, 0)
def m9 : Meth := (⟨"DeferredCountY", "tableIsFull", "()Z"⟩, prog_1_method_52_code, 1, (some .boolean), { frames := 0, cells := 0, slots := 0, locals := 0 }, 1, false, 0, 0)
def m10 : Meth := (⟨"DeferredCountY", "allocNeedsReconcile", "()Z"⟩, prog_1_method_20_code, 1, (some .boolean), { frames := 1, cells := 0, slots := 0, locals := 12 }, 1, false, 0, 0)
def m11 : Meth := (⟨"DeferredCountY", "lowestFreeCell", "()I"⟩, prog_1_method_39_code, 2, (some .int), { frames := 0, cells := 0, slots := 0, locals := 0 }, 1, false, 0, 0)
def m12 : Meth := (⟨"DeferredCountY", "isObjectId", "(I)Z"⟩, prog_1_method_59_code, 2, (some .boolean), { frames := 0, cells := 0, slots := 0, locals := 0 }, 1, false, 0, 0)
def m13 : Meth := (⟨"DeferredCountY", "bringToLife", "(I)V"⟩, prog_1_method_40_code, 2, none, { frames := 1, cells := 0, slots := 0, locals := 15 }, 1, false, 0, 0)
def m14 : Meth := (⟨"DeferredCountY", "tableInsert", "(I)Z"⟩, prog_1_method_53_code, 2, (some .boolean), { frames := 1, cells := 0, slots := 0, locals := 13 }, 1, false, 0, 0)
def m15 : Meth := (⟨"DeferredCountY", "rootPush", "(I)V"⟩, prog_1_method_48_code, 2, none, { frames := 0, cells := 0, slots := 0, locals := 0 }, 1, false, 0, 0)
def m16 : Meth := (⟨"DeferredCountY", "placeNewObject", "(I)V"⟩, prog_1_method_21_code, 2, none, { frames := 2, cells := 0, slots := 0, locals := 28 }, 1, false, 0, 0)
def m17 : Meth := (⟨"DeferredCountY", "alloc", "()I"⟩, prog_1_method_2_code, 2, (some .int), { frames := 3, cells := 0, slots := 0, locals := 41 }, 1, false, 0, 0)
def m18 : Meth := (⟨"DeferredCountY", "isLiveId", "(I)Z"⟩, prog_1_method_60_code, 2, (some .boolean), { frames := 1, cells := 0, slots := 0, locals := 13 }, 1, false, 0, 0)
def m19 : Meth := (⟨"DeferredCountY", "isFieldNo", "(I)Z"⟩, prog_1_method_61_code, 2, (some .boolean), { frames := 0, cells := 0, slots := 0, locals := 0 }, 1, false, 0, 0)
def m20 : Meth := (⟨"DeferredCountY", "readField", "(II)I"⟩, prog_1_method_43_code, 3, (some .int), { frames := 1, cells := 0, slots := 0, locals := 13 }, 1, false, 0, 0)
def m21 : Meth := (⟨"DeferredCountY", "field", "(II)I"⟩, prog_1_method_11_code, 3, (some .int), { frames := 2, cells := 0, slots := 0, locals := 27 }, 1, false, 0, 0)
def m22 : Meth := (⟨"DeferredCountY", "isRootSlot", "(I)Z"⟩, prog_1_method_62_code, 2, (some .boolean), { frames := 0, cells := 0, slots := 0, locals := 0 }, 1, false, 0, 0)
def m23 : Meth := (⟨"DeferredCountY", "root", "(I)I"⟩, prog_1_method_9_code, 2, (some .int), { frames := 1, cells := 0, slots := 0, locals := 13 }, 1, false, 0, 0)
def m24 : Meth := (⟨"DeferredCountY", "reconciliations", "()I"⟩, prog_1_method_16_code, 1, (some .int), { frames := 0, cells := 0, slots := 0, locals := 0 }, 1, false, 0, 0)
def m25 : Meth := (⟨"DeferredCountY", "tableSize", "()I"⟩, prog_1_method_14_code, 1, (some .int), { frames := 0, cells := 0, slots := 0, locals := 0 }, 1, false, 0, 0)
def m26 : Meth := (⟨"DeferredCountY", "liveCount", "()I"⟩, prog_1_method_15_code, 1, (some .int), { frames := 0, cells := 0, slots := 0, locals := 0 }, 1, false, 0, 0)
def m27 : Meth := (x, code, maxLocals, ret, room_1, 1, true, 0, 0)
theorem ar_0 : (cA PP.2)[0]? = some ("live", "[Z", .boolean, 64) := rfl
theorem ar_1 : (cA PP.2)[1]? = some ("cellFields", "[I", .int, 256) := rfl
theorem ar_2 : (cA PP.2)[2]? = some ("refs", "[I", .int, 64) := rfl
theorem ar_3 : (cA PP.2)[3]? = some ("rootStack", "[I", .int, 16) := rfl
theorem ar_4 : (cA PP.2)[4]? = some ("tableIds", "[I", .int, 64) := rfl
theorem ar_5 : (cA PP.2)[5]? = some ("tablePos", "[I", .int, 64) := rfl
theorem ar_6 : (cA PP.2)[6]? = some ("survivor", "[Z", .boolean, 64) := rfl
theorem ar_7 : (cA PP.2)[7]? = some ("rootHeld", "[Z", .boolean, 64) := rfl
theorem ar_8 : (cA PP.2)[8]? = some ("queued", "[Z", .boolean, 64) := rfl
theorem ar_9 : (cA PP.2)[9]? = some ("holders", "[I", .int, 64) := rfl
theorem ar_10 : (cA PP.2)[10]? = some ("work", "[I", .int, 64) := rfl
theorem fa_7 : FldA PP 7 0 .boolean := ⟨_, _, _, rfl, List.mem_of_getElem? (i := 10) rfl⟩
theorem fa_13 : FldA PP 13 1 .int := ⟨_, _, _, rfl, List.mem_of_getElem? (i := 13) rfl⟩
theorem fa_17 : FldA PP 17 2 .int := ⟨_, _, _, rfl, List.mem_of_getElem? (i := 15) rfl⟩
theorem fa_20 : FldA PP 20 3 .int := ⟨_, _, _, rfl, List.mem_of_getElem? (i := 17) rfl⟩
theorem fa_23 : FldA PP 23 4 .int := ⟨_, _, _, rfl, List.mem_of_getElem? (i := 19) rfl⟩
theorem fa_26 : FldA PP 26 5 .int := ⟨_, _, _, rfl, List.mem_of_getElem? (i := 21) rfl⟩
theorem fa_29 : FldA PP 29 6 .boolean := ⟨_, _, _, rfl, List.mem_of_getElem? (i := 23) rfl⟩
theorem fa_32 : FldA PP 32 7 .boolean := ⟨_, _, _, rfl, List.mem_of_getElem? (i := 25) rfl⟩
theorem fa_35 : FldA PP 35 8 .boolean := ⟨_, _, _, rfl, List.mem_of_getElem? (i := 27) rfl⟩
theorem fa_38 : FldA PP 38 9 .int := ⟨_, _, _, rfl, List.mem_of_getElem? (i := 29) rfl⟩
theorem fa_41 : FldA PP 41 10 .int := ⟨_, _, _, rfl, List.mem_of_getElem? (i := 31) rfl⟩
theorem fs_48 : FldS PP 48 0 .int := ⟨_, _, rfl, List.mem_of_getElem? (i := 36) rfl⟩
theorem fs_52 : FldS PP 52 1 .int := ⟨_, _, rfl, List.mem_of_getElem? (i := 38) rfl⟩
theorem fs_55 : FldS PP 55 2 .int := ⟨_, _, rfl, List.mem_of_getElem? (i := 40) rfl⟩
theorem fs_58 : FldS PP 58 3 .int := ⟨_, _, rfl, List.mem_of_getElem? (i := 42) rfl⟩
theorem fs_73 : FldS PP 73 8 .int := ⟨_, _, rfl, List.mem_of_getElem? (i := 72) rfl⟩
theorem fs_125 : FldS PP 125 5 .int := ⟨_, _, rfl, List.mem_of_getElem? (i := 58) rfl⟩
theorem fs_144 : FldS PP 144 6 .int := ⟨_, _, rfl, List.mem_of_getElem? (i := 64) rfl⟩
theorem fs_147 : FldS PP 147 4 .int := ⟨_, _, rfl, List.mem_of_getElem? (i := 52) rfl⟩
theorem fs_201 : FldS PP 201 7 .int := ⟨_, _, rfl, List.mem_of_getElem? (i := 70) rfl⟩
theorem wr_0 (M : Meth) : Wrt PP M 0 := ⟨_, _, _, rfl, Or.inl (List.mem_of_getElem? (i := 37) rfl)⟩
theorem wr_1 (M : Meth) : Wrt PP M 1 := ⟨_, _, _, rfl, Or.inl (List.mem_of_getElem? (i := 39) rfl)⟩
theorem wr_2 (M : Meth) : Wrt PP M 2 := ⟨_, _, _, rfl, Or.inl (List.mem_of_getElem? (i := 41) rfl)⟩
theorem wr_3 (M : Meth) : Wrt PP M 3 := ⟨_, _, _, rfl, Or.inl (List.mem_of_getElem? (i := 43) rfl)⟩
theorem wr_4 (M : Meth) : Wrt PP M 4 := ⟨_, _, _, rfl, Or.inl (List.mem_of_getElem? (i := 53) rfl)⟩
theorem wr_5 (M : Meth) : Wrt PP M 5 := ⟨_, _, _, rfl, Or.inl (List.mem_of_getElem? (i := 59) rfl)⟩
theorem wr_6 (M : Meth) : Wrt PP M 6 := ⟨_, _, _, rfl, Or.inl (List.mem_of_getElem? (i := 65) rfl)⟩
theorem wr_7 (M : Meth) : Wrt PP M 7 := ⟨_, _, _, rfl, Or.inl (List.mem_of_getElem? (i := 71) rfl)⟩
theorem wr_8 (M : Meth) : Wrt PP M 8 := ⟨_, _, _, rfl, Or.inl (List.mem_of_getElem? (i := 73) rfl)⟩
theorem oid_0 : 1 = (cK PP.2 + 1) * 0 + 1 := rfl
theorem pl_0 : plainName "DeferredCountY" = true := by first | (simp [plainName, overriddenIn]; done) | decide +kernel
theorem pl_1 : plainName "DeferredCountYL1" = true := by first | (simp [plainName, overriddenIn]; done) | decide +kernel
theorem hm_0 : (mY m0).cls = cN PP.2 := rfl
theorem hn_0 : 0 < mN m0 := by decide
theorem pd_0 : parseMethodDescriptor (mY m0).desc = some ⟨[.int, .int, .int], (some .int)⟩ := by decide +kernel
theorem hm_1 : (mY m1).cls = cN PP.2 := rfl
theorem hn_1 : 0 < mN m1 := by decide
theorem pd_1 : parseMethodDescriptor (mY m1).desc = some ⟨[.int], none⟩ := by decide +kernel
theorem hm_2 : (mY m2).cls = cN PP.2 := rfl
theorem hn_2 : 0 < mN m2 := by decide
theorem pd_2 : parseMethodDescriptor (mY m2).desc = some ⟨[], none⟩ := by decide +kernel
theorem hm_3 : (mY m3).cls = cN PP.2 := rfl
theorem hn_3 : 0 < mN m3 := by decide
theorem pd_3 : parseMethodDescriptor (mY m3).desc = some ⟨[], none⟩ := by decide +kernel
theorem hm_4 : (mY m4).cls = cN PP.2 := rfl
theorem hn_4 : 0 < mN m4 := by decide
theorem pd_4 : parseMethodDescriptor (mY m4).desc = some ⟨[], none⟩ := by decide +kernel
theorem hm_5 : (mY m5).cls = cN PP.2 := rfl
theorem hn_5 : 0 < mN m5 := by decide
theorem pd_5 : parseMethodDescriptor (mY m5).desc = some ⟨[], none⟩ := by decide +kernel
theorem hm_6 : (mY m6).cls = cN PP.2 := rfl
theorem hn_6 : 0 < mN m6 := by decide
theorem pd_6 : parseMethodDescriptor (mY m6).desc = some ⟨[.int, .int, .int, .int], none⟩ := by decide +kernel
theorem hm_7 : (mY m7).cls = cN PP.2 := rfl
theorem hn_7 : 0 < mN m7 := by decide
theorem pd_7 : parseMethodDescriptor (mY m7).desc = some ⟨[], (some .boolean)⟩ := by decide +kernel
theorem hm_8 : (mY m8).cls = cN PP.2 := rfl
theorem hn_8 : 0 < mN m8 := by decide
theorem pd_8 : parseMethodDescriptor (mY m8).desc = some ⟨[], (some .boolean)⟩ := by decide +kernel
theorem hm_9 : (mY m9).cls = cN PP.2 := rfl
theorem hn_9 : 0 < mN m9 := by decide
theorem pd_9 : parseMethodDescriptor (mY m9).desc = some ⟨[], (some .boolean)⟩ := by decide +kernel
theorem hm_10 : (mY m10).cls = cN PP.2 := rfl
theorem hn_10 : 0 < mN m10 := by decide
theorem pd_10 : parseMethodDescriptor (mY m10).desc = some ⟨[], (some .boolean)⟩ := by decide +kernel
theorem hm_11 : (mY m11).cls = cN PP.2 := rfl
theorem hn_11 : 0 < mN m11 := by decide
theorem pd_11 : parseMethodDescriptor (mY m11).desc = some ⟨[], (some .int)⟩ := by decide +kernel
theorem hm_12 : (mY m12).cls = cN PP.2 := rfl
theorem hn_12 : 0 < mN m12 := by decide
theorem pd_12 : parseMethodDescriptor (mY m12).desc = some ⟨[.int], (some .boolean)⟩ := by decide +kernel
theorem hm_13 : (mY m13).cls = cN PP.2 := rfl
theorem hn_13 : 0 < mN m13 := by decide
theorem pd_13 : parseMethodDescriptor (mY m13).desc = some ⟨[.int], none⟩ := by decide +kernel
theorem hm_14 : (mY m14).cls = cN PP.2 := rfl
theorem hn_14 : 0 < mN m14 := by decide
theorem pd_14 : parseMethodDescriptor (mY m14).desc = some ⟨[.int], (some .boolean)⟩ := by decide +kernel
theorem hm_15 : (mY m15).cls = cN PP.2 := rfl
theorem hn_15 : 0 < mN m15 := by decide
theorem pd_15 : parseMethodDescriptor (mY m15).desc = some ⟨[.int], none⟩ := by decide +kernel
theorem hm_16 : (mY m16).cls = cN PP.2 := rfl
theorem hn_16 : 0 < mN m16 := by decide
theorem pd_16 : parseMethodDescriptor (mY m16).desc = some ⟨[.int], none⟩ := by decide +kernel
theorem hm_17 : (mY m17).cls = cN PP.2 := rfl
theorem hn_17 : 0 < mN m17 := by decide
theorem pd_17 : parseMethodDescriptor (mY m17).desc = some ⟨[], (some .int)⟩ := by decide +kernel
theorem hm_18 : (mY m18).cls = cN PP.2 := rfl
theorem hn_18 : 0 < mN m18 := by decide
theorem pd_18 : parseMethodDescriptor (mY m18).desc = some ⟨[.int], (some .boolean)⟩ := by decide +kernel
theorem hm_19 : (mY m19).cls = cN PP.2 := rfl
theorem hn_19 : 0 < mN m19 := by decide
theorem pd_19 : parseMethodDescriptor (mY m19).desc = some ⟨[.int], (some .boolean)⟩ := by decide +kernel
theorem hm_20 : (mY m20).cls = cN PP.2 := rfl
theorem hn_20 : 0 < mN m20 := by decide
theorem pd_20 : parseMethodDescriptor (mY m20).desc = some ⟨[.int, .int], (some .int)⟩ := by decide +kernel
theorem hm_21 : (mY m21).cls = cN PP.2 := rfl
theorem hn_21 : 0 < mN m21 := by decide
theorem pd_21 : parseMethodDescriptor (mY m21).desc = some ⟨[.int, .int], (some .int)⟩ := by decide +kernel
theorem hm_22 : (mY m22).cls = cN PP.2 := rfl
theorem hn_22 : 0 < mN m22 := by decide
theorem pd_22 : parseMethodDescriptor (mY m22).desc = some ⟨[.int], (some .boolean)⟩ := by decide +kernel
theorem hm_23 : (mY m23).cls = cN PP.2 := rfl
theorem hn_23 : 0 < mN m23 := by decide
theorem pd_23 : parseMethodDescriptor (mY m23).desc = some ⟨[.int], (some .int)⟩ := by decide +kernel
theorem hm_24 : (mY m24).cls = cN PP.2 := rfl
theorem hn_24 : 0 < mN m24 := by decide
theorem pd_24 : parseMethodDescriptor (mY m24).desc = some ⟨[], (some .int)⟩ := by decide +kernel
theorem hm_25 : (mY m25).cls = cN PP.2 := rfl
theorem hn_25 : 0 < mN m25 := by decide
theorem pd_25 : parseMethodDescriptor (mY m25).desc = some ⟨[], (some .int)⟩ := by decide +kernel
theorem hm_26 : (mY m26).cls = cN PP.2 := rfl
theorem hn_26 : 0 < mN m26 := by decide
theorem pd_26 : parseMethodDescriptor (mY m26).desc = some ⟨[], (some .int)⟩ := by decide +kernel
theorem hn_27 : 0 < mN m27 := by decide
theorem d0_0 : decode (mB m0) 0 = .ok (.iload_n 0, 1) := by decide +kernel
theorem d0_1 : decode (mB m0) 1 = .ok (.iload_n 1, 1) := by decide +kernel
theorem d0_2 : decode (mB m0) 2 = .ok (.if_icmp .ge 5, 3) := by decide +kernel
theorem d0_5 : decode (mB m0) 5 = .ok (.iload_n 1, 1) := by decide +kernel
theorem d0_6 : decode (mB m0) 6 = .ok (.ireturn, 1) := by decide +kernel
theorem d0_7 : decode (mB m0) 7 = .ok (.iload_n 0, 1) := by decide +kernel
theorem d0_8 : decode (mB m0) 8 = .ok (.iload_n 2, 1) := by decide +kernel
theorem d0_9 : decode (mB m0) 9 = .ok (.if_icmp .le 5, 3) := by decide +kernel
theorem d0_12 : decode (mB m0) 12 = .ok (.iload_n 2, 1) := by decide +kernel
theorem d0_13 : decode (mB m0) 13 = .ok (.ireturn, 1) := by decide +kernel
theorem d0_14 : decode (mB m0) 14 = .ok (.iload_n 0, 1) := by decide +kernel
theorem d0_15 : decode (mB m0) 15 = .ok (.ireturn, 1) := by decide +kernel
theorem d1_0 : decode (mB m1) 0 = .ok (.iload_n 1, 1) := by decide +kernel
theorem d1_1 : decode (mB m1) 1 = .ok (.ifCond .lt 9, 3) := by decide +kernel
theorem d1_4 : decode (mB m1) 4 = .ok (.iload_n 1, 1) := by decide +kernel
theorem d1_5 : decode (mB m1) 5 = .ok (.bipush 64, 2) := by decide +kernel
theorem d1_7 : decode (mB m1) 7 = .ok (.if_icmp .lt 4, 3) := by decide +kernel
theorem d1_10 : decode (mB m1) 10 = .ok (.return_, 1) := by decide +kernel
theorem d1_11 : decode (mB m1) 11 = .ok (.iload_n 1, 1) := by decide +kernel
theorem d1_12 : decode (mB m1) 12 = .ok (.iconst 4, 1) := by decide +kernel
theorem d1_13 : decode (mB m1) 13 = .ok (.imul, 1) := by decide +kernel
theorem d1_14 : decode (mB m1) 14 = .ok (.istore_n 2, 1) := by decide +kernel
theorem d1_15 : decode (mB m1) 15 = .ok (.iconst 0, 1) := by decide +kernel
theorem d1_16 : decode (mB m1) 16 = .ok (.istore_n 3, 1) := by decide +kernel
theorem d1_17 : decode (mB m1) 17 = .ok (.iload_n 3, 1) := by decide +kernel
theorem d1_18 : decode (mB m1) 18 = .ok (.iconst 4, 1) := by decide +kernel
theorem d1_19 : decode (mB m1) 19 = .ok (.if_icmp .ge 18, 3) := by decide +kernel
theorem d1_22 : decode (mB m1) 22 = .ok (.aload_n 0, 1) := by decide +kernel
theorem d1_23 : decode (mB m1) 23 = .ok (.getfield 13, 3) := by decide +kernel
theorem d1_26 : decode (mB m1) 26 = .ok (.iload_n 2, 1) := by decide +kernel
theorem d1_27 : decode (mB m1) 27 = .ok (.iload_n 3, 1) := by decide +kernel
theorem d1_28 : decode (mB m1) 28 = .ok (.iadd, 1) := by decide +kernel
theorem d1_29 : decode (mB m1) 29 = .ok (.iconst (-1), 1) := by decide +kernel
theorem d1_30 : decode (mB m1) 30 = .ok (.iastore, 1) := by decide +kernel
theorem d1_31 : decode (mB m1) 31 = .ok (.iinc 3 1, 3) := by decide +kernel
theorem d1_34 : decode (mB m1) 34 = .ok (.goto (-17), 3) := by decide +kernel
theorem d1_37 : decode (mB m1) 37 = .ok (.return_, 1) := by decide +kernel
theorem d2_0 : decode (mB m2) 0 = .ok (.iconst 0, 1) := by decide +kernel
theorem d2_1 : decode (mB m2) 1 = .ok (.istore_n 1, 1) := by decide +kernel
theorem d2_2 : decode (mB m2) 2 = .ok (.iload_n 1, 1) := by decide +kernel
theorem d2_3 : decode (mB m2) 3 = .ok (.bipush 64, 2) := by decide +kernel
theorem d2_5 : decode (mB m2) 5 = .ok (.if_icmp .ge 28, 3) := by decide +kernel
theorem d2_8 : decode (mB m2) 8 = .ok (.aload_n 0, 1) := by decide +kernel
theorem d2_9 : decode (mB m2) 9 = .ok (.getfield 7, 3) := by decide +kernel
theorem d2_12 : decode (mB m2) 12 = .ok (.iload_n 1, 1) := by decide +kernel
theorem d2_13 : decode (mB m2) 13 = .ok (.iconst 0, 1) := by decide +kernel
theorem d2_14 : decode (mB m2) 14 = .ok (.bastore, 1) := by decide +kernel
theorem d2_15 : decode (mB m2) 15 = .ok (.aload_n 0, 1) := by decide +kernel
theorem d2_16 : decode (mB m2) 16 = .ok (.getfield 17, 3) := by decide +kernel
theorem d2_19 : decode (mB m2) 19 = .ok (.iload_n 1, 1) := by decide +kernel
theorem d2_20 : decode (mB m2) 20 = .ok (.iconst 0, 1) := by decide +kernel
theorem d2_21 : decode (mB m2) 21 = .ok (.iastore, 1) := by decide +kernel
theorem d2_22 : decode (mB m2) 22 = .ok (.aload_n 0, 1) := by decide +kernel
theorem d2_23 : decode (mB m2) 23 = .ok (.iload_n 1, 1) := by decide +kernel
theorem d2_24 : decode (mB m2) 24 = .ok (.invokevirtual 219, 3) := by decide +kernel
theorem d2_27 : decode (mB m2) 27 = .ok (.iinc 1 1, 3) := by decide +kernel
theorem d2_30 : decode (mB m2) 30 = .ok (.goto (-28), 3) := by decide +kernel
theorem d2_33 : decode (mB m2) 33 = .ok (.aload_n 0, 1) := by decide +kernel
theorem d2_34 : decode (mB m2) 34 = .ok (.iconst 0, 1) := by decide +kernel
theorem d2_35 : decode (mB m2) 35 = .ok (.putfield 147, 3) := by decide +kernel
theorem d2_38 : decode (mB m2) 38 = .ok (.return_, 1) := by decide +kernel
theorem d3_0 : decode (mB m3) 0 = .ok (.iconst 0, 1) := by decide +kernel
theorem d3_1 : decode (mB m3) 1 = .ok (.istore_n 1, 1) := by decide +kernel
theorem d3_2 : decode (mB m3) 2 = .ok (.iload_n 1, 1) := by decide +kernel
theorem d3_3 : decode (mB m3) 3 = .ok (.bipush 16, 2) := by decide +kernel
theorem d3_5 : decode (mB m3) 5 = .ok (.if_icmp .ge 16, 3) := by decide +kernel
theorem d3_8 : decode (mB m3) 8 = .ok (.aload_n 0, 1) := by decide +kernel
theorem d3_9 : decode (mB m3) 9 = .ok (.getfield 20, 3) := by decide +kernel
theorem d3_12 : decode (mB m3) 12 = .ok (.iload_n 1, 1) := by decide +kernel
theorem d3_13 : decode (mB m3) 13 = .ok (.iconst (-1), 1) := by decide +kernel
theorem d3_14 : decode (mB m3) 14 = .ok (.iastore, 1) := by decide +kernel
theorem d3_15 : decode (mB m3) 15 = .ok (.iinc 1 1, 3) := by decide +kernel
theorem d3_18 : decode (mB m3) 18 = .ok (.goto (-16), 3) := by decide +kernel
theorem d3_21 : decode (mB m3) 21 = .ok (.aload_n 0, 1) := by decide +kernel
theorem d3_22 : decode (mB m3) 22 = .ok (.iconst 0, 1) := by decide +kernel
theorem d3_23 : decode (mB m3) 23 = .ok (.putfield 125, 3) := by decide +kernel
theorem d3_26 : decode (mB m3) 26 = .ok (.return_, 1) := by decide +kernel
theorem d4_0 : decode (mB m4) 0 = .ok (.iconst 0, 1) := by decide +kernel
theorem d4_1 : decode (mB m4) 1 = .ok (.istore_n 1, 1) := by decide +kernel
theorem d4_2 : decode (mB m4) 2 = .ok (.iload_n 1, 1) := by decide +kernel
theorem d4_3 : decode (mB m4) 3 = .ok (.bipush 64, 2) := by decide +kernel
theorem d4_5 : decode (mB m4) 5 = .ok (.if_icmp .ge 16, 3) := by decide +kernel
theorem d4_8 : decode (mB m4) 8 = .ok (.aload_n 0, 1) := by decide +kernel
theorem d4_9 : decode (mB m4) 9 = .ok (.getfield 23, 3) := by decide +kernel
theorem d4_12 : decode (mB m4) 12 = .ok (.iload_n 1, 1) := by decide +kernel
theorem d4_13 : decode (mB m4) 13 = .ok (.iconst (-1), 1) := by decide +kernel
theorem d4_14 : decode (mB m4) 14 = .ok (.iastore, 1) := by decide +kernel
theorem d4_15 : decode (mB m4) 15 = .ok (.iinc 1 1, 3) := by decide +kernel
theorem d4_18 : decode (mB m4) 18 = .ok (.goto (-16), 3) := by decide +kernel
theorem d4_21 : decode (mB m4) 21 = .ok (.iconst 0, 1) := by decide +kernel
theorem d4_22 : decode (mB m4) 22 = .ok (.istore_n 1, 1) := by decide +kernel
theorem d4_23 : decode (mB m4) 23 = .ok (.iload_n 1, 1) := by decide +kernel
theorem d4_24 : decode (mB m4) 24 = .ok (.bipush 64, 2) := by decide +kernel
theorem d4_26 : decode (mB m4) 26 = .ok (.if_icmp .ge 16, 3) := by decide +kernel
theorem d4_29 : decode (mB m4) 29 = .ok (.aload_n 0, 1) := by decide +kernel
theorem d4_30 : decode (mB m4) 30 = .ok (.getfield 26, 3) := by decide +kernel
theorem d4_33 : decode (mB m4) 33 = .ok (.iload_n 1, 1) := by decide +kernel
theorem d4_34 : decode (mB m4) 34 = .ok (.iconst (-1), 1) := by decide +kernel
theorem d4_35 : decode (mB m4) 35 = .ok (.iastore, 1) := by decide +kernel
theorem d4_36 : decode (mB m4) 36 = .ok (.iinc 1 1, 3) := by decide +kernel
theorem d4_39 : decode (mB m4) 39 = .ok (.goto (-16), 3) := by decide +kernel
theorem d4_42 : decode (mB m4) 42 = .ok (.aload_n 0, 1) := by decide +kernel
theorem d4_43 : decode (mB m4) 43 = .ok (.iconst 0, 1) := by decide +kernel
theorem d4_44 : decode (mB m4) 44 = .ok (.putfield 144, 3) := by decide +kernel
theorem d4_47 : decode (mB m4) 47 = .ok (.return_, 1) := by decide +kernel
theorem d5_0 : decode (mB m5) 0 = .ok (.iconst 0, 1) := by decide +kernel
theorem d5_1 : decode (mB m5) 1 = .ok (.istore_n 1, 1) := by decide +kernel
theorem d5_2 : decode (mB m5) 2 = .ok (.iload_n 1, 1) := by decide +kernel
theorem d5_3 : decode (mB m5) 3 = .ok (.bipush 64, 2) := by decide +kernel
theorem d5_5 : decode (mB m5) 5 = .ok (.if_icmp .ge 44, 3) := by decide +kernel
theorem d5_8 : decode (mB m5) 8 = .ok (.aload_n 0, 1) := by decide +kernel
theorem d5_9 : decode (mB m5) 9 = .ok (.getfield 29, 3) := by decide +kernel
theorem d5_12 : decode (mB m5) 12 = .ok (.iload_n 1, 1) := by decide +kernel
theorem d5_13 : decode (mB m5) 13 = .ok (.iconst 0, 1) := by decide +kernel
theorem d5_14 : decode (mB m5) 14 = .ok (.bastore, 1) := by decide +kernel
theorem d5_15 : decode (mB m5) 15 = .ok (.aload_n 0, 1) := by decide +kernel
theorem d5_16 : decode (mB m5) 16 = .ok (.getfield 32, 3) := by decide +kernel
theorem d5_19 : decode (mB m5) 19 = .ok (.iload_n 1, 1) := by decide +kernel
theorem d5_20 : decode (mB m5) 20 = .ok (.iconst 0, 1) := by decide +kernel
theorem d5_21 : decode (mB m5) 21 = .ok (.bastore, 1) := by decide +kernel
theorem d5_22 : decode (mB m5) 22 = .ok (.aload_n 0, 1) := by decide +kernel
theorem d5_23 : decode (mB m5) 23 = .ok (.getfield 35, 3) := by decide +kernel
theorem d5_26 : decode (mB m5) 26 = .ok (.iload_n 1, 1) := by decide +kernel
theorem d5_27 : decode (mB m5) 27 = .ok (.iconst 0, 1) := by decide +kernel
theorem d5_28 : decode (mB m5) 28 = .ok (.bastore, 1) := by decide +kernel
theorem d5_29 : decode (mB m5) 29 = .ok (.aload_n 0, 1) := by decide +kernel
theorem d5_30 : decode (mB m5) 30 = .ok (.getfield 38, 3) := by decide +kernel
theorem d5_33 : decode (mB m5) 33 = .ok (.iload_n 1, 1) := by decide +kernel
theorem d5_34 : decode (mB m5) 34 = .ok (.iconst 0, 1) := by decide +kernel
theorem d5_35 : decode (mB m5) 35 = .ok (.iastore, 1) := by decide +kernel
theorem d5_36 : decode (mB m5) 36 = .ok (.aload_n 0, 1) := by decide +kernel
theorem d5_37 : decode (mB m5) 37 = .ok (.getfield 41, 3) := by decide +kernel
theorem d5_40 : decode (mB m5) 40 = .ok (.iload_n 1, 1) := by decide +kernel
theorem d5_41 : decode (mB m5) 41 = .ok (.iconst (-1), 1) := by decide +kernel
theorem d5_42 : decode (mB m5) 42 = .ok (.iastore, 1) := by decide +kernel
theorem d5_43 : decode (mB m5) 43 = .ok (.iinc 1 1, 3) := by decide +kernel
theorem d5_46 : decode (mB m5) 46 = .ok (.goto (-44), 3) := by decide +kernel
theorem d5_49 : decode (mB m5) 49 = .ok (.aload_n 0, 1) := by decide +kernel
theorem d5_50 : decode (mB m5) 50 = .ok (.iconst 0, 1) := by decide +kernel
theorem d5_51 : decode (mB m5) 51 = .ok (.putfield 201, 3) := by decide +kernel
theorem d5_54 : decode (mB m5) 54 = .ok (.return_, 1) := by decide +kernel
theorem d6_0 : decode (mB m6) 0 = .ok (.aload_n 0, 1) := by decide +kernel
theorem d6_1 : decode (mB m6) 1 = .ok (.invokespecial 1, 3) := by decide +kernel
theorem d6_4 : decode (mB m6) 4 = .ok (.aload_n 0, 1) := by decide +kernel
theorem d6_5 : decode (mB m6) 5 = .ok (.bipush 64, 2) := by decide +kernel
theorem d6_7 : decode (mB m6) 7 = .ok (.newarray .boolean, 2) := by decide +kernel
theorem d6_9 : decode (mB m6) 9 = .ok (.putfield 7, 3) := by decide +kernel
theorem d6_12 : decode (mB m6) 12 = .ok (.aload_n 0, 1) := by decide +kernel
theorem d6_13 : decode (mB m6) 13 = .ok (.sipush 256, 3) := by decide +kernel
theorem d6_16 : decode (mB m6) 16 = .ok (.newarray .int, 2) := by decide +kernel
theorem d6_18 : decode (mB m6) 18 = .ok (.putfield 13, 3) := by decide +kernel
theorem d6_21 : decode (mB m6) 21 = .ok (.aload_n 0, 1) := by decide +kernel
theorem d6_22 : decode (mB m6) 22 = .ok (.bipush 64, 2) := by decide +kernel
theorem d6_24 : decode (mB m6) 24 = .ok (.newarray .int, 2) := by decide +kernel
theorem d6_26 : decode (mB m6) 26 = .ok (.putfield 17, 3) := by decide +kernel
theorem d6_29 : decode (mB m6) 29 = .ok (.aload_n 0, 1) := by decide +kernel
theorem d6_30 : decode (mB m6) 30 = .ok (.bipush 16, 2) := by decide +kernel
theorem d6_32 : decode (mB m6) 32 = .ok (.newarray .int, 2) := by decide +kernel
theorem d6_34 : decode (mB m6) 34 = .ok (.putfield 20, 3) := by decide +kernel
theorem d6_37 : decode (mB m6) 37 = .ok (.aload_n 0, 1) := by decide +kernel
theorem d6_38 : decode (mB m6) 38 = .ok (.bipush 64, 2) := by decide +kernel
theorem d6_40 : decode (mB m6) 40 = .ok (.newarray .int, 2) := by decide +kernel
theorem d6_42 : decode (mB m6) 42 = .ok (.putfield 23, 3) := by decide +kernel
theorem d6_45 : decode (mB m6) 45 = .ok (.aload_n 0, 1) := by decide +kernel
theorem d6_46 : decode (mB m6) 46 = .ok (.bipush 64, 2) := by decide +kernel
theorem d6_48 : decode (mB m6) 48 = .ok (.newarray .int, 2) := by decide +kernel
theorem d6_50 : decode (mB m6) 50 = .ok (.putfield 26, 3) := by decide +kernel
theorem d6_53 : decode (mB m6) 53 = .ok (.aload_n 0, 1) := by decide +kernel
theorem d6_54 : decode (mB m6) 54 = .ok (.bipush 64, 2) := by decide +kernel
theorem d6_56 : decode (mB m6) 56 = .ok (.newarray .boolean, 2) := by decide +kernel
theorem d6_58 : decode (mB m6) 58 = .ok (.putfield 29, 3) := by decide +kernel
theorem d6_61 : decode (mB m6) 61 = .ok (.aload_n 0, 1) := by decide +kernel
theorem d6_62 : decode (mB m6) 62 = .ok (.bipush 64, 2) := by decide +kernel
theorem d6_64 : decode (mB m6) 64 = .ok (.newarray .boolean, 2) := by decide +kernel
theorem d6_66 : decode (mB m6) 66 = .ok (.putfield 32, 3) := by decide +kernel
theorem d6_69 : decode (mB m6) 69 = .ok (.aload_n 0, 1) := by decide +kernel
theorem d6_70 : decode (mB m6) 70 = .ok (.bipush 64, 2) := by decide +kernel
theorem d6_72 : decode (mB m6) 72 = .ok (.newarray .boolean, 2) := by decide +kernel
theorem d6_74 : decode (mB m6) 74 = .ok (.putfield 35, 3) := by decide +kernel
theorem d6_77 : decode (mB m6) 77 = .ok (.aload_n 0, 1) := by decide +kernel
theorem d6_78 : decode (mB m6) 78 = .ok (.bipush 64, 2) := by decide +kernel
theorem d6_80 : decode (mB m6) 80 = .ok (.newarray .int, 2) := by decide +kernel
theorem d6_82 : decode (mB m6) 82 = .ok (.putfield 38, 3) := by decide +kernel
theorem d6_85 : decode (mB m6) 85 = .ok (.aload_n 0, 1) := by decide +kernel
theorem d6_86 : decode (mB m6) 86 = .ok (.bipush 64, 2) := by decide +kernel
theorem d6_88 : decode (mB m6) 88 = .ok (.newarray .int, 2) := by decide +kernel
theorem d6_90 : decode (mB m6) 90 = .ok (.putfield 41, 3) := by decide +kernel
theorem d6_93 : decode (mB m6) 93 = .ok (.aload_n 0, 1) := by decide +kernel
theorem d6_94 : decode (mB m6) 94 = .ok (.iload_n 1, 1) := by decide +kernel
theorem d6_95 : decode (mB m6) 95 = .ok (.iconst 4, 1) := by decide +kernel
theorem d6_96 : decode (mB m6) 96 = .ok (.bipush 64, 2) := by decide +kernel
theorem d6_98 : decode (mB m6) 98 = .ok (.invokestatic 44, 3) := by decide +kernel
theorem d6_101 : decode (mB m6) 101 = .ok (.putfield 48, 3) := by decide +kernel
theorem d6_104 : decode (mB m6) 104 = .ok (.aload_n 0, 1) := by decide +kernel
theorem d6_105 : decode (mB m6) 105 = .ok (.iload_n 2, 1) := by decide +kernel
theorem d6_106 : decode (mB m6) 106 = .ok (.iconst 1, 1) := by decide +kernel
theorem d6_107 : decode (mB m6) 107 = .ok (.iconst 4, 1) := by decide +kernel
theorem d6_108 : decode (mB m6) 108 = .ok (.invokestatic 44, 3) := by decide +kernel
theorem d6_111 : decode (mB m6) 111 = .ok (.putfield 52, 3) := by decide +kernel
theorem d6_114 : decode (mB m6) 114 = .ok (.aload_n 0, 1) := by decide +kernel
theorem d6_115 : decode (mB m6) 115 = .ok (.iload_n 3, 1) := by decide +kernel
theorem d6_116 : decode (mB m6) 116 = .ok (.iconst 1, 1) := by decide +kernel
theorem d6_117 : decode (mB m6) 117 = .ok (.bipush 16, 2) := by decide +kernel
theorem d6_119 : decode (mB m6) 119 = .ok (.invokestatic 44, 3) := by decide +kernel
theorem d6_122 : decode (mB m6) 122 = .ok (.putfield 55, 3) := by decide +kernel
theorem d6_125 : decode (mB m6) 125 = .ok (.aload_n 0, 1) := by decide +kernel
theorem d6_126 : decode (mB m6) 126 = .ok (.getfield 55, 3) := by decide +kernel
theorem d6_129 : decode (mB m6) 129 = .ok (.iconst 1, 1) := by decide +kernel
theorem d6_130 : decode (mB m6) 130 = .ok (.iadd, 1) := by decide +kernel
theorem d6_131 : decode (mB m6) 131 = .ok (.istore 5, 2) := by decide +kernel
theorem d6_133 : decode (mB m6) 133 = .ok (.aload_n 0, 1) := by decide +kernel
theorem d6_134 : decode (mB m6) 134 = .ok (.iload 4, 2) := by decide +kernel
theorem d6_136 : decode (mB m6) 136 = .ok (.iload 5, 2) := by decide +kernel
theorem d6_138 : decode (mB m6) 138 = .ok (.bipush 64, 2) := by decide +kernel
theorem d6_140 : decode (mB m6) 140 = .ok (.invokestatic 44, 3) := by decide +kernel
theorem d6_143 : decode (mB m6) 143 = .ok (.putfield 58, 3) := by decide +kernel
theorem d6_146 : decode (mB m6) 146 = .ok (.aload_n 0, 1) := by decide +kernel
theorem d6_147 : decode (mB m6) 147 = .ok (.invokevirtual 61, 3) := by decide +kernel
theorem d6_150 : decode (mB m6) 150 = .ok (.aload_n 0, 1) := by decide +kernel
theorem d6_151 : decode (mB m6) 151 = .ok (.invokevirtual 64, 3) := by decide +kernel
theorem d6_154 : decode (mB m6) 154 = .ok (.aload_n 0, 1) := by decide +kernel
theorem d6_155 : decode (mB m6) 155 = .ok (.invokevirtual 67, 3) := by decide +kernel
theorem d6_158 : decode (mB m6) 158 = .ok (.aload_n 0, 1) := by decide +kernel
theorem d6_159 : decode (mB m6) 159 = .ok (.invokevirtual 70, 3) := by decide +kernel
theorem d6_162 : decode (mB m6) 162 = .ok (.aload_n 0, 1) := by decide +kernel
theorem d6_163 : decode (mB m6) 163 = .ok (.iconst 0, 1) := by decide +kernel
theorem d6_164 : decode (mB m6) 164 = .ok (.putfield 73, 3) := by decide +kernel
theorem d6_167 : decode (mB m6) 167 = .ok (.return_, 1) := by decide +kernel
theorem d7_0 : decode (mB m7) 0 = .ok (.aload_n 0, 1) := by decide +kernel
theorem d7_1 : decode (mB m7) 1 = .ok (.getfield 125, 3) := by decide +kernel
theorem d7_4 : decode (mB m7) 4 = .ok (.aload_n 0, 1) := by decide +kernel
theorem d7_5 : decode (mB m7) 5 = .ok (.getfield 55, 3) := by decide +kernel
theorem d7_8 : decode (mB m7) 8 = .ok (.if_icmp .lt 7, 3) := by decide +kernel
theorem d7_11 : decode (mB m7) 11 = .ok (.iconst 1, 1) := by decide +kernel
theorem d7_12 : decode (mB m7) 12 = .ok (.goto 4, 3) := by decide +kernel
theorem d7_15 : decode (mB m7) 15 = .ok (.iconst 0, 1) := by decide +kernel
theorem d7_16 : decode (mB m7) 16 = .ok (.ireturn, 1) := by decide +kernel
theorem d8_0 : decode (mB m8) 0 = .ok (.aload_n 0, 1) := by decide +kernel
theorem d8_1 : decode (mB m8) 1 = .ok (.getfield 147, 3) := by decide +kernel
theorem d8_4 : decode (mB m8) 4 = .ok (.aload_n 0, 1) := by decide +kernel
theorem d8_5 : decode (mB m8) 5 = .ok (.getfield 48, 3) := by decide +kernel
theorem d8_8 : decode (mB m8) 8 = .ok (.if_icmp .ge 7, 3) := by decide +kernel
theorem d8_11 : decode (mB m8) 11 = .ok (.iconst 1, 1) := by decide +kernel
theorem d8_12 : decode (mB m8) 12 = .ok (.goto 4, 3) := by decide +kernel
theorem d8_15 : decode (mB m8) 15 = .ok (.iconst 0, 1) := by decide +kernel
theorem d8_16 : decode (mB m8) 16 = .ok (.ireturn, 1) := by decide +kernel
theorem d9_0 : decode (mB m9) 0 = .ok (.aload_n 0, 1) := by decide +kernel
theorem d9_1 : decode (mB m9) 1 = .ok (.getfield 144, 3) := by decide +kernel
theorem d9_4 : decode (mB m9) 4 = .ok (.aload_n 0, 1) := by decide +kernel
theorem d9_5 : decode (mB m9) 5 = .ok (.getfield 58, 3) := by decide +kernel
theorem d9_8 : decode (mB m9) 8 = .ok (.if_icmp .lt 7, 3) := by decide +kernel
theorem d9_11 : decode (mB m9) 11 = .ok (.iconst 1, 1) := by decide +kernel
theorem d9_12 : decode (mB m9) 12 = .ok (.goto 4, 3) := by decide +kernel
theorem d9_15 : decode (mB m9) 15 = .ok (.iconst 0, 1) := by decide +kernel
theorem d9_16 : decode (mB m9) 16 = .ok (.ireturn, 1) := by decide +kernel
theorem d10_0 : decode (mB m10) 0 = .ok (.aload_n 0, 1) := by decide +kernel
theorem d10_1 : decode (mB m10) 1 = .ok (.invokevirtual 153, 3) := by decide +kernel
theorem d10_4 : decode (mB m10) 4 = .ok (.ifCond .ne 5, 3) := by decide +kernel
theorem d10_7 : decode (mB m10) 7 = .ok (.iconst 1, 1) := by decide +kernel
theorem d10_8 : decode (mB m10) 8 = .ok (.ireturn, 1) := by decide +kernel
theorem d10_9 : decode (mB m10) 9 = .ok (.aload_n 0, 1) := by decide +kernel
theorem d10_10 : decode (mB m10) 10 = .ok (.invokevirtual 156, 3) := by decide +kernel
theorem d10_13 : decode (mB m10) 13 = .ok (.ireturn, 1) := by decide +kernel
theorem d11_0 : decode (mB m11) 0 = .ok (.iconst 0, 1) := by decide +kernel
theorem d11_1 : decode (mB m11) 1 = .ok (.istore_n 1, 1) := by decide +kernel
theorem d11_2 : decode (mB m11) 2 = .ok (.iload_n 1, 1) := by decide +kernel
theorem d11_3 : decode (mB m11) 3 = .ok (.aload_n 0, 1) := by decide +kernel
theorem d11_4 : decode (mB m11) 4 = .ok (.getfield 48, 3) := by decide +kernel
theorem d11_7 : decode (mB m11) 7 = .ok (.if_icmp .ge 20, 3) := by decide +kernel
theorem d11_10 : decode (mB m11) 10 = .ok (.aload_n 0, 1) := by decide +kernel
theorem d11_11 : decode (mB m11) 11 = .ok (.getfield 7, 3) := by decide +kernel
theorem d11_14 : decode (mB m11) 14 = .ok (.iload_n 1, 1) := by decide +kernel
theorem d11_15 : decode (mB m11) 15 = .ok (.baload, 1) := by decide +kernel
theorem d11_16 : decode (mB m11) 16 = .ok (.ifCond .ne 5, 3) := by decide +kernel
theorem d11_19 : decode (mB m11) 19 = .ok (.iload_n 1, 1) := by decide +kernel
theorem d11_20 : decode (mB m11) 20 = .ok (.ireturn, 1) := by decide +kernel
theorem d11_21 : decode (mB m11) 21 = .ok (.iinc 1 1, 3) := by decide +kernel
theorem d11_24 : decode (mB m11) 24 = .ok (.goto (-22), 3) := by decide +kernel
theorem d11_27 : decode (mB m11) 27 = .ok (.iconst (-1), 1) := by decide +kernel
theorem d11_28 : decode (mB m11) 28 = .ok (.ireturn, 1) := by decide +kernel
theorem d12_0 : decode (mB m12) 0 = .ok (.iload_n 1, 1) := by decide +kernel
theorem d12_1 : decode (mB m12) 1 = .ok (.ifCond .lt 15, 3) := by decide +kernel
theorem d12_4 : decode (mB m12) 4 = .ok (.iload_n 1, 1) := by decide +kernel
theorem d12_5 : decode (mB m12) 5 = .ok (.aload_n 0, 1) := by decide +kernel
theorem d12_6 : decode (mB m12) 6 = .ok (.getfield 48, 3) := by decide +kernel
theorem d12_9 : decode (mB m12) 9 = .ok (.if_icmp .ge 7, 3) := by decide +kernel
theorem d12_12 : decode (mB m12) 12 = .ok (.iconst 1, 1) := by decide +kernel
theorem d12_13 : decode (mB m12) 13 = .ok (.goto 4, 3) := by decide +kernel
theorem d12_16 : decode (mB m12) 16 = .ok (.iconst 0, 1) := by decide +kernel
theorem d12_17 : decode (mB m12) 17 = .ok (.ireturn, 1) := by decide +kernel
theorem d13_0 : decode (mB m13) 0 = .ok (.aload_n 0, 1) := by decide +kernel
theorem d13_1 : decode (mB m13) 1 = .ok (.iload_n 1, 1) := by decide +kernel
theorem d13_2 : decode (mB m13) 2 = .ok (.invokevirtual 165, 3) := by decide +kernel
theorem d13_5 : decode (mB m13) 5 = .ok (.ifCond .ne 4, 3) := by decide +kernel
theorem d13_8 : decode (mB m13) 8 = .ok (.return_, 1) := by decide +kernel
theorem d13_9 : decode (mB m13) 9 = .ok (.aload_n 0, 1) := by decide +kernel
theorem d13_10 : decode (mB m13) 10 = .ok (.getfield 7, 3) := by decide +kernel
theorem d13_13 : decode (mB m13) 13 = .ok (.iload_n 1, 1) := by decide +kernel
theorem d13_14 : decode (mB m13) 14 = .ok (.baload, 1) := by decide +kernel
theorem d13_15 : decode (mB m13) 15 = .ok (.ifCond .eq 4, 3) := by decide +kernel
theorem d13_18 : decode (mB m13) 18 = .ok (.return_, 1) := by decide +kernel
theorem d13_19 : decode (mB m13) 19 = .ok (.aload_n 0, 1) := by decide +kernel
theorem d13_20 : decode (mB m13) 20 = .ok (.getfield 7, 3) := by decide +kernel
theorem d13_23 : decode (mB m13) 23 = .ok (.iload_n 1, 1) := by decide +kernel
theorem d13_24 : decode (mB m13) 24 = .ok (.iconst 1, 1) := by decide +kernel
theorem d13_25 : decode (mB m13) 25 = .ok (.bastore, 1) := by decide +kernel
theorem d13_26 : decode (mB m13) 26 = .ok (.aload_n 0, 1) := by decide +kernel
theorem d13_27 : decode (mB m13) 27 = .ok (.iload_n 1, 1) := by decide +kernel
theorem d13_28 : decode (mB m13) 28 = .ok (.invokevirtual 219, 3) := by decide +kernel
theorem d13_31 : decode (mB m13) 31 = .ok (.aload_n 0, 1) := by decide +kernel
theorem d13_32 : decode (mB m13) 32 = .ok (.getfield 17, 3) := by decide +kernel
theorem d13_35 : decode (mB m13) 35 = .ok (.iload_n 1, 1) := by decide +kernel
theorem d13_36 : decode (mB m13) 36 = .ok (.iconst 0, 1) := by decide +kernel
theorem d13_37 : decode (mB m13) 37 = .ok (.iastore, 1) := by decide +kernel
theorem d13_38 : decode (mB m13) 38 = .ok (.aload_n 0, 1) := by decide +kernel
theorem d13_39 : decode (mB m13) 39 = .ok (.aload_n 0, 1) := by decide +kernel
theorem d13_40 : decode (mB m13) 40 = .ok (.getfield 147, 3) := by decide +kernel
theorem d13_43 : decode (mB m13) 43 = .ok (.iconst 1, 1) := by decide +kernel
theorem d13_44 : decode (mB m13) 44 = .ok (.iadd, 1) := by decide +kernel
theorem d13_45 : decode (mB m13) 45 = .ok (.putfield 147, 3) := by decide +kernel
theorem d13_48 : decode (mB m13) 48 = .ok (.return_, 1) := by decide +kernel
theorem d14_0 : decode (mB m14) 0 = .ok (.aload_n 0, 1) := by decide +kernel
theorem d14_1 : decode (mB m14) 1 = .ok (.iload_n 1, 1) := by decide +kernel
theorem d14_2 : decode (mB m14) 2 = .ok (.invokevirtual 165, 3) := by decide +kernel
theorem d14_5 : decode (mB m14) 5 = .ok (.ifCond .ne 5, 3) := by decide +kernel
theorem d14_8 : decode (mB m14) 8 = .ok (.iconst 0, 1) := by decide +kernel
theorem d14_9 : decode (mB m14) 9 = .ok (.ireturn, 1) := by decide +kernel
theorem d14_10 : decode (mB m14) 10 = .ok (.aload_n 0, 1) := by decide +kernel
theorem d14_11 : decode (mB m14) 11 = .ok (.getfield 26, 3) := by decide +kernel
theorem d14_14 : decode (mB m14) 14 = .ok (.iload_n 1, 1) := by decide +kernel
theorem d14_15 : decode (mB m14) 15 = .ok (.iaload, 1) := by decide +kernel
theorem d14_16 : decode (mB m14) 16 = .ok (.iconst (-1), 1) := by decide +kernel
theorem d14_17 : decode (mB m14) 17 = .ok (.if_icmp .eq 5, 3) := by decide +kernel
theorem d14_20 : decode (mB m14) 20 = .ok (.iconst 0, 1) := by decide +kernel
theorem d14_21 : decode (mB m14) 21 = .ok (.ireturn, 1) := by decide +kernel
theorem d14_22 : decode (mB m14) 22 = .ok (.aload_n 0, 1) := by decide +kernel
theorem d14_23 : decode (mB m14) 23 = .ok (.getfield 144, 3) := by decide +kernel
theorem d14_26 : decode (mB m14) 26 = .ok (.aload_n 0, 1) := by decide +kernel
theorem d14_27 : decode (mB m14) 27 = .ok (.getfield 58, 3) := by decide +kernel
theorem d14_30 : decode (mB m14) 30 = .ok (.if_icmp .ge 12, 3) := by decide +kernel
theorem d14_33 : decode (mB m14) 33 = .ok (.aload_n 0, 1) := by decide +kernel
theorem d14_34 : decode (mB m14) 34 = .ok (.getfield 144, 3) := by decide +kernel
theorem d14_37 : decode (mB m14) 37 = .ok (.bipush 64, 2) := by decide +kernel
theorem d14_39 : decode (mB m14) 39 = .ok (.if_icmp .lt 5, 3) := by decide +kernel
theorem d14_42 : decode (mB m14) 42 = .ok (.iconst 0, 1) := by decide +kernel
theorem d14_43 : decode (mB m14) 43 = .ok (.ireturn, 1) := by decide +kernel
theorem d14_44 : decode (mB m14) 44 = .ok (.aload_n 0, 1) := by decide +kernel
theorem d14_45 : decode (mB m14) 45 = .ok (.getfield 23, 3) := by decide +kernel
theorem d14_48 : decode (mB m14) 48 = .ok (.aload_n 0, 1) := by decide +kernel
theorem d14_49 : decode (mB m14) 49 = .ok (.getfield 144, 3) := by decide +kernel
theorem d14_52 : decode (mB m14) 52 = .ok (.iload_n 1, 1) := by decide +kernel
theorem d14_53 : decode (mB m14) 53 = .ok (.iastore, 1) := by decide +kernel
theorem d14_54 : decode (mB m14) 54 = .ok (.aload_n 0, 1) := by decide +kernel
theorem d14_55 : decode (mB m14) 55 = .ok (.getfield 26, 3) := by decide +kernel
theorem d14_58 : decode (mB m14) 58 = .ok (.iload_n 1, 1) := by decide +kernel
theorem d14_59 : decode (mB m14) 59 = .ok (.aload_n 0, 1) := by decide +kernel
theorem d14_60 : decode (mB m14) 60 = .ok (.getfield 144, 3) := by decide +kernel
theorem d14_63 : decode (mB m14) 63 = .ok (.iastore, 1) := by decide +kernel
theorem d14_64 : decode (mB m14) 64 = .ok (.aload_n 0, 1) := by decide +kernel
theorem d14_65 : decode (mB m14) 65 = .ok (.aload_n 0, 1) := by decide +kernel
theorem d14_66 : decode (mB m14) 66 = .ok (.getfield 144, 3) := by decide +kernel
theorem d14_69 : decode (mB m14) 69 = .ok (.iconst 1, 1) := by decide +kernel
theorem d14_70 : decode (mB m14) 70 = .ok (.iadd, 1) := by decide +kernel
theorem d14_71 : decode (mB m14) 71 = .ok (.putfield 144, 3) := by decide +kernel
theorem d14_74 : decode (mB m14) 74 = .ok (.iconst 1, 1) := by decide +kernel
theorem d14_75 : decode (mB m14) 75 = .ok (.ireturn, 1) := by decide +kernel
theorem d15_0 : decode (mB m15) 0 = .ok (.aload_n 0, 1) := by decide +kernel
theorem d15_1 : decode (mB m15) 1 = .ok (.getfield 125, 3) := by decide +kernel
theorem d15_4 : decode (mB m15) 4 = .ok (.aload_n 0, 1) := by decide +kernel
theorem d15_5 : decode (mB m15) 5 = .ok (.getfield 55, 3) := by decide +kernel
theorem d15_8 : decode (mB m15) 8 = .ok (.if_icmp .ge 12, 3) := by decide +kernel
theorem d15_11 : decode (mB m15) 11 = .ok (.aload_n 0, 1) := by decide +kernel
theorem d15_12 : decode (mB m15) 12 = .ok (.getfield 125, 3) := by decide +kernel
theorem d15_15 : decode (mB m15) 15 = .ok (.bipush 16, 2) := by decide +kernel
theorem d15_17 : decode (mB m15) 17 = .ok (.if_icmp .lt 4, 3) := by decide +kernel
theorem d15_20 : decode (mB m15) 20 = .ok (.return_, 1) := by decide +kernel
theorem d15_21 : decode (mB m15) 21 = .ok (.aload_n 0, 1) := by decide +kernel
theorem d15_22 : decode (mB m15) 22 = .ok (.getfield 20, 3) := by decide +kernel
theorem d15_25 : decode (mB m15) 25 = .ok (.aload_n 0, 1) := by decide +kernel
theorem d15_26 : decode (mB m15) 26 = .ok (.getfield 125, 3) := by decide +kernel
theorem d15_29 : decode (mB m15) 29 = .ok (.iload_n 1, 1) := by decide +kernel
theorem d15_30 : decode (mB m15) 30 = .ok (.iastore, 1) := by decide +kernel
theorem d15_31 : decode (mB m15) 31 = .ok (.aload_n 0, 1) := by decide +kernel
theorem d15_32 : decode (mB m15) 32 = .ok (.aload_n 0, 1) := by decide +kernel
theorem d15_33 : decode (mB m15) 33 = .ok (.getfield 125, 3) := by decide +kernel
theorem d15_36 : decode (mB m15) 36 = .ok (.iconst 1, 1) := by decide +kernel
theorem d15_37 : decode (mB m15) 37 = .ok (.iadd, 1) := by decide +kernel
theorem d15_38 : decode (mB m15) 38 = .ok (.putfield 125, 3) := by decide +kernel
theorem d15_41 : decode (mB m15) 41 = .ok (.return_, 1) := by decide +kernel
theorem d16_0 : decode (mB m16) 0 = .ok (.aload_n 0, 1) := by decide +kernel
theorem d16_1 : decode (mB m16) 1 = .ok (.iload_n 1, 1) := by decide +kernel
theorem d16_2 : decode (mB m16) 2 = .ok (.invokevirtual 159, 3) := by decide +kernel
theorem d16_5 : decode (mB m16) 5 = .ok (.aload_n 0, 1) := by decide +kernel
theorem d16_6 : decode (mB m16) 6 = .ok (.iload_n 1, 1) := by decide +kernel
theorem d16_7 : decode (mB m16) 7 = .ok (.invokevirtual 162, 3) := by decide +kernel
theorem d16_10 : decode (mB m16) 10 = .ok (.pop, 1) := by decide +kernel
theorem d16_11 : decode (mB m16) 11 = .ok (.aload_n 0, 1) := by decide +kernel
theorem d16_12 : decode (mB m16) 12 = .ok (.iload_n 1, 1) := by decide +kernel
theorem d16_13 : decode (mB m16) 13 = .ok (.invokevirtual 101, 3) := by decide +kernel
theorem d16_16 : decode (mB m16) 16 = .ok (.return_, 1) := by decide +kernel
theorem d17_0 : decode (mB m17) 0 = .ok (.aload_n 0, 1) := by decide +kernel
theorem d17_1 : decode (mB m17) 1 = .ok (.invokevirtual 76, 3) := by decide +kernel
theorem d17_4 : decode (mB m17) 4 = .ok (.ifCond .eq 6, 3) := by decide +kernel
theorem d17_7 : decode (mB m17) 7 = .ok (.bipush (-2), 2) := by decide +kernel
theorem d17_9 : decode (mB m17) 9 = .ok (.ireturn, 1) := by decide +kernel
theorem d17_10 : decode (mB m17) 10 = .ok (.aload_n 0, 1) := by decide +kernel
theorem d17_11 : decode (mB m17) 11 = .ok (.invokevirtual 80, 3) := by decide +kernel
theorem d17_14 : decode (mB m17) 14 = .ok (.ifCond .eq 8, 3) := by decide +kernel
theorem d17_17 : decode (mB m17) 17 = .ok (.aload_n 0, 1) := by decide +kernel
theorem d17_22 : decode (mB m17) 22 = .ok (.aload_n 0, 1) := by decide +kernel
theorem d17_23 : decode (mB m17) 23 = .ok (.invokevirtual 87, 3) := by decide +kernel
theorem d17_26 : decode (mB m17) 26 = .ok (.istore_n 1, 1) := by decide +kernel
theorem d17_27 : decode (mB m17) 27 = .ok (.iload_n 1, 1) := by decide +kernel
theorem d17_28 : decode (mB m17) 28 = .ok (.iconst (-1), 1) := by decide +kernel
theorem d17_29 : decode (mB m17) 29 = .ok (.if_icmp .ne 6, 3) := by decide +kernel
theorem d17_32 : decode (mB m17) 32 = .ok (.bipush (-4), 2) := by decide +kernel
theorem d17_34 : decode (mB m17) 34 = .ok (.ireturn, 1) := by decide +kernel
theorem d17_35 : decode (mB m17) 35 = .ok (.aload_n 0, 1) := by decide +kernel
theorem d17_36 : decode (mB m17) 36 = .ok (.iload_n 1, 1) := by decide +kernel
theorem d17_37 : decode (mB m17) 37 = .ok (.invokevirtual 90, 3) := by decide +kernel
theorem d17_40 : decode (mB m17) 40 = .ok (.iload_n 1, 1) := by decide +kernel
theorem d17_41 : decode (mB m17) 41 = .ok (.ireturn, 1) := by decide +kernel
theorem d18_0 : decode (mB m18) 0 = .ok (.aload_n 0, 1) := by decide +kernel
theorem d18_1 : decode (mB m18) 1 = .ok (.iload_n 1, 1) := by decide +kernel
theorem d18_2 : decode (mB m18) 2 = .ok (.invokevirtual 165, 3) := by decide +kernel
theorem d18_5 : decode (mB m18) 5 = .ok (.ifCond .eq 16, 3) := by decide +kernel
theorem d18_8 : decode (mB m18) 8 = .ok (.aload_n 0, 1) := by decide +kernel
theorem d18_9 : decode (mB m18) 9 = .ok (.getfield 7, 3) := by decide +kernel
theorem d18_12 : decode (mB m18) 12 = .ok (.iload_n 1, 1) := by decide +kernel
theorem d18_13 : decode (mB m18) 13 = .ok (.baload, 1) := by decide +kernel
theorem d18_14 : decode (mB m18) 14 = .ok (.ifCond .eq 7, 3) := by decide +kernel
theorem d18_17 : decode (mB m18) 17 = .ok (.iconst 1, 1) := by decide +kernel
theorem d18_18 : decode (mB m18) 18 = .ok (.goto 4, 3) := by decide +kernel
theorem d18_21 : decode (mB m18) 21 = .ok (.iconst 0, 1) := by decide +kernel
theorem d18_22 : decode (mB m18) 22 = .ok (.ireturn, 1) := by decide +kernel
theorem d19_0 : decode (mB m19) 0 = .ok (.iload_n 1, 1) := by decide +kernel
theorem d19_1 : decode (mB m19) 1 = .ok (.ifCond .lt 15, 3) := by decide +kernel
theorem d19_4 : decode (mB m19) 4 = .ok (.iload_n 1, 1) := by decide +kernel
theorem d19_5 : decode (mB m19) 5 = .ok (.aload_n 0, 1) := by decide +kernel
theorem d19_6 : decode (mB m19) 6 = .ok (.getfield 52, 3) := by decide +kernel
theorem d19_9 : decode (mB m19) 9 = .ok (.if_icmp .ge 7, 3) := by decide +kernel
theorem d19_12 : decode (mB m19) 12 = .ok (.iconst 1, 1) := by decide +kernel
theorem d19_13 : decode (mB m19) 13 = .ok (.goto 4, 3) := by decide +kernel
theorem d19_16 : decode (mB m19) 16 = .ok (.iconst 0, 1) := by decide +kernel
theorem d19_17 : decode (mB m19) 17 = .ok (.ireturn, 1) := by decide +kernel
theorem d20_0 : decode (mB m20) 0 = .ok (.aload_n 0, 1) := by decide +kernel
theorem d20_1 : decode (mB m20) 1 = .ok (.iload_n 1, 1) := by decide +kernel
theorem d20_2 : decode (mB m20) 2 = .ok (.invokevirtual 165, 3) := by decide +kernel
theorem d20_5 : decode (mB m20) 5 = .ok (.ifCond .ne 5, 3) := by decide +kernel
theorem d20_8 : decode (mB m20) 8 = .ok (.iconst (-1), 1) := by decide +kernel
theorem d20_9 : decode (mB m20) 9 = .ok (.ireturn, 1) := by decide +kernel
theorem d20_10 : decode (mB m20) 10 = .ok (.aload_n 0, 1) := by decide +kernel
theorem d20_11 : decode (mB m20) 11 = .ok (.iload_n 2, 1) := by decide +kernel
theorem d20_12 : decode (mB m20) 12 = .ok (.invokevirtual 138, 3) := by decide +kernel
theorem d20_15 : decode (mB m20) 15 = .ok (.ifCond .ne 5, 3) := by decide +kernel
theorem d20_18 : decode (mB m20) 18 = .ok (.iconst (-1), 1) := by decide +kernel
theorem d20_19 : decode (mB m20) 19 = .ok (.ireturn, 1) := by decide +kernel
theorem d20_20 : decode (mB m20) 20 = .ok (.aload_n 0, 1) := by decide +kernel
theorem d20_21 : decode (mB m20) 21 = .ok (.getfield 13, 3) := by decide +kernel
theorem d20_24 : decode (mB m20) 24 = .ok (.iload_n 1, 1) := by decide +kernel
theorem d20_25 : decode (mB m20) 25 = .ok (.iconst 4, 1) := by decide +kernel
theorem d20_26 : decode (mB m20) 26 = .ok (.imul, 1) := by decide +kernel
theorem d20_27 : decode (mB m20) 27 = .ok (.iload_n 2, 1) := by decide +kernel
theorem d20_28 : decode (mB m20) 28 = .ok (.iadd, 1) := by decide +kernel
theorem d20_29 : decode (mB m20) 29 = .ok (.iaload, 1) := by decide +kernel
theorem d20_30 : decode (mB m20) 30 = .ok (.ireturn, 1) := by decide +kernel
theorem d21_0 : decode (mB m21) 0 = .ok (.aload_n 0, 1) := by decide +kernel
theorem d21_1 : decode (mB m21) 1 = .ok (.iload_n 1, 1) := by decide +kernel
theorem d21_2 : decode (mB m21) 2 = .ok (.invokevirtual 135, 3) := by decide +kernel
theorem d21_5 : decode (mB m21) 5 = .ok (.ifCond .ne 6, 3) := by decide +kernel
theorem d21_8 : decode (mB m21) 8 = .ok (.bipush (-8), 2) := by decide +kernel
theorem d21_10 : decode (mB m21) 10 = .ok (.ireturn, 1) := by decide +kernel
theorem d21_11 : decode (mB m21) 11 = .ok (.aload_n 0, 1) := by decide +kernel
theorem d21_12 : decode (mB m21) 12 = .ok (.iload_n 2, 1) := by decide +kernel
theorem d21_13 : decode (mB m21) 13 = .ok (.invokevirtual 138, 3) := by decide +kernel
theorem d21_16 : decode (mB m21) 16 = .ok (.ifCond .ne 6, 3) := by decide +kernel
theorem d21_19 : decode (mB m21) 19 = .ok (.bipush (-6), 2) := by decide +kernel
theorem d21_21 : decode (mB m21) 21 = .ok (.ireturn, 1) := by decide +kernel
theorem d21_22 : decode (mB m21) 22 = .ok (.aload_n 0, 1) := by decide +kernel
theorem d21_23 : decode (mB m21) 23 = .ok (.iload_n 1, 1) := by decide +kernel
theorem d21_24 : decode (mB m21) 24 = .ok (.iload_n 2, 1) := by decide +kernel
theorem d21_25 : decode (mB m21) 25 = .ok (.invokevirtual 98, 3) := by decide +kernel
theorem d21_28 : decode (mB m21) 28 = .ok (.ireturn, 1) := by decide +kernel
theorem d22_0 : decode (mB m22) 0 = .ok (.iload_n 1, 1) := by decide +kernel
theorem d22_1 : decode (mB m22) 1 = .ok (.ifCond .lt 15, 3) := by decide +kernel
theorem d22_4 : decode (mB m22) 4 = .ok (.iload_n 1, 1) := by decide +kernel
theorem d22_5 : decode (mB m22) 5 = .ok (.aload_n 0, 1) := by decide +kernel
theorem d22_6 : decode (mB m22) 6 = .ok (.getfield 125, 3) := by decide +kernel
theorem d22_9 : decode (mB m22) 9 = .ok (.if_icmp .ge 7, 3) := by decide +kernel
theorem d22_12 : decode (mB m22) 12 = .ok (.iconst 1, 1) := by decide +kernel
theorem d22_13 : decode (mB m22) 13 = .ok (.goto 4, 3) := by decide +kernel
theorem d22_16 : decode (mB m22) 16 = .ok (.iconst 0, 1) := by decide +kernel
theorem d22_17 : decode (mB m22) 17 = .ok (.ireturn, 1) := by decide +kernel
theorem d23_0 : decode (mB m23) 0 = .ok (.aload_n 0, 1) := by decide +kernel
theorem d23_1 : decode (mB m23) 1 = .ok (.iload_n 1, 1) := by decide +kernel
theorem d23_2 : decode (mB m23) 2 = .ok (.invokevirtual 131, 3) := by decide +kernel
theorem d23_5 : decode (mB m23) 5 = .ok (.ifCond .ne 6, 3) := by decide +kernel
theorem d23_8 : decode (mB m23) 8 = .ok (.bipush (-5), 2) := by decide +kernel
theorem d23_10 : decode (mB m23) 10 = .ok (.ireturn, 1) := by decide +kernel
theorem d23_11 : decode (mB m23) 11 = .ok (.aload_n 0, 1) := by decide +kernel
theorem d23_12 : decode (mB m23) 12 = .ok (.getfield 20, 3) := by decide +kernel
theorem d23_15 : decode (mB m23) 15 = .ok (.iload_n 1, 1) := by decide +kernel
theorem d23_16 : decode (mB m23) 16 = .ok (.iaload, 1) := by decide +kernel
theorem d23_17 : decode (mB m23) 17 = .ok (.ireturn, 1) := by decide +kernel
theorem d24_0 : decode (mB m24) 0 = .ok (.aload_n 0, 1) := by decide +kernel
theorem d24_1 : decode (mB m24) 1 = .ok (.getfield 73, 3) := by decide +kernel
theorem d24_4 : decode (mB m24) 4 = .ok (.ireturn, 1) := by decide +kernel
theorem d25_0 : decode (mB m25) 0 = .ok (.aload_n 0, 1) := by decide +kernel
theorem d25_1 : decode (mB m25) 1 = .ok (.getfield 144, 3) := by decide +kernel
theorem d25_4 : decode (mB m25) 4 = .ok (.ireturn, 1) := by decide +kernel
theorem d26_0 : decode (mB m26) 0 = .ok (.aload_n 0, 1) := by decide +kernel
theorem d26_1 : decode (mB m26) 1 = .ok (.getfield 147, 3) := by decide +kernel
theorem d26_4 : decode (mB m26) 4 = .ok (.ireturn, 1) := by decide +kernel
theorem d27_0 : decode (mB m27) 0 = .ok (.new 7, 3) := by decide +kernel
theorem d27_3 : decode (mB m27) 3 = .ok (.dup, 1) := by decide +kernel
theorem d27_4 : decode (mB m27) 4 = .ok (.iload_n 0, 1) := by decide +kernel
theorem d27_5 : decode (mB m27) 5 = .ok (.iload_n 1, 1) := by decide +kernel
theorem d27_6 : decode (mB m27) 6 = .ok (.iload_n 2, 1) := by decide +kernel
theorem d27_7 : decode (mB m27) 7 = .ok (.iload_n 3, 1) := by decide +kernel
theorem d27_8 : decode (mB m27) 8 = .ok (.invokespecial 9, 3) := by decide +kernel
theorem d27_11 : decode (mB m27) 11 = .ok (.astore 5, 2) := by decide +kernel
theorem d27_13 : decode (mB m27) 13 = .ok (.iload_n 1, 1) := by decide +kernel
theorem d27_14 : decode (mB m27) 14 = .ok (.iconst 1, 1) := by decide +kernel
theorem d27_15 : decode (mB m27) 15 = .ok (.if_icmp .ge 7, 3) := by decide +kernel
theorem d27_18 : decode (mB m27) 18 = .ok (.iconst 1, 1) := by decide +kernel
theorem d27_19 : decode (mB m27) 19 = .ok (.goto 13, 3) := by decide +kernel
theorem d27_22 : decode (mB m27) 22 = .ok (.iload_n 1, 1) := by decide +kernel
theorem d27_23 : decode (mB m27) 23 = .ok (.iconst 4, 1) := by decide +kernel
theorem d27_24 : decode (mB m27) 24 = .ok (.if_icmp .le 7, 3) := by decide +kernel
theorem d27_27 : decode (mB m27) 27 = .ok (.iconst 4, 1) := by decide +kernel
theorem d27_28 : decode (mB m27) 28 = .ok (.goto 4, 3) := by decide +kernel
theorem d27_31 : decode (mB m27) 31 = .ok (.iload_n 1, 1) := by decide +kernel
theorem d27_32 : decode (mB m27) 32 = .ok (.istore 6, 2) := by decide +kernel
theorem d27_34 : decode (mB m27) 34 = .ok (.aload 5, 2) := by decide +kernel
theorem d27_36 : decode (mB m27) 36 = .ok (.invokevirtual 12, 3) := by decide +kernel
theorem d27_39 : decode (mB m27) 39 = .ok (.istore 7, 2) := by decide +kernel
theorem d27_41 : decode (mB m27) 41 = .ok (.aload 5, 2) := by decide +kernel
theorem d27_43 : decode (mB m27) 43 = .ok (.iconst 0, 1) := by decide +kernel
theorem d27_44 : decode (mB m27) 44 = .ok (.iload 4, 2) := by decide +kernel
theorem d27_46 : decode (mB m27) 46 = .ok (.invokevirtual 16, 3) := by decide +kernel
theorem d27_49 : decode (mB m27) 49 = .ok (.istore 8, 2) := by decide +kernel
theorem d27_51 : decode (mB m27) 51 = .ok (.aload 5, 2) := by decide +kernel
theorem d27_53 : decode (mB m27) 53 = .ok (.iload 4, 2) := by decide +kernel
theorem d27_55 : decode (mB m27) 55 = .ok (.invokevirtual 20, 3) := by decide +kernel
theorem d27_58 : decode (mB m27) 58 = .ok (.istore 9, 2) := by decide +kernel
theorem d27_60 : decode (mB m27) 60 = .ok (.iload 4, 2) := by decide +kernel
theorem d27_62 : decode (mB m27) 62 = .ok (.ifCond .lt 14, 3) := by decide +kernel
theorem d27_65 : decode (mB m27) 65 = .ok (.iload 4, 2) := by decide +kernel
theorem d27_67 : decode (mB m27) 67 = .ok (.iload 6, 2) := by decide +kernel
theorem d27_69 : decode (mB m27) 69 = .ok (.if_icmp .ge 7, 3) := by decide +kernel
theorem d27_72 : decode (mB m27) 72 = .ok (.iconst (-1), 1) := by decide +kernel
theorem d27_73 : decode (mB m27) 73 = .ok (.goto 5, 3) := by decide +kernel
theorem d27_76 : decode (mB m27) 76 = .ok (.bipush (-6), 2) := by decide +kernel
theorem d27_78 : decode (mB m27) 78 = .ok (.istore 10, 2) := by decide +kernel
theorem d27_80 : decode (mB m27) 80 = .ok (.iload 4, 2) := by decide +kernel
theorem d27_82 : decode (mB m27) 82 = .ok (.ifCond .ne 7, 3) := by decide +kernel
theorem d27_85 : decode (mB m27) 85 = .ok (.iconst 0, 1) := by decide +kernel
theorem d27_86 : decode (mB m27) 86 = .ok (.goto 5, 3) := by decide +kernel
theorem d27_89 : decode (mB m27) 89 = .ok (.bipush (-5), 2) := by decide +kernel
theorem d27_91 : decode (mB m27) 91 = .ok (.istore 11, 2) := by decide +kernel
theorem d27_93 : decode (mB m27) 93 = .ok (.aload 5, 2) := by decide +kernel
theorem d27_95 : decode (mB m27) 95 = .ok (.invokevirtual 24, 3) := by decide +kernel
theorem d27_98 : decode (mB m27) 98 = .ok (.istore 12, 2) := by decide +kernel
theorem d27_100 : decode (mB m27) 100 = .ok (.aload 5, 2) := by decide +kernel
theorem d27_102 : decode (mB m27) 102 = .ok (.invokevirtual 27, 3) := by decide +kernel
theorem d27_105 : decode (mB m27) 105 = .ok (.istore 13, 2) := by decide +kernel
theorem d27_107 : decode (mB m27) 107 = .ok (.aload 5, 2) := by decide +kernel
theorem d27_109 : decode (mB m27) 109 = .ok (.invokevirtual 30, 3) := by decide +kernel
theorem d27_112 : decode (mB m27) 112 = .ok (.istore 14, 2) := by decide +kernel
theorem d27_114 : decode (mB m27) 114 = .ok (.iload 7, 2) := by decide +kernel
theorem d27_116 : decode (mB m27) 116 = .ok (.ifCond .ne 38, 3) := by decide +kernel
theorem d27_119 : decode (mB m27) 119 = .ok (.iload 8, 2) := by decide +kernel
theorem d27_121 : decode (mB m27) 121 = .ok (.iload 10, 2) := by decide +kernel
theorem d27_123 : decode (mB m27) 123 = .ok (.if_icmp .ne 31, 3) := by decide +kernel
theorem d27_126 : decode (mB m27) 126 = .ok (.iload 9, 2) := by decide +kernel
theorem d27_128 : decode (mB m27) 128 = .ok (.iload 11, 2) := by decide +kernel
theorem d27_130 : decode (mB m27) 130 = .ok (.if_icmp .ne 24, 3) := by decide +kernel
theorem d27_133 : decode (mB m27) 133 = .ok (.iload 12, 2) := by decide +kernel
theorem d27_135 : decode (mB m27) 135 = .ok (.ifCond .ne 19, 3) := by decide +kernel
theorem d27_138 : decode (mB m27) 138 = .ok (.iload 13, 2) := by decide +kernel
theorem d27_140 : decode (mB m27) 140 = .ok (.iconst 1, 1) := by decide +kernel
theorem d27_141 : decode (mB m27) 141 = .ok (.if_icmp .ne 13, 3) := by decide +kernel
theorem d27_144 : decode (mB m27) 144 = .ok (.iload 14, 2) := by decide +kernel
theorem d27_146 : decode (mB m27) 146 = .ok (.iconst 1, 1) := by decide +kernel
theorem d27_147 : decode (mB m27) 147 = .ok (.if_icmp .ne 7, 3) := by decide +kernel
theorem d27_150 : decode (mB m27) 150 = .ok (.iconst 1, 1) := by decide +kernel
theorem d27_151 : decode (mB m27) 151 = .ok (.goto 4, 3) := by decide +kernel
theorem d27_154 : decode (mB m27) 154 = .ok (.iconst 0, 1) := by decide +kernel
theorem d27_155 : decode (mB m27) 155 = .ok (.ireturn, 1) := by decide +kernel
theorem cb_m8 : (-8 : Int32) = (Int8.ofInt (-8)).toInt32 := by decide
theorem cb_m6 : (-6 : Int32) = (Int8.ofInt (-6)).toInt32 := by decide
theorem cb_m5 : (-5 : Int32) = (Int8.ofInt (-5)).toInt32 := by decide
theorem cb_m4 : (-4 : Int32) = (Int8.ofInt (-4)).toInt32 := by decide
theorem cb_m2 : (-2 : Int32) = (Int8.ofInt (-2)).toInt32 := by decide
theorem cb_16 : (16 : Int32) = (Int8.ofInt (16)).toInt32 := by decide
theorem cb_64 : (64 : Int32) = (Int8.ofInt (64)).toInt32 := by decide
theorem ci_m1 : (-1 : Int32) = Int32.ofInt (-1) := by decide
theorem ci_0 : (0 : Int32) = Int32.ofInt (0) := by decide
theorem ci_1 : (1 : Int32) = Int32.ofInt (1) := by decide
theorem ci_4 : (4 : Int32) = Int32.ofInt (4) := by decide
theorem cs_256 : (256 : Int32) = (Int16.ofInt (256)).toInt32 := by decide
theorem j_1_9 : 0 ≤ ((1 : Nat) : Int) + (9) ∧ (((1 : Nat) : Int) + (9)).toNat = 10 := by decide
theorem j_1_15 : 0 ≤ ((1 : Nat) : Int) + (15) ∧ (((1 : Nat) : Int) + (15)).toNat = 16 := by decide
theorem j_2_5 : 0 ≤ ((2 : Nat) : Int) + (5) ∧ (((2 : Nat) : Int) + (5)).toNat = 7 := by decide
theorem j_4_5 : 0 ≤ ((4 : Nat) : Int) + (5) ∧ (((4 : Nat) : Int) + (5)).toNat = 9 := by decide
theorem j_4_6 : 0 ≤ ((4 : Nat) : Int) + (6) ∧ (((4 : Nat) : Int) + (6)).toNat = 10 := by decide
theorem j_5_4 : 0 ≤ ((5 : Nat) : Int) + (4) ∧ (((5 : Nat) : Int) + (4)).toNat = 9 := by decide
theorem j_5_5 : 0 ≤ ((5 : Nat) : Int) + (5) ∧ (((5 : Nat) : Int) + (5)).toNat = 10 := by decide
theorem j_5_6 : 0 ≤ ((5 : Nat) : Int) + (6) ∧ (((5 : Nat) : Int) + (6)).toNat = 11 := by decide
theorem j_5_16 : 0 ≤ ((5 : Nat) : Int) + (16) ∧ (((5 : Nat) : Int) + (16)).toNat = 21 := by decide
theorem j_5_28 : 0 ≤ ((5 : Nat) : Int) + (28) ∧ (((5 : Nat) : Int) + (28)).toNat = 33 := by decide
theorem j_5_44 : 0 ≤ ((5 : Nat) : Int) + (44) ∧ (((5 : Nat) : Int) + (44)).toNat = 49 := by decide
theorem j_7_4 : 0 ≤ ((7 : Nat) : Int) + (4) ∧ (((7 : Nat) : Int) + (4)).toNat = 11 := by decide
theorem j_7_20 : 0 ≤ ((7 : Nat) : Int) + (20) ∧ (((7 : Nat) : Int) + (20)).toNat = 27 := by decide
theorem j_8_7 : 0 ≤ ((8 : Nat) : Int) + (7) ∧ (((8 : Nat) : Int) + (7)).toNat = 15 := by decide
theorem j_8_12 : 0 ≤ ((8 : Nat) : Int) + (12) ∧ (((8 : Nat) : Int) + (12)).toNat = 20 := by decide
theorem j_9_5 : 0 ≤ ((9 : Nat) : Int) + (5) ∧ (((9 : Nat) : Int) + (5)).toNat = 14 := by decide
theorem j_9_7 : 0 ≤ ((9 : Nat) : Int) + (7) ∧ (((9 : Nat) : Int) + (7)).toNat = 16 := by decide
theorem j_12_4 : 0 ≤ ((12 : Nat) : Int) + (4) ∧ (((12 : Nat) : Int) + (4)).toNat = 16 := by decide
theorem j_13_4 : 0 ≤ ((13 : Nat) : Int) + (4) ∧ (((13 : Nat) : Int) + (4)).toNat = 17 := by decide
theorem j_14_7 : 0 ≤ ((14 : Nat) : Int) + (7) ∧ (((14 : Nat) : Int) + (7)).toNat = 21 := by decide
theorem j_14_8 : 0 ≤ ((14 : Nat) : Int) + (8) ∧ (((14 : Nat) : Int) + (8)).toNat = 22 := by decide
theorem j_15_4 : 0 ≤ ((15 : Nat) : Int) + (4) ∧ (((15 : Nat) : Int) + (4)).toNat = 19 := by decide
theorem j_15_5 : 0 ≤ ((15 : Nat) : Int) + (5) ∧ (((15 : Nat) : Int) + (5)).toNat = 20 := by decide
theorem j_15_7 : 0 ≤ ((15 : Nat) : Int) + (7) ∧ (((15 : Nat) : Int) + (7)).toNat = 22 := by decide
theorem j_16_5 : 0 ≤ ((16 : Nat) : Int) + (5) ∧ (((16 : Nat) : Int) + (5)).toNat = 21 := by decide
theorem j_16_6 : 0 ≤ ((16 : Nat) : Int) + (6) ∧ (((16 : Nat) : Int) + (6)).toNat = 22 := by decide
theorem j_17_4 : 0 ≤ ((17 : Nat) : Int) + (4) ∧ (((17 : Nat) : Int) + (4)).toNat = 21 := by decide
theorem j_17_5 : 0 ≤ ((17 : Nat) : Int) + (5) ∧ (((17 : Nat) : Int) + (5)).toNat = 22 := by decide
theorem j_18_m16 : 0 ≤ ((18 : Nat) : Int) + (-16) ∧ (((18 : Nat) : Int) + (-16)).toNat = 2 := by decide
theorem j_18_4 : 0 ≤ ((18 : Nat) : Int) + (4) ∧ (((18 : Nat) : Int) + (4)).toNat = 22 := by decide
theorem j_19_13 : 0 ≤ ((19 : Nat) : Int) + (13) ∧ (((19 : Nat) : Int) + (13)).toNat = 32 := by decide
theorem j_19_18 : 0 ≤ ((19 : Nat) : Int) + (18) ∧ (((19 : Nat) : Int) + (18)).toNat = 37 := by decide
theorem j_24_m22 : 0 ≤ ((24 : Nat) : Int) + (-22) ∧ (((24 : Nat) : Int) + (-22)).toNat = 2 := by decide
theorem j_24_7 : 0 ≤ ((24 : Nat) : Int) + (7) ∧ (((24 : Nat) : Int) + (7)).toNat = 31 := by decide
theorem j_26_16 : 0 ≤ ((26 : Nat) : Int) + (16) ∧ (((26 : Nat) : Int) + (16)).toNat = 42 := by decide
theorem j_28_4 : 0 ≤ ((28 : Nat) : Int) + (4) ∧ (((28 : Nat) : Int) + (4)).toNat = 32 := by decide
theorem j_29_6 : 0 ≤ ((29 : Nat) : Int) + (6) ∧ (((29 : Nat) : Int) + (6)).toNat = 35 := by decide
theorem j_30_m28 : 0 ≤ ((30 : Nat) : Int) + (-28) ∧ (((30 : Nat) : Int) + (-28)).toNat = 2 := by decide
theorem j_30_12 : 0 ≤ ((30 : Nat) : Int) + (12) ∧ (((30 : Nat) : Int) + (12)).toNat = 42 := by decide
theorem j_34_m17 : 0 ≤ ((34 : Nat) : Int) + (-17) ∧ (((34 : Nat) : Int) + (-17)).toNat = 17 := by decide
theorem j_39_m16 : 0 ≤ ((39 : Nat) : Int) + (-16) ∧ (((39 : Nat) : Int) + (-16)).toNat = 23 := by decide
theorem j_39_5 : 0 ≤ ((39 : Nat) : Int) + (5) ∧ (((39 : Nat) : Int) + (5)).toNat = 44 := by decide
theorem j_46_m44 : 0 ≤ ((46 : Nat) : Int) + (-44) ∧ (((46 : Nat) : Int) + (-44)).toNat = 2 := by decide
theorem j_62_14 : 0 ≤ ((62 : Nat) : Int) + (14) ∧ (((62 : Nat) : Int) + (14)).toNat = 76 := by decide
theorem j_69_7 : 0 ≤ ((69 : Nat) : Int) + (7) ∧ (((69 : Nat) : Int) + (7)).toNat = 76 := by decide
theorem j_73_5 : 0 ≤ ((73 : Nat) : Int) + (5) ∧ (((73 : Nat) : Int) + (5)).toNat = 78 := by decide
theorem j_82_7 : 0 ≤ ((82 : Nat) : Int) + (7) ∧ (((82 : Nat) : Int) + (7)).toNat = 89 := by decide
theorem j_86_5 : 0 ≤ ((86 : Nat) : Int) + (5) ∧ (((86 : Nat) : Int) + (5)).toNat = 91 := by decide
theorem j_116_38 : 0 ≤ ((116 : Nat) : Int) + (38) ∧ (((116 : Nat) : Int) + (38)).toNat = 154 := by decide
theorem j_123_31 : 0 ≤ ((123 : Nat) : Int) + (31) ∧ (((123 : Nat) : Int) + (31)).toNat = 154 := by decide
theorem j_130_24 : 0 ≤ ((130 : Nat) : Int) + (24) ∧ (((130 : Nat) : Int) + (24)).toNat = 154 := by decide
theorem j_135_19 : 0 ≤ ((135 : Nat) : Int) + (19) ∧ (((135 : Nat) : Int) + (19)).toNat = 154 := by decide
theorem j_141_13 : 0 ≤ ((141 : Nat) : Int) + (13) ∧ (((141 : Nat) : Int) + (13)).toNat = 154 := by decide
theorem j_147_7 : 0 ≤ ((147 : Nat) : Int) + (7) ∧ (((147 : Nat) : Int) + (7)).toNat = 154 := by decide
theorem j_151_4 : 0 ≤ ((151 : Nat) : Int) + (4) ∧ (((151 : Nat) : Int) + (4)).toNat = 155 := by decide
theorem lk_0_44 : LinkS PP "DeferredCountY" 44 m0 := ⟨List.mem_of_getElem? (i := 33) rfl, List.mem_of_getElem? (i := 34) rfl, List.mem_of_getElem? (i := 2) rfl, List.mem_of_getElem? (i := 35) rfl, by decide⟩
theorem lk_0_61 : LinkP PP "DeferredCountY" 61 m2 := ⟨List.mem_of_getElem? (i := 44) rfl, List.mem_of_getElem? (i := 45) rfl, List.mem_of_getElem? (i := 46) rfl, List.mem_of_getElem? (i := 47) rfl, rfl, rfl⟩
theorem lk_0_64 : LinkP PP "DeferredCountY" 64 m3 := ⟨List.mem_of_getElem? (i := 54) rfl, List.mem_of_getElem? (i := 55) rfl, List.mem_of_getElem? (i := 56) rfl, List.mem_of_getElem? (i := 57) rfl, rfl, rfl⟩
theorem lk_0_67 : LinkP PP "DeferredCountY" 67 m4 := ⟨List.mem_of_getElem? (i := 60) rfl, List.mem_of_getElem? (i := 61) rfl, List.mem_of_getElem? (i := 62) rfl, List.mem_of_getElem? (i := 63) rfl, rfl, rfl⟩
theorem lk_0_70 : LinkP PP "DeferredCountY" 70 m5 := ⟨List.mem_of_getElem? (i := 66) rfl, List.mem_of_getElem? (i := 67) rfl, List.mem_of_getElem? (i := 68) rfl, List.mem_of_getElem? (i := 69) rfl, rfl, rfl⟩
theorem lk_0_76 : LinkP PP "DeferredCountY" 76 m7 := ⟨List.mem_of_getElem? (i := 79) rfl, List.mem_of_getElem? (i := 80) rfl, List.mem_of_getElem? (i := 81) rfl, List.mem_of_getElem? (i := 82) rfl, rfl, rfl⟩
theorem lk_0_80 : LinkP PP "DeferredCountY" 80 m10 := ⟨List.mem_of_getElem? (i := 83) rfl, List.mem_of_getElem? (i := 84) rfl, List.mem_of_getElem? (i := 85) rfl, List.mem_of_getElem? (i := 86) rfl, rfl, rfl⟩
theorem lk_0_87 : LinkP PP "DeferredCountY" 87 m11 := ⟨List.mem_of_getElem? (i := 95) rfl, List.mem_of_getElem? (i := 96) rfl, List.mem_of_getElem? (i := 97) rfl, List.mem_of_getElem? (i := 98) rfl, rfl, rfl⟩
theorem lk_0_90 : LinkP PP "DeferredCountY" 90 m16 := ⟨List.mem_of_getElem? (i := 99) rfl, List.mem_of_getElem? (i := 100) rfl, List.mem_of_getElem? (i := 101) rfl, List.mem_of_getElem? (i := 102) rfl, rfl, rfl⟩
theorem lk_0_98 : LinkP PP "DeferredCountY" 98 m20 := ⟨List.mem_of_getElem? (i := 132) rfl, List.mem_of_getElem? (i := 133) rfl, List.mem_of_getElem? (i := 134) rfl, List.mem_of_getElem? (i := 135) rfl, rfl, rfl⟩
theorem lk_0_101 : LinkP PP "DeferredCountY" 101 m15 := ⟨List.mem_of_getElem? (i := 115) rfl, List.mem_of_getElem? (i := 116) rfl, List.mem_of_getElem? (i := 117) rfl, List.mem_of_getElem? (i := 118) rfl, rfl, rfl⟩
theorem lk_0_131 : LinkP PP "DeferredCountY" 131 m22 := ⟨List.mem_of_getElem? (i := 141) rfl, List.mem_of_getElem? (i := 142) rfl, List.mem_of_getElem? (i := 143) rfl, List.mem_of_getElem? (i := 144) rfl, rfl, rfl⟩
theorem lk_0_135 : LinkP PP "DeferredCountY" 135 m18 := ⟨List.mem_of_getElem? (i := 124) rfl, List.mem_of_getElem? (i := 125) rfl, List.mem_of_getElem? (i := 126) rfl, List.mem_of_getElem? (i := 127) rfl, rfl, rfl⟩
theorem lk_0_138 : LinkP PP "DeferredCountY" 138 m19 := ⟨List.mem_of_getElem? (i := 128) rfl, List.mem_of_getElem? (i := 129) rfl, List.mem_of_getElem? (i := 130) rfl, List.mem_of_getElem? (i := 131) rfl, rfl, rfl⟩
theorem lk_0_153 : LinkP PP "DeferredCountY" 153 m8 := ⟨List.mem_of_getElem? (i := 87) rfl, List.mem_of_getElem? (i := 88) rfl, List.mem_of_getElem? (i := 89) rfl, List.mem_of_getElem? (i := 90) rfl, rfl, rfl⟩
theorem lk_0_156 : LinkP PP "DeferredCountY" 156 m9 := ⟨List.mem_of_getElem? (i := 91) rfl, List.mem_of_getElem? (i := 92) rfl, List.mem_of_getElem? (i := 93) rfl, List.mem_of_getElem? (i := 94) rfl, rfl, rfl⟩
theorem lk_0_159 : LinkP PP "DeferredCountY" 159 m13 := ⟨List.mem_of_getElem? (i := 103) rfl, List.mem_of_getElem? (i := 104) rfl, List.mem_of_getElem? (i := 105) rfl, List.mem_of_getElem? (i := 106) rfl, rfl, rfl⟩
theorem lk_0_162 : LinkP PP "DeferredCountY" 162 m14 := ⟨List.mem_of_getElem? (i := 111) rfl, List.mem_of_getElem? (i := 112) rfl, List.mem_of_getElem? (i := 113) rfl, List.mem_of_getElem? (i := 114) rfl, rfl, rfl⟩
theorem lk_0_165 : LinkP PP "DeferredCountY" 165 m12 := ⟨List.mem_of_getElem? (i := 107) rfl, List.mem_of_getElem? (i := 108) rfl, List.mem_of_getElem? (i := 109) rfl, List.mem_of_getElem? (i := 110) rfl, rfl, rfl⟩
theorem lk_0_219 : LinkP PP "DeferredCountY" 219 m1 := ⟨List.mem_of_getElem? (i := 48) rfl, List.mem_of_getElem? (i := 49) rfl, List.mem_of_getElem? (i := 50) rfl, List.mem_of_getElem? (i := 51) rfl, rfl, rfl⟩
theorem lk_1_9 : LinkI PP "DeferredCountYL1" 9 m6 := ⟨List.mem_of_getElem? (i := 3) rfl, List.mem_of_getElem? (i := 4) rfl, List.mem_of_getElem? (i := 5) rfl, rfl, rfl, rfl, rfl⟩
theorem lk_1_12 : LinkV PP "DeferredCountYL1" 12 m17 := ⟨List.mem_of_getElem? (i := 74) rfl, List.mem_of_getElem? (i := 75) rfl, List.mem_of_getElem? (i := 77) rfl, List.mem_of_getElem? (i := 76) rfl, List.mem_of_getElem? (i := 78) rfl, rfl, rfl⟩
theorem lk_1_16 : LinkV PP "DeferredCountYL1" 16 m21 := ⟨List.mem_of_getElem? (i := 119) rfl, List.mem_of_getElem? (i := 120) rfl, List.mem_of_getElem? (i := 122) rfl, List.mem_of_getElem? (i := 121) rfl, List.mem_of_getElem? (i := 123) rfl, rfl, rfl⟩
theorem lk_1_20 : LinkV PP "DeferredCountYL1" 20 m23 := ⟨List.mem_of_getElem? (i := 136) rfl, List.mem_of_getElem? (i := 137) rfl, List.mem_of_getElem? (i := 139) rfl, List.mem_of_getElem? (i := 138) rfl, List.mem_of_getElem? (i := 140) rfl, rfl, rfl⟩
theorem lk_1_24 : LinkV PP "DeferredCountYL1" 24 m24 := ⟨List.mem_of_getElem? (i := 145) rfl, List.mem_of_getElem? (i := 146) rfl, List.mem_of_getElem? (i := 148) rfl, List.mem_of_getElem? (i := 147) rfl, List.mem_of_getElem? (i := 149) rfl, rfl, rfl⟩
theorem lk_1_27 : LinkV PP "DeferredCountYL1" 27 m25 := ⟨List.mem_of_getElem? (i := 150) rfl, List.mem_of_getElem? (i := 151) rfl, List.mem_of_getElem? (i := 153) rfl, List.mem_of_getElem? (i := 152) rfl, List.mem_of_getElem? (i := 154) rfl, rfl, rfl⟩
theorem lk_1_30 : LinkV PP "DeferredCountYL1" 30 m26 := ⟨List.mem_of_getElem? (i := 155) rfl, List.mem_of_getElem? (i := 156) rfl, List.mem_of_getElem? (i := 158) rfl, List.mem_of_getElem? (i := 157) rfl, List.mem_of_getElem? (i := 159) rfl, rfl, rfl⟩
theorem facts1 {Z : State} {a0 : Array Value} (hw : ∀ d ∈ tables_1, d.before a0 Z = true) : Facts Z a0 ci1 := by
  refine ⟨hw _ (List.mem_of_getElem? (i := 1) rfl), hw _ (List.mem_of_getElem? (i := 2) rfl), ?_, ?_, by decide, ?_, by decide⟩
  · intro f x hx
    match f, hx with
    | 0, hx => cases hx; exact ⟨Or.inl (hw _ (List.mem_of_getElem? (i := 37) rfl)), by decide⟩
    | 1, hx => cases hx; exact ⟨Or.inl (hw _ (List.mem_of_getElem? (i := 39) rfl)), by decide⟩
    | 2, hx => cases hx; exact ⟨Or.inl (hw _ (List.mem_of_getElem? (i := 41) rfl)), by decide⟩
    | 3, hx => cases hx; exact ⟨Or.inl (hw _ (List.mem_of_getElem? (i := 43) rfl)), by decide⟩
    | 4, hx => cases hx; exact ⟨Or.inl (hw _ (List.mem_of_getElem? (i := 53) rfl)), by decide⟩
    | 5, hx => cases hx; exact ⟨Or.inl (hw _ (List.mem_of_getElem? (i := 59) rfl)), by decide⟩
    | 6, hx => cases hx; exact ⟨Or.inl (hw _ (List.mem_of_getElem? (i := 65) rfl)), by decide⟩
    | 7, hx => cases hx; exact ⟨Or.inl (hw _ (List.mem_of_getElem? (i := 71) rfl)), by decide⟩
    | 8, hx => cases hx; exact ⟨Or.inl (hw _ (List.mem_of_getElem? (i := 73) rfl)), by decide⟩
    | n + 9, hx => simp [cS, ci1] at hx
  · intro q x hx
    match q, hx with
    | 0, hx => cases hx; exact ⟨Or.inl (hw _ (List.mem_of_getElem? (i := 11) rfl)), by decide⟩
    | 1, hx => cases hx; exact ⟨Or.inl (hw _ (List.mem_of_getElem? (i := 14) rfl)), by decide⟩
    | 2, hx => cases hx; exact ⟨Or.inl (hw _ (List.mem_of_getElem? (i := 16) rfl)), by decide⟩
    | 3, hx => cases hx; exact ⟨Or.inl (hw _ (List.mem_of_getElem? (i := 18) rfl)), by decide⟩
    | 4, hx => cases hx; exact ⟨Or.inl (hw _ (List.mem_of_getElem? (i := 20) rfl)), by decide⟩
    | 5, hx => cases hx; exact ⟨Or.inl (hw _ (List.mem_of_getElem? (i := 22) rfl)), by decide⟩
    | 6, hx => cases hx; exact ⟨Or.inl (hw _ (List.mem_of_getElem? (i := 24) rfl)), by decide⟩
    | 7, hx => cases hx; exact ⟨Or.inl (hw _ (List.mem_of_getElem? (i := 26) rfl)), by decide⟩
    | 8, hx => cases hx; exact ⟨Or.inl (hw _ (List.mem_of_getElem? (i := 28) rfl)), by decide⟩
    | 9, hx => cases hx; exact ⟨Or.inl (hw _ (List.mem_of_getElem? (i := 30) rfl)), by decide⟩
    | 10, hx => cases hx; exact ⟨Or.inl (hw _ (List.mem_of_getElem? (i := 32) rfl)), by decide⟩
    | n + 11, hx => simp [cA, ci1] at hx
  · intro f x hx
    match f, hx with
    | 0, hx => cases hx; rfl
    | 1, hx => cases hx; rfl
    | 2, hx => cases hx; rfl
    | 3, hx => cases hx; rfl
    | 4, hx => cases hx; rfl
    | 5, hx => cases hx; rfl
    | 6, hx => cases hx; rfl
    | 7, hx => cases hx; rfl
    | 8, hx => cases hx; rfl
    | n + 9, hx => simp [cS, ci1] at hx
def k_clamp  (v0 : Int32) (v1 : Int32) (v2 : Int32)  : Int32 :=
  if v0 < v1 then
    v1
  else
    if v2 < v0 then
      v2
    else
      v0
def k_clearCellFields_17  : Nat → Int32 → Int32 → S → Option S
  | 0, _, _, _ => none
  | n + 1, v2, v3, s =>
    if v3 < (4 : Int32) then
      (Jvm.AM.st (gA s 1) (v2 + v3) (-1 : Int32)).bind fun a30 =>
      k_clearCellFields_17 n v2 (v3 + (1 : Int32)) (sA s 1 a30)
    else
      some s
def k_clearCellFields  (v1 : Int32) (s : S) : Option S :=
  if v1 < 0 then
    some s
  else
    if v1 < (64 : Int32) then
      k_clearCellFields_17 BIG (v1 * (4 : Int32)) (0 : Int32) s
    else
      some s
def k_resetHeap_33   (s : S) : Option S :=
  some (sI s 4 (0 : Int32))
def k_resetHeap_2  : Nat → Int32 → S → Option S
  | 0, _, _ => none
  | n + 1, v1, s =>
    if v1 < (64 : Int32) then
      (Jvm.AM.st (gA s 0) v1 (0 : Int32)).bind fun a14 =>
      (Jvm.AM.st (gA s 2) v1 (0 : Int32)).bind fun a21 =>
      (k_clearCellFields v1 (sA (sA s 0 a14) 2 a21)).bind fun r24 =>
      k_resetHeap_2 n (v1 + (1 : Int32)) r24
    else
      k_resetHeap_33 s
def k_resetHeap   (s : S) : Option S :=
  k_resetHeap_2 BIG (0 : Int32) s
def k_resetRoots_21   (s : S) : Option S :=
  some (sI s 5 (0 : Int32))
def k_resetRoots_2  : Nat → Int32 → S → Option S
  | 0, _, _ => none
  | n + 1, v1, s =>
    if v1 < (16 : Int32) then
      (Jvm.AM.st (gA s 3) v1 (-1 : Int32)).bind fun a14 =>
      k_resetRoots_2 n (v1 + (1 : Int32)) (sA s 3 a14)
    else
      k_resetRoots_21 s
def k_resetRoots   (s : S) : Option S :=
  k_resetRoots_2 BIG (0 : Int32) s
def k_resetTable_42   (s : S) : Option S :=
  some (sI s 6 (0 : Int32))
def k_resetTable_23  : Nat → Int32 → S → Option S
  | 0, _, _ => none
  | n + 1, v1, s =>
    if v1 < (64 : Int32) then
      (Jvm.AM.st (gA s 5) v1 (-1 : Int32)).bind fun a35 =>
      k_resetTable_23 n (v1 + (1 : Int32)) (sA s 5 a35)
    else
      k_resetTable_42 s
def k_resetTable_21   (s : S) : Option S :=
  k_resetTable_23 BIG (0 : Int32) s
def k_resetTable_2  : Nat → Int32 → S → Option S
  | 0, _, _ => none
  | n + 1, v1, s =>
    if v1 < (64 : Int32) then
      (Jvm.AM.st (gA s 4) v1 (-1 : Int32)).bind fun a14 =>
      k_resetTable_2 n (v1 + (1 : Int32)) (sA s 4 a14)
    else
      k_resetTable_21 s
def k_resetTable   (s : S) : Option S :=
  k_resetTable_2 BIG (0 : Int32) s
def k_resetScratch_49   (s : S) : Option S :=
  some (sI s 7 (0 : Int32))
def k_resetScratch_2  : Nat → Int32 → S → Option S
  | 0, _, _ => none
  | n + 1, v1, s =>
    if v1 < (64 : Int32) then
      (Jvm.AM.st (gA s 6) v1 (0 : Int32)).bind fun a14 =>
      (Jvm.AM.st (gA s 7) v1 (0 : Int32)).bind fun a21 =>
      (Jvm.AM.st (gA s 8) v1 (0 : Int32)).bind fun a28 =>
      (Jvm.AM.st (gA s 9) v1 (0 : Int32)).bind fun a35 =>
      (Jvm.AM.st (gA s 10) v1 (-1 : Int32)).bind fun a42 =>
      k_resetScratch_2 n (v1 + (1 : Int32)) (sA (sA (sA (sA (sA s 6 a14) 7 a21) 8 a28) 9 a35) 10 a42)
    else
      k_resetScratch_49 s
def k_resetScratch   (s : S) : Option S :=
  k_resetScratch_2 BIG (0 : Int32) s
def k_init  (v1 : Int32) (v2 : Int32) (v3 : Int32) (v4 : Int32)  : Option S :=
  (k_resetHeap (sI (sI (sI (sI (sA (sA (sA (sA (sA (sA (sA (sA (sA (sA (sA s0 0 (rep 64 0)) 1 (rep 256 0)) 2 (rep 64 0)) 3 (rep 16 0)) 4 (rep 64 0)) 5 (rep 64 0)) 6 (rep 64 0)) 7 (rep 64 0)) 8 (rep 64 0)) 9 (rep 64 0)) 10 (rep 64 0)) 0 (k_clamp v1 (4 : Int32) (64 : Int32))) 1 (k_clamp v2 (1 : Int32) (4 : Int32))) 2 (k_clamp v3 (1 : Int32) (16 : Int32))) 3 (k_clamp v4 ((k_clamp v3 (1 : Int32) (16 : Int32)) + (1 : Int32)) (64 : Int32)))).bind fun r147 =>
  (k_resetRoots r147).bind fun r151 =>
  (k_resetTable r151).bind fun r155 =>
  (k_resetScratch r155).bind fun r159 =>
  some (sI r159 8 (0 : Int32))
def k_rootsFull   (s : S) : Int32 :=
  if (gI s 5) < (gI s 2) then
    (0 : Int32)
  else
    (1 : Int32)
def k_hasFreeCell   (s : S) : Int32 :=
  if (gI s 4) < (gI s 0) then
    (1 : Int32)
  else
    (0 : Int32)
def k_tableIsFull   (s : S) : Int32 :=
  if (gI s 6) < (gI s 3) then
    (0 : Int32)
  else
    (1 : Int32)
def k_allocNeedsReconcile   (s : S) : Int32 :=
  if (k_hasFreeCell s) = 0 then
    (1 : Int32)
  else
    nar .boolean (k_tableIsFull s)
def k_lowestFreeCell_2  : Nat → Int32 → S → Option Int32
  | 0, _, _ => none
  | n + 1, v1, s =>
    if v1 < (gI s 0) then
      (ix (gA s 0) v1).bind fun a15 =>
      if a15 = 0 then
        some v1
      else
        k_lowestFreeCell_2 n (v1 + (1 : Int32)) s
    else
      some (-1 : Int32)
def k_lowestFreeCell   (s : S) : Option Int32 :=
  k_lowestFreeCell_2 BIG (0 : Int32) s
def k_isObjectId  (v1 : Int32) (s : S) : Int32 :=
  if v1 < 0 then
    (0 : Int32)
  else
    if v1 < (gI s 0) then
      (1 : Int32)
    else
      (0 : Int32)
def k_bringToLife  (v1 : Int32) (s : S) : Option S :=
  if (k_isObjectId v1 s) = 0 then
    some s
  else
    (ix (gA s 0) v1).bind fun a14 =>
    if a14 = 0 then
      (Jvm.AM.st (gA s 0) v1 (1 : Int32)).bind fun a25 =>
      (k_clearCellFields v1 (sA s 0 a25)).bind fun r28 =>
      (Jvm.AM.st (gA r28 2) v1 (0 : Int32)).bind fun a37 =>
      some (sI (sA r28 2 a37) 4 ((gI r28 4) + (1 : Int32)))
    else
      some s
def k_tableInsert  (v1 : Int32) (s : S) : Option (Int32 × S) :=
  if (k_isObjectId v1 s) = 0 then
    some ((0 : Int32), s)
  else
    (ix (gA s 5) v1).bind fun a15 =>
    if a15 = (-1 : Int32) then
      if (gI s 6) < (gI s 3) then
        if (gI s 6) < (64 : Int32) then
          (Jvm.AM.st (gA s 4) (gI s 6) v1).bind fun a53 =>
          (Jvm.AM.st (gA s 5) v1 (gI s 6)).bind fun a63 =>
          some ((1 : Int32), sI (sA (sA s 4 a53) 5 a63) 6 ((gI s 6) + (1 : Int32)))
        else
          some ((0 : Int32), s)
      else
        some ((0 : Int32), s)
    else
      some ((0 : Int32), s)
def k_rootPush  (v1 : Int32) (s : S) : Option S :=
  if (gI s 5) < (gI s 2) then
    if (gI s 5) < (16 : Int32) then
      (Jvm.AM.st (gA s 3) (gI s 5) v1).bind fun a30 =>
      some (sI (sA s 3 a30) 5 ((gI s 5) + (1 : Int32)))
    else
      some s
  else
    some s
def k_placeNewObject  (v1 : Int32) (s : S) : Option S :=
  (k_bringToLife v1 s).bind fun r2 =>
  (k_tableInsert v1 r2).bind fun r7 =>
  (k_rootPush v1 r7.2).bind fun r13 =>
  some r13
def k_alloc   (s : S) : Option (Int32 × S) :=
  if (k_rootsFull s) = 0 then
    if (k_allocNeedsReconcile s) = 0 then
      (k_lowestFreeCell s).bind fun r23 =>
      if r23 = (-1 : Int32) then
        some ((-4 : Int32), s)
      else
        (k_placeNewObject r23 s).bind fun r37 =>
        some (r23, r37)
    else
      none
  else
    some ((-2 : Int32), s)
def k_isLiveId  (v1 : Int32) (s : S) : Option Int32 :=
  if (k_isObjectId v1 s) = 0 then
    some (0 : Int32)
  else
    (ix (gA s 0) v1).bind fun a13 =>
    if a13 = 0 then
      some (0 : Int32)
    else
      some (1 : Int32)
def k_isFieldNo  (v1 : Int32) (s : S) : Int32 :=
  if v1 < 0 then
    (0 : Int32)
  else
    if v1 < (gI s 1) then
      (1 : Int32)
    else
      (0 : Int32)
def k_readField  (v1 : Int32) (v2 : Int32) (s : S) : Option Int32 :=
  if (k_isObjectId v1 s) = 0 then
    some (-1 : Int32)
  else
    if (k_isFieldNo v2 s) = 0 then
      some (-1 : Int32)
    else
      (ix (gA s 1) ((v1 * (4 : Int32)) + v2)).bind fun a29 =>
      some a29
def k_field  (v1 : Int32) (v2 : Int32) (s : S) : Option Int32 :=
  (k_isLiveId v1 s).bind fun r2 =>
  if r2 = 0 then
    some (-8 : Int32)
  else
    if (k_isFieldNo v2 s) = 0 then
      some (-6 : Int32)
    else
      (k_readField v1 v2 s).bind fun r25 =>
      some r25
def k_isRootSlot  (v1 : Int32) (s : S) : Int32 :=
  if v1 < 0 then
    (0 : Int32)
  else
    if v1 < (gI s 5) then
      (1 : Int32)
    else
      (0 : Int32)
def k_root  (v1 : Int32) (s : S) : Option Int32 :=
  if (k_isRootSlot v1 s) = 0 then
    some (-5 : Int32)
  else
    (ix (gA s 3) v1).bind fun a16 =>
    some a16
def k_reconciliations   (s : S) : Int32 :=
  gI s 8
def k_tableSize   (s : S) : Int32 :=
  gI s 6
def k_liveCount   (s : S) : Int32 :=
  gI s 4
def law_91  (v7 : Int32) (v8 : Int32) (v9 : Int32) (v10 : Int32) (p0 : Int32) (t0 : S) : Option (Int32 × S) :=
  if v7 = 0 then
    if v8 = v10 then
      if v9 = p0 then
        if (k_reconciliations t0) = 0 then
          if (k_tableSize t0) = (1 : Int32) then
            if (k_liveCount t0) = (1 : Int32) then
              some ((1 : Int32), t0)
            else
              some ((0 : Int32), t0)
          else
            some ((0 : Int32), t0)
        else
          some ((0 : Int32), t0)
      else
        some ((0 : Int32), t0)
    else
      some ((0 : Int32), t0)
  else
    some ((0 : Int32), t0)
def law_78  (v4 : Int32) (v7 : Int32) (v8 : Int32) (v9 : Int32) (p0 : Int32) (t0 : S) : Option (Int32 × S) :=
  law_91 v7 v8 v9 p0 (if v4 = 0 then (0 : Int32) else (-5 : Int32)) t0
def law_32  (v4 : Int32) (p0 : Int32) (t0 : S) : Option (Int32 × S) :=
  (k_alloc t0).bind fun r36 =>
  (k_field (0 : Int32) v4 r36.2).bind fun r46 =>
  (k_root v4 r36.2).bind fun r55 =>
  law_78 v4 r36.1 r46 r55 (if v4 < 0 then (-6 : Int32) else if v4 < p0 then (-1 : Int32) else (-6 : Int32)) r36.2
def law  (v0 : Int32) (v1 : Int32) (v2 : Int32) (v3 : Int32) (v4 : Int32)  : Option (Int32 × S) :=
  (k_init v0 v1 v2 v3).bind fun r8 =>
  law_32 v4 (if v1 < (1 : Int32) then (1 : Int32) else if (4 : Int32) < v1 then (4 : Int32) else v1) r8
set_option maxRecDepth 65536 in
set_option maxHeartbeats 4000000 in
theorem k_clamp_ok  {w : W} : ∀ (v0 : Int32) (v1 : Int32) (v2 : Int32)   (o : Int32), k_clamp v0 v1 v2 = o → Go PP m0 0 [.val (.int v0), .val (.int v1), .val (.int v2)] [] w (some (.int o), w) := by
  intro v0 v1 v2 o hf
  unfold k_clamp at hf
  refine go_iloadN (pc := 0) d0_0 rfl (go_iloadN (pc := 1) d0_1 rfl ?_)
  by_cases h1 : v0 < v1
  · replace hf := (if_pos h1).symm.trans hf
    refine go_icN (pc := 2) d0_2 (XT.ii_ge_f h1) ?_
    refine go_iloadN (pc := 5) d0_5 rfl ?_
    cases hf
    exact go_iret (pc := 6) rfl d0_6
  · replace hf := (if_neg h1).symm.trans hf
    refine go_icY (pc := 2) (pc' := 7) d0_2 (XT.ii_ge_t h1) j_2_5 ?_
    refine go_iloadN (pc := 7) d0_7 rfl (go_iloadN (pc := 8) d0_8 rfl ?_)
    by_cases h2 : v2 < v0
    · replace hf := (if_pos h2).symm.trans hf
      refine go_icN (pc := 9) d0_9 (XT.ii_le_f h2) ?_
      refine go_iloadN (pc := 12) d0_12 rfl ?_
      cases hf
      exact go_iret (pc := 13) rfl d0_13
    · replace hf := (if_neg h2).symm.trans hf
      refine go_icY (pc := 9) (pc' := 14) d0_9 (XT.ii_le_t h2) j_9_5 ?_
      refine go_iloadN (pc := 14) d0_14 rfl ?_
      cases hf
      exact go_iret (pc := 15) rfl d0_15
theorem c_k_clamp (v0 : Int32) (v1 : Int32) (v2 : Int32) (w : W) : Call PP m0 [.int v0, .int v1, .int v2] w (some (.int (k_clamp v0 v1 v2)), w) := call_of_go pl_0 rfl (fun h => nomatch h) (k_clamp_ok v0 v1 v2   _ rfl)
set_option maxRecDepth 65536 in
set_option maxHeartbeats 4000000 in
theorem k_clearCellFields_17_ok  : ∀ (n : Nat) (v2 : Int32) (v3 : Int32) (s : S) (x1 : Slot) (hx1 : k1 x1) (o : S), k_clearCellFields_17 n v2 v3 s = some o → Go PP m1 17 [.val (.ref 1), x1, .val (.int v2), .val (.int v3)] [] (none, [(11, s)]) (none, (none, [(11, o)])) := by
  intro n
  induction n with
  | zero => intro v2 v3 s x1 hx1 o hf; exact nomatch hf
  | succ n ih =>
    intro v2 v3 s x1 hx1 o hf
    unfold k_clearCellFields_17 at hf
    refine go_iloadN (pc := 17) d1_17 rfl (go_iconst (pc := 18) d1_18 ci_4 ?_)
    by_cases h1 : v3 < (4 : Int32)
    · replace hf := (if_pos h1).symm.trans hf
      refine go_icN (pc := 19) d1_19 (XT.ii_ge_f h1) ?_
      refine go_aloadN (pc := 22) d1_22 rfl (go_getA (pc := 23) fa_13 hm_1 d1_23 rfl (go_iloadN (pc := 26) d1_26 rfl (go_iloadN (pc := 27) d1_27 rfl (go_iadd (pc := 28) d1_28 (go_iconst (pc := 29) d1_29 ci_m1 ?_)))))
      obtain ⟨a30, e2, hf⟩ := Option.bind_eq_some_iff.mp hf
      refine go_iastore (pc := 30) (q := 1) ar_1 rfl hn_1 e2 d1_30 ?_
      refine go_iinc (pc := 31) (L' := [.val (.ref 1), x1, .val (.int v2), .val (.int (v3 + (1 : Int32)))]) d1_31 rfl ci_1 rfl (go_goto (pc := 34) (pc' := 17) d1_34 j_34_m17 ?_)
      exact ih v2 (v3 + (1 : Int32)) (sA s 1 a30) x1 hx1 _ hf
    · replace hf := (if_neg h1).symm.trans hf
      refine go_icY (pc := 19) (pc' := 37) d1_19 (XT.ii_ge_t h1) j_19_18 ?_
      cases hf
      exact go_ret (pc := 37) rfl d1_37
set_option maxRecDepth 65536 in
set_option maxHeartbeats 4000000 in
theorem k_clearCellFields_ok  : ∀ (v1 : Int32) (s : S)  (o : S), k_clearCellFields v1 s = some o → Go PP m1 0 [.val (.ref 1), .val (.int v1), .unset, .unset] [] (none, [(11, s)]) (none, (none, [(11, o)])) := by
  intro v1 s o hf
  unfold k_clearCellFields at hf
  refine go_iloadN (pc := 0) d1_0 rfl ?_
  by_cases h1 : v1 < 0
  · replace hf := (if_pos h1).symm.trans hf
    refine go_ifY (pc := 1) (pc' := 10) d1_1 (XT.i0_lt_t h1) j_1_9 ?_
    cases hf
    exact go_ret (pc := 10) rfl d1_10
  · replace hf := (if_neg h1).symm.trans hf
    refine go_ifN (pc := 1) d1_1 (XT.i0_lt_f h1) ?_
    refine go_iloadN (pc := 4) d1_4 rfl (go_bipush (pc := 5) d1_5 cb_64 ?_)
    by_cases h2 : v1 < (64 : Int32)
    · replace hf := (if_pos h2).symm.trans hf
      refine go_icY (pc := 7) (pc' := 11) d1_7 (XT.ii_lt_t h2) j_7_4 ?_
      refine go_iloadN (pc := 11) d1_11 rfl (go_iconst (pc := 12) d1_12 ci_4 (go_imul (pc := 13) d1_13 (go_istoreN (pc := 14) (L' := [.val (.ref 1), .val (.int v1), .val (.int (v1 * (4 : Int32))), .unset]) d1_14 rfl (go_iconst (pc := 15) d1_15 ci_0 (go_istoreN (pc := 16) (L' := [.val (.ref 1), .val (.int v1), .val (.int (v1 * (4 : Int32))), .val (.int (0 : Int32))]) d1_16 rfl ?_)))))
      exact k_clearCellFields_17_ok BIG (v1 * (4 : Int32)) (0 : Int32) s (.val (.int v1)) (Or.inr ⟨_, rfl, rfl⟩) _ hf
    · replace hf := (if_neg h2).symm.trans hf
      refine go_icN (pc := 7) d1_7 (XT.ii_lt_f h2) ?_
      cases hf
      exact go_ret (pc := 10) rfl d1_10
theorem c_k_clearCellFields (v1 : Int32) (s : S) (o : S) (hf : k_clearCellFields v1 s = some o) : Call PP m1 [.ref 1, .int v1] (none, [(11, s)]) (none, (none, [(11, o)])) := call_of_go pl_0 rfl (fun _ => rfl) (k_clearCellFields_ok v1 s   _ hf)
set_option maxRecDepth 65536 in
set_option maxHeartbeats 4000000 in
theorem k_resetHeap_33_ok  : ∀  (s : S) (x1 : Slot) (hx1 : k1 x1) (o : S), k_resetHeap_33 s = some o → Go PP m2 33 [.val (.ref 1), x1] [] (none, [(11, s)]) (none, (none, [(11, o)])) := by
  intro s x1 hx1 o hf
  unfold k_resetHeap_33 at hf
  refine go_aloadN (pc := 33) d2_33 rfl (go_iconst (pc := 34) d2_34 ci_0 (go_putI (pc := 35) fs_147 hm_2 (wr_4 _) hn_2 d2_35 ?_))
  cases hf
  exact go_ret (pc := 38) rfl d2_38
set_option maxRecDepth 65536 in
set_option maxHeartbeats 4000000 in
theorem k_resetHeap_2_ok  : ∀ (n : Nat) (v1 : Int32) (s : S)  (o : S), k_resetHeap_2 n v1 s = some o → Go PP m2 2 [.val (.ref 1), .val (.int v1)] [] (none, [(11, s)]) (none, (none, [(11, o)])) := by
  intro n
  induction n with
  | zero => intro v1 s o hf; exact nomatch hf
  | succ n ih =>
    intro v1 s o hf
    unfold k_resetHeap_2 at hf
    refine go_iloadN (pc := 2) d2_2 rfl (go_bipush (pc := 3) d2_3 cb_64 ?_)
    by_cases h1 : v1 < (64 : Int32)
    · replace hf := (if_pos h1).symm.trans hf
      refine go_icN (pc := 5) d2_5 (XT.ii_ge_f h1) ?_
      refine go_aloadN (pc := 8) d2_8 rfl (go_getA (pc := 9) fa_7 hm_2 d2_9 rfl (go_iloadN (pc := 12) d2_12 rfl (go_iconst (pc := 13) d2_13 ci_0 ?_)))
      obtain ⟨a14, e2, hf⟩ := Option.bind_eq_some_iff.mp hf
      refine go_bastore (pc := 14) (q := 0) ar_0 (by decide) rfl hn_2 (by decide) e2 d2_14 ?_
      refine go_aloadN (pc := 15) d2_15 rfl (go_getA (pc := 16) fa_17 hm_2 d2_16 rfl (go_iloadN (pc := 19) d2_19 rfl (go_iconst (pc := 20) d2_20 ci_0 ?_)))
      obtain ⟨a21, e3, hf⟩ := Option.bind_eq_some_iff.mp hf
      refine go_iastore (pc := 21) (q := 2) ar_2 rfl hn_2 e3 d2_21 ?_
      refine go_aloadN (pc := 22) d2_22 rfl (go_iloadN (pc := 23) d2_23 rfl ?_)
      obtain ⟨r24, e4, hf⟩ := Option.bind_eq_some_iff.mp hf
      refine go_priv (pc := 24) (i := 0) (as := [.int v1]) (rest := []) (w' := (none, [(11, r24)])) lk_0_219 pd_1 rfl oid_0 rfl rfl rfl rfl rfl rfl ⟨rfl, rfl, rfl, rfl, rfl⟩ d2_24 (c_k_clearCellFields v1 (sA (sA s 0 a14) 2 a21) _ e4) ?_
      refine go_iinc (pc := 27) (L' := [.val (.ref 1), .val (.int (v1 + (1 : Int32)))]) d2_27 rfl ci_1 rfl (go_goto (pc := 30) (pc' := 2) d2_30 j_30_m28 ?_)
      exact ih (v1 + (1 : Int32)) r24 _ hf
    · replace hf := (if_neg h1).symm.trans hf
      refine go_icY (pc := 5) (pc' := 33) d2_5 (XT.ii_ge_t h1) j_5_28 ?_
      exact k_resetHeap_33_ok s (.val (.int v1)) (Or.inr ⟨_, rfl, rfl⟩) _ hf
set_option maxRecDepth 65536 in
set_option maxHeartbeats 4000000 in
theorem k_resetHeap_ok  : ∀  (s : S)  (o : S), k_resetHeap s = some o → Go PP m2 0 [.val (.ref 1), .unset] [] (none, [(11, s)]) (none, (none, [(11, o)])) := by
  intro s o hf
  unfold k_resetHeap at hf
  refine go_iconst (pc := 0) d2_0 ci_0 (go_istoreN (pc := 1) (L' := [.val (.ref 1), .val (.int (0 : Int32))]) d2_1 rfl ?_)
  exact k_resetHeap_2_ok BIG (0 : Int32) s _ hf
theorem c_k_resetHeap (s : S) (o : S) (hf : k_resetHeap s = some o) : Call PP m2 [.ref 1] (none, [(11, s)]) (none, (none, [(11, o)])) := call_of_go pl_0 rfl (fun _ => rfl) (k_resetHeap_ok s   _ hf)
set_option maxRecDepth 65536 in
set_option maxHeartbeats 4000000 in
theorem k_resetRoots_21_ok  : ∀  (s : S) (x1 : Slot) (hx1 : k1 x1) (o : S), k_resetRoots_21 s = some o → Go PP m3 21 [.val (.ref 1), x1] [] (none, [(11, s)]) (none, (none, [(11, o)])) := by
  intro s x1 hx1 o hf
  unfold k_resetRoots_21 at hf
  refine go_aloadN (pc := 21) d3_21 rfl (go_iconst (pc := 22) d3_22 ci_0 (go_putI (pc := 23) fs_125 hm_3 (wr_5 _) hn_3 d3_23 ?_))
  cases hf
  exact go_ret (pc := 26) rfl d3_26
set_option maxRecDepth 65536 in
set_option maxHeartbeats 4000000 in
theorem k_resetRoots_2_ok  : ∀ (n : Nat) (v1 : Int32) (s : S)  (o : S), k_resetRoots_2 n v1 s = some o → Go PP m3 2 [.val (.ref 1), .val (.int v1)] [] (none, [(11, s)]) (none, (none, [(11, o)])) := by
  intro n
  induction n with
  | zero => intro v1 s o hf; exact nomatch hf
  | succ n ih =>
    intro v1 s o hf
    unfold k_resetRoots_2 at hf
    refine go_iloadN (pc := 2) d3_2 rfl (go_bipush (pc := 3) d3_3 cb_16 ?_)
    by_cases h1 : v1 < (16 : Int32)
    · replace hf := (if_pos h1).symm.trans hf
      refine go_icN (pc := 5) d3_5 (XT.ii_ge_f h1) ?_
      refine go_aloadN (pc := 8) d3_8 rfl (go_getA (pc := 9) fa_20 hm_3 d3_9 rfl (go_iloadN (pc := 12) d3_12 rfl (go_iconst (pc := 13) d3_13 ci_m1 ?_)))
      obtain ⟨a14, e2, hf⟩ := Option.bind_eq_some_iff.mp hf
      refine go_iastore (pc := 14) (q := 3) ar_3 rfl hn_3 e2 d3_14 ?_
      refine go_iinc (pc := 15) (L' := [.val (.ref 1), .val (.int (v1 + (1 : Int32)))]) d3_15 rfl ci_1 rfl (go_goto (pc := 18) (pc' := 2) d3_18 j_18_m16 ?_)
      exact ih (v1 + (1 : Int32)) (sA s 3 a14) _ hf
    · replace hf := (if_neg h1).symm.trans hf
      refine go_icY (pc := 5) (pc' := 21) d3_5 (XT.ii_ge_t h1) j_5_16 ?_
      exact k_resetRoots_21_ok s (.val (.int v1)) (Or.inr ⟨_, rfl, rfl⟩) _ hf
set_option maxRecDepth 65536 in
set_option maxHeartbeats 4000000 in
theorem k_resetRoots_ok  : ∀  (s : S)  (o : S), k_resetRoots s = some o → Go PP m3 0 [.val (.ref 1), .unset] [] (none, [(11, s)]) (none, (none, [(11, o)])) := by
  intro s o hf
  unfold k_resetRoots at hf
  refine go_iconst (pc := 0) d3_0 ci_0 (go_istoreN (pc := 1) (L' := [.val (.ref 1), .val (.int (0 : Int32))]) d3_1 rfl ?_)
  exact k_resetRoots_2_ok BIG (0 : Int32) s _ hf
theorem c_k_resetRoots (s : S) (o : S) (hf : k_resetRoots s = some o) : Call PP m3 [.ref 1] (none, [(11, s)]) (none, (none, [(11, o)])) := call_of_go pl_0 rfl (fun _ => rfl) (k_resetRoots_ok s   _ hf)
set_option maxRecDepth 65536 in
set_option maxHeartbeats 4000000 in
theorem k_resetTable_42_ok  : ∀  (s : S) (x1 : Slot) (hx1 : k1 x1) (o : S), k_resetTable_42 s = some o → Go PP m4 42 [.val (.ref 1), x1] [] (none, [(11, s)]) (none, (none, [(11, o)])) := by
  intro s x1 hx1 o hf
  unfold k_resetTable_42 at hf
  refine go_aloadN (pc := 42) d4_42 rfl (go_iconst (pc := 43) d4_43 ci_0 (go_putI (pc := 44) fs_144 hm_4 (wr_6 _) hn_4 d4_44 ?_))
  cases hf
  exact go_ret (pc := 47) rfl d4_47
set_option maxRecDepth 65536 in
set_option maxHeartbeats 4000000 in
theorem k_resetTable_23_ok  : ∀ (n : Nat) (v1 : Int32) (s : S)  (o : S), k_resetTable_23 n v1 s = some o → Go PP m4 23 [.val (.ref 1), .val (.int v1)] [] (none, [(11, s)]) (none, (none, [(11, o)])) := by
  intro n
  induction n with
  | zero => intro v1 s o hf; exact nomatch hf
  | succ n ih =>
    intro v1 s o hf
    unfold k_resetTable_23 at hf
    refine go_iloadN (pc := 23) d4_23 rfl (go_bipush (pc := 24) d4_24 cb_64 ?_)
    by_cases h1 : v1 < (64 : Int32)
    · replace hf := (if_pos h1).symm.trans hf
      refine go_icN (pc := 26) d4_26 (XT.ii_ge_f h1) ?_
      refine go_aloadN (pc := 29) d4_29 rfl (go_getA (pc := 30) fa_26 hm_4 d4_30 rfl (go_iloadN (pc := 33) d4_33 rfl (go_iconst (pc := 34) d4_34 ci_m1 ?_)))
      obtain ⟨a35, e2, hf⟩ := Option.bind_eq_some_iff.mp hf
      refine go_iastore (pc := 35) (q := 5) ar_5 rfl hn_4 e2 d4_35 ?_
      refine go_iinc (pc := 36) (L' := [.val (.ref 1), .val (.int (v1 + (1 : Int32)))]) d4_36 rfl ci_1 rfl (go_goto (pc := 39) (pc' := 23) d4_39 j_39_m16 ?_)
      exact ih (v1 + (1 : Int32)) (sA s 5 a35) _ hf
    · replace hf := (if_neg h1).symm.trans hf
      refine go_icY (pc := 26) (pc' := 42) d4_26 (XT.ii_ge_t h1) j_26_16 ?_
      exact k_resetTable_42_ok s (.val (.int v1)) (Or.inr ⟨_, rfl, rfl⟩) _ hf
set_option maxRecDepth 65536 in
set_option maxHeartbeats 4000000 in
theorem k_resetTable_21_ok  : ∀  (s : S) (x1 : Slot) (hx1 : k1 x1) (o : S), k_resetTable_21 s = some o → Go PP m4 21 [.val (.ref 1), x1] [] (none, [(11, s)]) (none, (none, [(11, o)])) := by
  intro s x1 hx1 o hf
  unfold k_resetTable_21 at hf
  refine go_iconst (pc := 21) d4_21 ci_0 (go_istoreN (pc := 22) (L' := [.val (.ref 1), .val (.int (0 : Int32))]) d4_22 (stx rfl hx1 rfl) ?_)
  exact k_resetTable_23_ok BIG (0 : Int32) s _ hf
set_option maxRecDepth 65536 in
set_option maxHeartbeats 4000000 in
theorem k_resetTable_2_ok  : ∀ (n : Nat) (v1 : Int32) (s : S)  (o : S), k_resetTable_2 n v1 s = some o → Go PP m4 2 [.val (.ref 1), .val (.int v1)] [] (none, [(11, s)]) (none, (none, [(11, o)])) := by
  intro n
  induction n with
  | zero => intro v1 s o hf; exact nomatch hf
  | succ n ih =>
    intro v1 s o hf
    unfold k_resetTable_2 at hf
    refine go_iloadN (pc := 2) d4_2 rfl (go_bipush (pc := 3) d4_3 cb_64 ?_)
    by_cases h1 : v1 < (64 : Int32)
    · replace hf := (if_pos h1).symm.trans hf
      refine go_icN (pc := 5) d4_5 (XT.ii_ge_f h1) ?_
      refine go_aloadN (pc := 8) d4_8 rfl (go_getA (pc := 9) fa_23 hm_4 d4_9 rfl (go_iloadN (pc := 12) d4_12 rfl (go_iconst (pc := 13) d4_13 ci_m1 ?_)))
      obtain ⟨a14, e2, hf⟩ := Option.bind_eq_some_iff.mp hf
      refine go_iastore (pc := 14) (q := 4) ar_4 rfl hn_4 e2 d4_14 ?_
      refine go_iinc (pc := 15) (L' := [.val (.ref 1), .val (.int (v1 + (1 : Int32)))]) d4_15 rfl ci_1 rfl (go_goto (pc := 18) (pc' := 2) d4_18 j_18_m16 ?_)
      exact ih (v1 + (1 : Int32)) (sA s 4 a14) _ hf
    · replace hf := (if_neg h1).symm.trans hf
      refine go_icY (pc := 5) (pc' := 21) d4_5 (XT.ii_ge_t h1) j_5_16 ?_
      exact k_resetTable_21_ok s (.val (.int v1)) (Or.inr ⟨_, rfl, rfl⟩) _ hf
set_option maxRecDepth 65536 in
set_option maxHeartbeats 4000000 in
theorem k_resetTable_ok  : ∀  (s : S)  (o : S), k_resetTable s = some o → Go PP m4 0 [.val (.ref 1), .unset] [] (none, [(11, s)]) (none, (none, [(11, o)])) := by
  intro s o hf
  unfold k_resetTable at hf
  refine go_iconst (pc := 0) d4_0 ci_0 (go_istoreN (pc := 1) (L' := [.val (.ref 1), .val (.int (0 : Int32))]) d4_1 rfl ?_)
  exact k_resetTable_2_ok BIG (0 : Int32) s _ hf
theorem c_k_resetTable (s : S) (o : S) (hf : k_resetTable s = some o) : Call PP m4 [.ref 1] (none, [(11, s)]) (none, (none, [(11, o)])) := call_of_go pl_0 rfl (fun _ => rfl) (k_resetTable_ok s   _ hf)
set_option maxRecDepth 65536 in
set_option maxHeartbeats 4000000 in
theorem k_resetScratch_49_ok  : ∀  (s : S) (x1 : Slot) (hx1 : k1 x1) (o : S), k_resetScratch_49 s = some o → Go PP m5 49 [.val (.ref 1), x1] [] (none, [(11, s)]) (none, (none, [(11, o)])) := by
  intro s x1 hx1 o hf
  unfold k_resetScratch_49 at hf
  refine go_aloadN (pc := 49) d5_49 rfl (go_iconst (pc := 50) d5_50 ci_0 (go_putI (pc := 51) fs_201 hm_5 (wr_7 _) hn_5 d5_51 ?_))
  cases hf
  exact go_ret (pc := 54) rfl d5_54
set_option maxRecDepth 65536 in
set_option maxHeartbeats 4000000 in
theorem k_resetScratch_2_ok  : ∀ (n : Nat) (v1 : Int32) (s : S)  (o : S), k_resetScratch_2 n v1 s = some o → Go PP m5 2 [.val (.ref 1), .val (.int v1)] [] (none, [(11, s)]) (none, (none, [(11, o)])) := by
  intro n
  induction n with
  | zero => intro v1 s o hf; exact nomatch hf
  | succ n ih =>
    intro v1 s o hf
    unfold k_resetScratch_2 at hf
    refine go_iloadN (pc := 2) d5_2 rfl (go_bipush (pc := 3) d5_3 cb_64 ?_)
    by_cases h1 : v1 < (64 : Int32)
    · replace hf := (if_pos h1).symm.trans hf
      refine go_icN (pc := 5) d5_5 (XT.ii_ge_f h1) ?_
      refine go_aloadN (pc := 8) d5_8 rfl (go_getA (pc := 9) fa_29 hm_5 d5_9 rfl (go_iloadN (pc := 12) d5_12 rfl (go_iconst (pc := 13) d5_13 ci_0 ?_)))
      obtain ⟨a14, e2, hf⟩ := Option.bind_eq_some_iff.mp hf
      refine go_bastore (pc := 14) (q := 6) ar_6 (by decide) rfl hn_5 (by decide) e2 d5_14 ?_
      refine go_aloadN (pc := 15) d5_15 rfl (go_getA (pc := 16) fa_32 hm_5 d5_16 rfl (go_iloadN (pc := 19) d5_19 rfl (go_iconst (pc := 20) d5_20 ci_0 ?_)))
      obtain ⟨a21, e3, hf⟩ := Option.bind_eq_some_iff.mp hf
      refine go_bastore (pc := 21) (q := 7) ar_7 (by decide) rfl hn_5 (by decide) e3 d5_21 ?_
      refine go_aloadN (pc := 22) d5_22 rfl (go_getA (pc := 23) fa_35 hm_5 d5_23 rfl (go_iloadN (pc := 26) d5_26 rfl (go_iconst (pc := 27) d5_27 ci_0 ?_)))
      obtain ⟨a28, e4, hf⟩ := Option.bind_eq_some_iff.mp hf
      refine go_bastore (pc := 28) (q := 8) ar_8 (by decide) rfl hn_5 (by decide) e4 d5_28 ?_
      refine go_aloadN (pc := 29) d5_29 rfl (go_getA (pc := 30) fa_38 hm_5 d5_30 rfl (go_iloadN (pc := 33) d5_33 rfl (go_iconst (pc := 34) d5_34 ci_0 ?_)))
      obtain ⟨a35, e5, hf⟩ := Option.bind_eq_some_iff.mp hf
      refine go_iastore (pc := 35) (q := 9) ar_9 rfl hn_5 e5 d5_35 ?_
      refine go_aloadN (pc := 36) d5_36 rfl (go_getA (pc := 37) fa_41 hm_5 d5_37 rfl (go_iloadN (pc := 40) d5_40 rfl (go_iconst (pc := 41) d5_41 ci_m1 ?_)))
      obtain ⟨a42, e6, hf⟩ := Option.bind_eq_some_iff.mp hf
      refine go_iastore (pc := 42) (q := 10) ar_10 rfl hn_5 e6 d5_42 ?_
      refine go_iinc (pc := 43) (L' := [.val (.ref 1), .val (.int (v1 + (1 : Int32)))]) d5_43 rfl ci_1 rfl (go_goto (pc := 46) (pc' := 2) d5_46 j_46_m44 ?_)
      exact ih (v1 + (1 : Int32)) (sA (sA (sA (sA (sA s 6 a14) 7 a21) 8 a28) 9 a35) 10 a42) _ hf
    · replace hf := (if_neg h1).symm.trans hf
      refine go_icY (pc := 5) (pc' := 49) d5_5 (XT.ii_ge_t h1) j_5_44 ?_
      exact k_resetScratch_49_ok s (.val (.int v1)) (Or.inr ⟨_, rfl, rfl⟩) _ hf
set_option maxRecDepth 65536 in
set_option maxHeartbeats 4000000 in
theorem k_resetScratch_ok  : ∀  (s : S)  (o : S), k_resetScratch s = some o → Go PP m5 0 [.val (.ref 1), .unset] [] (none, [(11, s)]) (none, (none, [(11, o)])) := by
  intro s o hf
  unfold k_resetScratch at hf
  refine go_iconst (pc := 0) d5_0 ci_0 (go_istoreN (pc := 1) (L' := [.val (.ref 1), .val (.int (0 : Int32))]) d5_1 rfl ?_)
  exact k_resetScratch_2_ok BIG (0 : Int32) s _ hf
theorem c_k_resetScratch (s : S) (o : S) (hf : k_resetScratch s = some o) : Call PP m5 [.ref 1] (none, [(11, s)]) (none, (none, [(11, o)])) := call_of_go pl_0 rfl (fun _ => rfl) (k_resetScratch_ok s   _ hf)
set_option maxRecDepth 65536 in
set_option maxHeartbeats 4000000 in
theorem k_init_ok  : ∀ (v1 : Int32) (v2 : Int32) (v3 : Int32) (v4 : Int32)   (o : S), k_init v1 v2 v3 v4 = some o → Go PP m6 0 [.val (.ref 1), .val (.int v1), .val (.int v2), .val (.int v3), .val (.int v4), .unset] [] (none, [(0, s0)]) (none, (none, [(11, o)])) := by
  intro v1 v2 v3 v4 o hf
  unfold k_init at hf
  refine go_aloadN (pc := 0) d6_0 rfl ?_
  refine go_objinit (pc := 1) (rest := []) (a := 0) (List.mem_of_getElem? (i := 6) rfl) (List.mem_of_getElem? (i := 7) rfl) (List.mem_of_getElem? (i := 8) rfl) rfl rfl d6_1 ?_
  refine go_aloadN (pc := 4) d6_4 rfl (go_bipush (pc := 5) d6_5 cb_64 ?_)
  refine go_newI (pc := 7) (ty := .boolean) rfl (by decide) ar_0 (List.mem_of_getElem? (i := 9) rfl) (List.mem_of_getElem? (i := 10) rfl) hm_6 (Or.inl (List.mem_of_getElem? (i := 11) rfl)) rfl hn_6 (by decide) rfl rfl rfl rfl d6_7 d6_9 ?_
  refine go_aloadN (pc := 12) d6_12 rfl (go_sipush (pc := 13) d6_13 cs_256 ?_)
  refine go_newI (pc := 16) (ty := .int) rfl (by decide) ar_1 (List.mem_of_getElem? (i := 12) rfl) (List.mem_of_getElem? (i := 13) rfl) hm_6 (Or.inl (List.mem_of_getElem? (i := 14) rfl)) rfl hn_6 (by decide) rfl rfl rfl rfl d6_16 d6_18 ?_
  refine go_aloadN (pc := 21) d6_21 rfl (go_bipush (pc := 22) d6_22 cb_64 ?_)
  refine go_newI (pc := 24) (ty := .int) rfl (by decide) ar_2 (List.mem_of_getElem? (i := 12) rfl) (List.mem_of_getElem? (i := 15) rfl) hm_6 (Or.inl (List.mem_of_getElem? (i := 16) rfl)) rfl hn_6 (by decide) rfl rfl rfl rfl d6_24 d6_26 ?_
  refine go_aloadN (pc := 29) d6_29 rfl (go_bipush (pc := 30) d6_30 cb_16 ?_)
  refine go_newI (pc := 32) (ty := .int) rfl (by decide) ar_3 (List.mem_of_getElem? (i := 12) rfl) (List.mem_of_getElem? (i := 17) rfl) hm_6 (Or.inl (List.mem_of_getElem? (i := 18) rfl)) rfl hn_6 (by decide) rfl rfl rfl rfl d6_32 d6_34 ?_
  refine go_aloadN (pc := 37) d6_37 rfl (go_bipush (pc := 38) d6_38 cb_64 ?_)
  refine go_newI (pc := 40) (ty := .int) rfl (by decide) ar_4 (List.mem_of_getElem? (i := 12) rfl) (List.mem_of_getElem? (i := 19) rfl) hm_6 (Or.inl (List.mem_of_getElem? (i := 20) rfl)) rfl hn_6 (by decide) rfl rfl rfl rfl d6_40 d6_42 ?_
  refine go_aloadN (pc := 45) d6_45 rfl (go_bipush (pc := 46) d6_46 cb_64 ?_)
  refine go_newI (pc := 48) (ty := .int) rfl (by decide) ar_5 (List.mem_of_getElem? (i := 12) rfl) (List.mem_of_getElem? (i := 21) rfl) hm_6 (Or.inl (List.mem_of_getElem? (i := 22) rfl)) rfl hn_6 (by decide) rfl rfl rfl rfl d6_48 d6_50 ?_
  refine go_aloadN (pc := 53) d6_53 rfl (go_bipush (pc := 54) d6_54 cb_64 ?_)
  refine go_newI (pc := 56) (ty := .boolean) rfl (by decide) ar_6 (List.mem_of_getElem? (i := 9) rfl) (List.mem_of_getElem? (i := 23) rfl) hm_6 (Or.inl (List.mem_of_getElem? (i := 24) rfl)) rfl hn_6 (by decide) rfl rfl rfl rfl d6_56 d6_58 ?_
  refine go_aloadN (pc := 61) d6_61 rfl (go_bipush (pc := 62) d6_62 cb_64 ?_)
  refine go_newI (pc := 64) (ty := .boolean) rfl (by decide) ar_7 (List.mem_of_getElem? (i := 9) rfl) (List.mem_of_getElem? (i := 25) rfl) hm_6 (Or.inl (List.mem_of_getElem? (i := 26) rfl)) rfl hn_6 (by decide) rfl rfl rfl rfl d6_64 d6_66 ?_
  refine go_aloadN (pc := 69) d6_69 rfl (go_bipush (pc := 70) d6_70 cb_64 ?_)
  refine go_newI (pc := 72) (ty := .boolean) rfl (by decide) ar_8 (List.mem_of_getElem? (i := 9) rfl) (List.mem_of_getElem? (i := 27) rfl) hm_6 (Or.inl (List.mem_of_getElem? (i := 28) rfl)) rfl hn_6 (by decide) rfl rfl rfl rfl d6_72 d6_74 ?_
  refine go_aloadN (pc := 77) d6_77 rfl (go_bipush (pc := 78) d6_78 cb_64 ?_)
  refine go_newI (pc := 80) (ty := .int) rfl (by decide) ar_9 (List.mem_of_getElem? (i := 12) rfl) (List.mem_of_getElem? (i := 29) rfl) hm_6 (Or.inl (List.mem_of_getElem? (i := 30) rfl)) rfl hn_6 (by decide) rfl rfl rfl rfl d6_80 d6_82 ?_
  refine go_aloadN (pc := 85) d6_85 rfl (go_bipush (pc := 86) d6_86 cb_64 ?_)
  refine go_newI (pc := 88) (ty := .int) rfl (by decide) ar_10 (List.mem_of_getElem? (i := 12) rfl) (List.mem_of_getElem? (i := 31) rfl) hm_6 (Or.inl (List.mem_of_getElem? (i := 32) rfl)) rfl hn_6 (by decide) rfl rfl rfl rfl d6_88 d6_90 ?_
  refine go_aloadN (pc := 93) d6_93 rfl (go_iloadN (pc := 94) d6_94 rfl (go_iconst (pc := 95) d6_95 ci_4 (go_bipush (pc := 96) d6_96 cb_64 ?_)))
  refine go_stat (pc := 98) (as := [.int v1, .int (4 : Int32), .int (64 : Int32)]) (rest := [.ref 1]) (w' := (none, [(11, sA (sA (sA (sA (sA (sA (sA (sA (sA (sA (sA s0 0 (rep 64 0)) 1 (rep 256 0)) 2 (rep 64 0)) 3 (rep 16 0)) 4 (rep 64 0)) 5 (rep 64 0)) 6 (rep 64 0)) 7 (rep 64 0)) 8 (rep 64 0)) 9 (rep 64 0)) 10 (rep 64 0))])) lk_0_44 pd_0 rfl rfl ⟨Nat.le_of_ble_eq_true rfl, Nat.le_of_ble_eq_true rfl⟩ ⟨rfl, rfl, rfl⟩ ⟨rfl, rfl, rfl, rfl, rfl⟩ d6_98 (c_k_clamp v1 (4 : Int32) (64 : Int32) (none, [(11, sA (sA (sA (sA (sA (sA (sA (sA (sA (sA (sA s0 0 (rep 64 0)) 1 (rep 256 0)) 2 (rep 64 0)) 3 (rep 16 0)) 4 (rep 64 0)) 5 (rep 64 0)) 6 (rep 64 0)) 7 (rep 64 0)) 8 (rep 64 0)) 9 (rep 64 0)) 10 (rep 64 0))])) ?_
  refine go_putI (pc := 101) fs_48 hm_6 (wr_0 _) hn_6 d6_101 (go_aloadN (pc := 104) d6_104 rfl (go_iloadN (pc := 105) d6_105 rfl (go_iconst (pc := 106) d6_106 ci_1 (go_iconst (pc := 107) d6_107 ci_4 ?_))))
  refine go_stat (pc := 108) (as := [.int v2, .int (1 : Int32), .int (4 : Int32)]) (rest := [.ref 1]) (w' := (none, [(11, sI (sA (sA (sA (sA (sA (sA (sA (sA (sA (sA (sA s0 0 (rep 64 0)) 1 (rep 256 0)) 2 (rep 64 0)) 3 (rep 16 0)) 4 (rep 64 0)) 5 (rep 64 0)) 6 (rep 64 0)) 7 (rep 64 0)) 8 (rep 64 0)) 9 (rep 64 0)) 10 (rep 64 0)) 0 (k_clamp v1 (4 : Int32) (64 : Int32)))])) lk_0_44 pd_0 rfl rfl ⟨Nat.le_of_ble_eq_true rfl, Nat.le_of_ble_eq_true rfl⟩ ⟨rfl, rfl, rfl⟩ ⟨rfl, rfl, rfl, rfl, rfl⟩ d6_108 (c_k_clamp v2 (1 : Int32) (4 : Int32) (none, [(11, sI (sA (sA (sA (sA (sA (sA (sA (sA (sA (sA (sA s0 0 (rep 64 0)) 1 (rep 256 0)) 2 (rep 64 0)) 3 (rep 16 0)) 4 (rep 64 0)) 5 (rep 64 0)) 6 (rep 64 0)) 7 (rep 64 0)) 8 (rep 64 0)) 9 (rep 64 0)) 10 (rep 64 0)) 0 (k_clamp v1 (4 : Int32) (64 : Int32)))])) ?_
  refine go_putI (pc := 111) fs_52 hm_6 (wr_1 _) hn_6 d6_111 (go_aloadN (pc := 114) d6_114 rfl (go_iloadN (pc := 115) d6_115 rfl (go_iconst (pc := 116) d6_116 ci_1 (go_bipush (pc := 117) d6_117 cb_16 ?_))))
  refine go_stat (pc := 119) (as := [.int v3, .int (1 : Int32), .int (16 : Int32)]) (rest := [.ref 1]) (w' := (none, [(11, sI (sI (sA (sA (sA (sA (sA (sA (sA (sA (sA (sA (sA s0 0 (rep 64 0)) 1 (rep 256 0)) 2 (rep 64 0)) 3 (rep 16 0)) 4 (rep 64 0)) 5 (rep 64 0)) 6 (rep 64 0)) 7 (rep 64 0)) 8 (rep 64 0)) 9 (rep 64 0)) 10 (rep 64 0)) 0 (k_clamp v1 (4 : Int32) (64 : Int32))) 1 (k_clamp v2 (1 : Int32) (4 : Int32)))])) lk_0_44 pd_0 rfl rfl ⟨Nat.le_of_ble_eq_true rfl, Nat.le_of_ble_eq_true rfl⟩ ⟨rfl, rfl, rfl⟩ ⟨rfl, rfl, rfl, rfl, rfl⟩ d6_119 (c_k_clamp v3 (1 : Int32) (16 : Int32) (none, [(11, sI (sI (sA (sA (sA (sA (sA (sA (sA (sA (sA (sA (sA s0 0 (rep 64 0)) 1 (rep 256 0)) 2 (rep 64 0)) 3 (rep 16 0)) 4 (rep 64 0)) 5 (rep 64 0)) 6 (rep 64 0)) 7 (rep 64 0)) 8 (rep 64 0)) 9 (rep 64 0)) 10 (rep 64 0)) 0 (k_clamp v1 (4 : Int32) (64 : Int32))) 1 (k_clamp v2 (1 : Int32) (4 : Int32)))])) ?_
  refine go_putI (pc := 122) fs_55 hm_6 (wr_2 _) hn_6 d6_122 (go_aloadN (pc := 125) d6_125 rfl (go_getI (pc := 126) fs_55 hm_6 d6_126 (go_iconst (pc := 129) d6_129 ci_1 (go_iadd (pc := 130) d6_130 (go_istore (pc := 131) (L' := [.val (.ref 1), .val (.int v1), .val (.int v2), .val (.int v3), .val (.int v4), .val (.int ((k_clamp v3 (1 : Int32) (16 : Int32)) + (1 : Int32)))]) d6_131 rfl (go_aloadN (pc := 133) d6_133 rfl (go_iload (pc := 134) d6_134 rfl ?_)))))))
  refine go_iload (pc := 136) d6_136 rfl (go_bipush (pc := 138) d6_138 cb_64 ?_)
  refine go_stat (pc := 140) (as := [.int v4, .int ((k_clamp v3 (1 : Int32) (16 : Int32)) + (1 : Int32)), .int (64 : Int32)]) (rest := [.ref 1]) (w' := (none, [(11, sI (sI (sI (sA (sA (sA (sA (sA (sA (sA (sA (sA (sA (sA s0 0 (rep 64 0)) 1 (rep 256 0)) 2 (rep 64 0)) 3 (rep 16 0)) 4 (rep 64 0)) 5 (rep 64 0)) 6 (rep 64 0)) 7 (rep 64 0)) 8 (rep 64 0)) 9 (rep 64 0)) 10 (rep 64 0)) 0 (k_clamp v1 (4 : Int32) (64 : Int32))) 1 (k_clamp v2 (1 : Int32) (4 : Int32))) 2 (k_clamp v3 (1 : Int32) (16 : Int32)))])) lk_0_44 pd_0 rfl rfl ⟨Nat.le_of_ble_eq_true rfl, Nat.le_of_ble_eq_true rfl⟩ ⟨rfl, rfl, rfl⟩ ⟨rfl, rfl, rfl, rfl, rfl⟩ d6_140 (c_k_clamp v4 ((k_clamp v3 (1 : Int32) (16 : Int32)) + (1 : Int32)) (64 : Int32) (none, [(11, sI (sI (sI (sA (sA (sA (sA (sA (sA (sA (sA (sA (sA (sA s0 0 (rep 64 0)) 1 (rep 256 0)) 2 (rep 64 0)) 3 (rep 16 0)) 4 (rep 64 0)) 5 (rep 64 0)) 6 (rep 64 0)) 7 (rep 64 0)) 8 (rep 64 0)) 9 (rep 64 0)) 10 (rep 64 0)) 0 (k_clamp v1 (4 : Int32) (64 : Int32))) 1 (k_clamp v2 (1 : Int32) (4 : Int32))) 2 (k_clamp v3 (1 : Int32) (16 : Int32)))])) ?_
  refine go_putI (pc := 143) fs_58 hm_6 (wr_3 _) hn_6 d6_143 (go_aloadN (pc := 146) d6_146 rfl ?_)
  obtain ⟨r147, e12, hf⟩ := Option.bind_eq_some_iff.mp hf
  refine go_priv (pc := 147) (i := 0) (as := []) (rest := []) (w' := (none, [(11, r147)])) lk_0_61 pd_2 rfl oid_0 rfl rfl rfl rfl rfl rfl ⟨rfl, rfl, rfl, rfl, rfl⟩ d6_147 (c_k_resetHeap (sI (sI (sI (sI (sA (sA (sA (sA (sA (sA (sA (sA (sA (sA (sA s0 0 (rep 64 0)) 1 (rep 256 0)) 2 (rep 64 0)) 3 (rep 16 0)) 4 (rep 64 0)) 5 (rep 64 0)) 6 (rep 64 0)) 7 (rep 64 0)) 8 (rep 64 0)) 9 (rep 64 0)) 10 (rep 64 0)) 0 (k_clamp v1 (4 : Int32) (64 : Int32))) 1 (k_clamp v2 (1 : Int32) (4 : Int32))) 2 (k_clamp v3 (1 : Int32) (16 : Int32))) 3 (k_clamp v4 ((k_clamp v3 (1 : Int32) (16 : Int32)) + (1 : Int32)) (64 : Int32))) _ e12) ?_
  refine go_aloadN (pc := 150) d6_150 rfl ?_
  obtain ⟨r151, e13, hf⟩ := Option.bind_eq_some_iff.mp hf
  refine go_priv (pc := 151) (i := 0) (as := []) (rest := []) (w' := (none, [(11, r151)])) lk_0_64 pd_3 rfl oid_0 rfl rfl rfl rfl rfl rfl ⟨rfl, rfl, rfl, rfl, rfl⟩ d6_151 (c_k_resetRoots r147 _ e13) ?_
  refine go_aloadN (pc := 154) d6_154 rfl ?_
  obtain ⟨r155, e14, hf⟩ := Option.bind_eq_some_iff.mp hf
  refine go_priv (pc := 155) (i := 0) (as := []) (rest := []) (w' := (none, [(11, r155)])) lk_0_67 pd_4 rfl oid_0 rfl rfl rfl rfl rfl rfl ⟨rfl, rfl, rfl, rfl, rfl⟩ d6_155 (c_k_resetTable r151 _ e14) ?_
  refine go_aloadN (pc := 158) d6_158 rfl ?_
  obtain ⟨r159, e15, hf⟩ := Option.bind_eq_some_iff.mp hf
  refine go_priv (pc := 159) (i := 0) (as := []) (rest := []) (w' := (none, [(11, r159)])) lk_0_70 pd_5 rfl oid_0 rfl rfl rfl rfl rfl rfl ⟨rfl, rfl, rfl, rfl, rfl⟩ d6_159 (c_k_resetScratch r155 _ e15) ?_
  refine go_aloadN (pc := 162) d6_162 rfl (go_iconst (pc := 163) d6_163 ci_0 (go_putI (pc := 164) fs_73 hm_6 (wr_8 _) hn_6 d6_164 ?_))
  cases hf
  exact go_ret (pc := 167) rfl d6_167
theorem c_k_init (v1 : Int32) (v2 : Int32) (v3 : Int32) (v4 : Int32) (o : S) (hf : k_init v1 v2 v3 v4 = some o) : Call PP m6 [.ref 1, .int v1, .int v2, .int v3, .int v4] (none, [(0, s0)]) (none, (none, [(11, o)])) := call_of_go pl_0 rfl (fun _ => rfl) (k_init_ok v1 v2 v3 v4   _ hf)
set_option maxRecDepth 65536 in
set_option maxHeartbeats 4000000 in
theorem k_rootsFull_ok  : ∀  (s : S)  (o : Int32), k_rootsFull s = o → Go PP m7 0 [.val (.ref 1)] [] (none, [(11, s)]) (some (.int o), (none, [(11, s)])) := by
  intro s o hf
  unfold k_rootsFull at hf
  refine go_aloadN (pc := 0) d7_0 rfl (go_getI (pc := 1) fs_125 hm_7 d7_1 (go_aloadN (pc := 4) d7_4 rfl (go_getI (pc := 5) fs_55 hm_7 d7_5 ?_)))
  by_cases h1 : (gI s 5) < (gI s 2)
  · replace hf := (if_pos h1).symm.trans hf
    refine go_icY (pc := 8) (pc' := 15) d7_8 (XT.ii_lt_t h1) j_8_7 ?_
    refine go_iconst (pc := 15) d7_15 ci_0 ?_
    cases hf
    exact go_zret (pc := 16) rfl d7_16 (show (0 : Int32) = nar .boolean (0 : Int32) by decide)
  · replace hf := (if_neg h1).symm.trans hf
    refine go_icN (pc := 8) d7_8 (XT.ii_lt_f h1) ?_
    refine go_iconst (pc := 11) d7_11 ci_1 (go_goto (pc := 12) (pc' := 16) d7_12 j_12_4 ?_)
    cases hf
    exact go_zret (pc := 16) rfl d7_16 (show (1 : Int32) = nar .boolean (1 : Int32) by decide)
theorem c_k_rootsFull (s : S) : Call PP m7 [.ref 1] (none, [(11, s)]) (some (.int (k_rootsFull s)), (none, [(11, s)])) := call_of_go pl_0 rfl (fun h => nomatch h) (k_rootsFull_ok s   _ rfl)
set_option maxRecDepth 65536 in
set_option maxHeartbeats 4000000 in
theorem k_hasFreeCell_ok  : ∀  (s : S)  (o : Int32), k_hasFreeCell s = o → Go PP m8 0 [.val (.ref 1)] [] (none, [(11, s)]) (some (.int o), (none, [(11, s)])) := by
  intro s o hf
  unfold k_hasFreeCell at hf
  refine go_aloadN (pc := 0) d8_0 rfl (go_getI (pc := 1) fs_147 hm_8 d8_1 (go_aloadN (pc := 4) d8_4 rfl (go_getI (pc := 5) fs_48 hm_8 d8_5 ?_)))
  by_cases h1 : (gI s 4) < (gI s 0)
  · replace hf := (if_pos h1).symm.trans hf
    refine go_icN (pc := 8) d8_8 (XT.ii_ge_f h1) ?_
    refine go_iconst (pc := 11) d8_11 ci_1 (go_goto (pc := 12) (pc' := 16) d8_12 j_12_4 ?_)
    cases hf
    exact go_zret (pc := 16) rfl d8_16 (show (1 : Int32) = nar .boolean (1 : Int32) by decide)
  · replace hf := (if_neg h1).symm.trans hf
    refine go_icY (pc := 8) (pc' := 15) d8_8 (XT.ii_ge_t h1) j_8_7 ?_
    refine go_iconst (pc := 15) d8_15 ci_0 ?_
    cases hf
    exact go_zret (pc := 16) rfl d8_16 (show (0 : Int32) = nar .boolean (0 : Int32) by decide)
theorem c_k_hasFreeCell (s : S) : Call PP m8 [.ref 1] (none, [(11, s)]) (some (.int (k_hasFreeCell s)), (none, [(11, s)])) := call_of_go pl_0 rfl (fun h => nomatch h) (k_hasFreeCell_ok s   _ rfl)
set_option maxRecDepth 65536 in
set_option maxHeartbeats 4000000 in
theorem k_tableIsFull_ok  : ∀  (s : S)  (o : Int32), k_tableIsFull s = o → Go PP m9 0 [.val (.ref 1)] [] (none, [(11, s)]) (some (.int o), (none, [(11, s)])) := by
  intro s o hf
  unfold k_tableIsFull at hf
  refine go_aloadN (pc := 0) d9_0 rfl (go_getI (pc := 1) fs_144 hm_9 d9_1 (go_aloadN (pc := 4) d9_4 rfl (go_getI (pc := 5) fs_58 hm_9 d9_5 ?_)))
  by_cases h1 : (gI s 6) < (gI s 3)
  · replace hf := (if_pos h1).symm.trans hf
    refine go_icY (pc := 8) (pc' := 15) d9_8 (XT.ii_lt_t h1) j_8_7 ?_
    refine go_iconst (pc := 15) d9_15 ci_0 ?_
    cases hf
    exact go_zret (pc := 16) rfl d9_16 (show (0 : Int32) = nar .boolean (0 : Int32) by decide)
  · replace hf := (if_neg h1).symm.trans hf
    refine go_icN (pc := 8) d9_8 (XT.ii_lt_f h1) ?_
    refine go_iconst (pc := 11) d9_11 ci_1 (go_goto (pc := 12) (pc' := 16) d9_12 j_12_4 ?_)
    cases hf
    exact go_zret (pc := 16) rfl d9_16 (show (1 : Int32) = nar .boolean (1 : Int32) by decide)
theorem c_k_tableIsFull (s : S) : Call PP m9 [.ref 1] (none, [(11, s)]) (some (.int (k_tableIsFull s)), (none, [(11, s)])) := call_of_go pl_0 rfl (fun h => nomatch h) (k_tableIsFull_ok s   _ rfl)
set_option maxRecDepth 65536 in
set_option maxHeartbeats 4000000 in
theorem k_allocNeedsReconcile_ok  : ∀  (s : S)  (o : Int32), k_allocNeedsReconcile s = o → Go PP m10 0 [.val (.ref 1)] [] (none, [(11, s)]) (some (.int o), (none, [(11, s)])) := by
  intro s o hf
  unfold k_allocNeedsReconcile at hf
  refine go_aloadN (pc := 0) d10_0 rfl ?_
  refine go_priv (pc := 1) (i := 0) (as := []) (rest := []) (w' := (none, [(11, s)])) lk_0_153 pd_8 rfl oid_0 rfl rfl rfl rfl rfl rfl ⟨rfl, rfl, rfl, rfl, rfl⟩ d10_1 (c_k_hasFreeCell s) ?_
  by_cases h1 : (k_hasFreeCell s) = 0
  · replace hf := (if_pos h1).symm.trans hf
    refine go_ifN (pc := 4) d10_4 (XT.i0_ne_f h1) ?_
    refine go_iconst (pc := 7) d10_7 ci_1 ?_
    cases hf
    exact go_zret (pc := 8) rfl d10_8 (show (1 : Int32) = nar .boolean (1 : Int32) by decide)
  · replace hf := (if_neg h1).symm.trans hf
    refine go_ifY (pc := 4) (pc' := 9) d10_4 (XT.i0_ne_t h1) j_4_5 ?_
    refine go_aloadN (pc := 9) d10_9 rfl ?_
    refine go_priv (pc := 10) (i := 0) (as := []) (rest := []) (w' := (none, [(11, s)])) lk_0_156 pd_9 rfl oid_0 rfl rfl rfl rfl rfl rfl ⟨rfl, rfl, rfl, rfl, rfl⟩ d10_10 (c_k_tableIsFull s) ?_
    cases hf
    exact go_zret (pc := 13) rfl d10_13 rfl
theorem c_k_allocNeedsReconcile (s : S) : Call PP m10 [.ref 1] (none, [(11, s)]) (some (.int (k_allocNeedsReconcile s)), (none, [(11, s)])) := call_of_go pl_0 rfl (fun h => nomatch h) (k_allocNeedsReconcile_ok s   _ rfl)
set_option maxRecDepth 65536 in
set_option maxHeartbeats 4000000 in
theorem k_lowestFreeCell_2_ok  : ∀ (n : Nat) (v1 : Int32) (s : S)  (o : Int32), k_lowestFreeCell_2 n v1 s = some o → Go PP m11 2 [.val (.ref 1), .val (.int v1)] [] (none, [(11, s)]) (some (.int o), (none, [(11, s)])) := by
  intro n
  induction n with
  | zero => intro v1 s o hf; exact nomatch hf
  | succ n ih =>
    intro v1 s o hf
    unfold k_lowestFreeCell_2 at hf
    refine go_iloadN (pc := 2) d11_2 rfl (go_aloadN (pc := 3) d11_3 rfl (go_getI (pc := 4) fs_48 hm_11 d11_4 ?_))
    by_cases h1 : v1 < (gI s 0)
    · replace hf := (if_pos h1).symm.trans hf
      refine go_icN (pc := 7) d11_7 (XT.ii_ge_f h1) ?_
      refine go_aloadN (pc := 10) d11_10 rfl (go_getA (pc := 11) fa_7 hm_11 d11_11 rfl (go_iloadN (pc := 14) d11_14 rfl ?_))
      obtain ⟨a15, e2, hf⟩ := Option.bind_eq_some_iff.mp hf
      refine go_baload (pc := 15) (q := 0) ar_0 (by decide) rfl e2 d11_15 ?_
      by_cases h3 : a15 = 0
      · replace hf := (if_pos h3).symm.trans hf
        refine go_ifN (pc := 16) d11_16 (XT.i0_ne_f h3) ?_
        refine go_iloadN (pc := 19) d11_19 rfl ?_
        cases hf
        exact go_iret (pc := 20) rfl d11_20
      · replace hf := (if_neg h3).symm.trans hf
        refine go_ifY (pc := 16) (pc' := 21) d11_16 (XT.i0_ne_t h3) j_16_5 ?_
        refine go_iinc (pc := 21) (L' := [.val (.ref 1), .val (.int (v1 + (1 : Int32)))]) d11_21 rfl ci_1 rfl (go_goto (pc := 24) (pc' := 2) d11_24 j_24_m22 ?_)
        exact ih (v1 + (1 : Int32)) s _ hf
    · replace hf := (if_neg h1).symm.trans hf
      refine go_icY (pc := 7) (pc' := 27) d11_7 (XT.ii_ge_t h1) j_7_20 ?_
      refine go_iconst (pc := 27) d11_27 ci_m1 ?_
      cases hf
      exact go_iret (pc := 28) rfl d11_28
set_option maxRecDepth 65536 in
set_option maxHeartbeats 4000000 in
theorem k_lowestFreeCell_ok  : ∀  (s : S)  (o : Int32), k_lowestFreeCell s = some o → Go PP m11 0 [.val (.ref 1), .unset] [] (none, [(11, s)]) (some (.int o), (none, [(11, s)])) := by
  intro s o hf
  unfold k_lowestFreeCell at hf
  refine go_iconst (pc := 0) d11_0 ci_0 (go_istoreN (pc := 1) (L' := [.val (.ref 1), .val (.int (0 : Int32))]) d11_1 rfl ?_)
  exact k_lowestFreeCell_2_ok BIG (0 : Int32) s _ hf
theorem c_k_lowestFreeCell (s : S) (o : Int32) (hf : k_lowestFreeCell s = some o) : Call PP m11 [.ref 1] (none, [(11, s)]) (some (.int o), (none, [(11, s)])) := call_of_go pl_0 rfl (fun h => nomatch h) (k_lowestFreeCell_ok s   _ hf)
set_option maxRecDepth 65536 in
set_option maxHeartbeats 4000000 in
theorem k_isObjectId_ok  : ∀ (v1 : Int32) (s : S)  (o : Int32), k_isObjectId v1 s = o → Go PP m12 0 [.val (.ref 1), .val (.int v1)] [] (none, [(11, s)]) (some (.int o), (none, [(11, s)])) := by
  intro v1 s o hf
  unfold k_isObjectId at hf
  refine go_iloadN (pc := 0) d12_0 rfl ?_
  by_cases h1 : v1 < 0
  · replace hf := (if_pos h1).symm.trans hf
    refine go_ifY (pc := 1) (pc' := 16) d12_1 (XT.i0_lt_t h1) j_1_15 ?_
    refine go_iconst (pc := 16) d12_16 ci_0 ?_
    cases hf
    exact go_zret (pc := 17) rfl d12_17 (show (0 : Int32) = nar .boolean (0 : Int32) by decide)
  · replace hf := (if_neg h1).symm.trans hf
    refine go_ifN (pc := 1) d12_1 (XT.i0_lt_f h1) ?_
    refine go_iloadN (pc := 4) d12_4 rfl (go_aloadN (pc := 5) d12_5 rfl (go_getI (pc := 6) fs_48 hm_12 d12_6 ?_))
    by_cases h2 : v1 < (gI s 0)
    · replace hf := (if_pos h2).symm.trans hf
      refine go_icN (pc := 9) d12_9 (XT.ii_ge_f h2) ?_
      refine go_iconst (pc := 12) d12_12 ci_1 (go_goto (pc := 13) (pc' := 17) d12_13 j_13_4 ?_)
      cases hf
      exact go_zret (pc := 17) rfl d12_17 (show (1 : Int32) = nar .boolean (1 : Int32) by decide)
    · replace hf := (if_neg h2).symm.trans hf
      refine go_icY (pc := 9) (pc' := 16) d12_9 (XT.ii_ge_t h2) j_9_7 ?_
      refine go_iconst (pc := 16) d12_16 ci_0 ?_
      cases hf
      exact go_zret (pc := 17) rfl d12_17 (show (0 : Int32) = nar .boolean (0 : Int32) by decide)
theorem c_k_isObjectId (v1 : Int32) (s : S) : Call PP m12 [.ref 1, .int v1] (none, [(11, s)]) (some (.int (k_isObjectId v1 s)), (none, [(11, s)])) := call_of_go pl_0 rfl (fun h => nomatch h) (k_isObjectId_ok v1 s   _ rfl)
set_option maxRecDepth 65536 in
set_option maxHeartbeats 4000000 in
theorem k_bringToLife_ok  : ∀ (v1 : Int32) (s : S)  (o : S), k_bringToLife v1 s = some o → Go PP m13 0 [.val (.ref 1), .val (.int v1)] [] (none, [(11, s)]) (none, (none, [(11, o)])) := by
  intro v1 s o hf
  unfold k_bringToLife at hf
  refine go_aloadN (pc := 0) d13_0 rfl (go_iloadN (pc := 1) d13_1 rfl ?_)
  refine go_priv (pc := 2) (i := 0) (as := [.int v1]) (rest := []) (w' := (none, [(11, s)])) lk_0_165 pd_12 rfl oid_0 rfl rfl rfl rfl rfl rfl ⟨rfl, rfl, rfl, rfl, rfl⟩ d13_2 (c_k_isObjectId v1 s) ?_
  by_cases h1 : (k_isObjectId v1 s) = 0
  · replace hf := (if_pos h1).symm.trans hf
    refine go_ifN (pc := 5) d13_5 (XT.i0_ne_f h1) ?_
    cases hf
    exact go_ret (pc := 8) rfl d13_8
  · replace hf := (if_neg h1).symm.trans hf
    refine go_ifY (pc := 5) (pc' := 9) d13_5 (XT.i0_ne_t h1) j_5_4 ?_
    refine go_aloadN (pc := 9) d13_9 rfl (go_getA (pc := 10) fa_7 hm_13 d13_10 rfl (go_iloadN (pc := 13) d13_13 rfl ?_))
    obtain ⟨a14, e2, hf⟩ := Option.bind_eq_some_iff.mp hf
    refine go_baload (pc := 14) (q := 0) ar_0 (by decide) rfl e2 d13_14 ?_
    by_cases h3 : a14 = 0
    · replace hf := (if_pos h3).symm.trans hf
      refine go_ifY (pc := 15) (pc' := 19) d13_15 (XT.i0_eq_t h3) j_15_4 ?_
      refine go_aloadN (pc := 19) d13_19 rfl (go_getA (pc := 20) fa_7 hm_13 d13_20 rfl (go_iloadN (pc := 23) d13_23 rfl (go_iconst (pc := 24) d13_24 ci_1 ?_)))
      obtain ⟨a25, e4, hf⟩ := Option.bind_eq_some_iff.mp hf
      refine go_bastore (pc := 25) (q := 0) ar_0 (by decide) rfl hn_13 (by decide) e4 d13_25 ?_
      refine go_aloadN (pc := 26) d13_26 rfl (go_iloadN (pc := 27) d13_27 rfl ?_)
      obtain ⟨r28, e5, hf⟩ := Option.bind_eq_some_iff.mp hf
      refine go_priv (pc := 28) (i := 0) (as := [.int v1]) (rest := []) (w' := (none, [(11, r28)])) lk_0_219 pd_1 rfl oid_0 rfl rfl rfl rfl rfl rfl ⟨rfl, rfl, rfl, rfl, rfl⟩ d13_28 (c_k_clearCellFields v1 (sA s 0 a25) _ e5) ?_
      refine go_aloadN (pc := 31) d13_31 rfl (go_getA (pc := 32) fa_17 hm_13 d13_32 rfl (go_iloadN (pc := 35) d13_35 rfl (go_iconst (pc := 36) d13_36 ci_0 ?_)))
      obtain ⟨a37, e6, hf⟩ := Option.bind_eq_some_iff.mp hf
      refine go_iastore (pc := 37) (q := 2) ar_2 rfl hn_13 e6 d13_37 ?_
      refine go_aloadN (pc := 38) d13_38 rfl (go_aloadN (pc := 39) d13_39 rfl (go_getI (pc := 40) fs_147 hm_13 d13_40 (go_iconst (pc := 43) d13_43 ci_1 (go_iadd (pc := 44) d13_44 (go_putI (pc := 45) fs_147 hm_13 (wr_4 _) hn_13 d13_45 ?_)))))
      cases hf
      exact go_ret (pc := 48) rfl d13_48
    · replace hf := (if_neg h3).symm.trans hf
      refine go_ifN (pc := 15) d13_15 (XT.i0_eq_f h3) ?_
      cases hf
      exact go_ret (pc := 18) rfl d13_18
theorem c_k_bringToLife (v1 : Int32) (s : S) (o : S) (hf : k_bringToLife v1 s = some o) : Call PP m13 [.ref 1, .int v1] (none, [(11, s)]) (none, (none, [(11, o)])) := call_of_go pl_0 rfl (fun _ => rfl) (k_bringToLife_ok v1 s   _ hf)
set_option maxRecDepth 65536 in
set_option maxHeartbeats 4000000 in
theorem k_tableInsert_ok  : ∀ (v1 : Int32) (s : S)  (o : Int32 × S), k_tableInsert v1 s = some o → Go PP m14 0 [.val (.ref 1), .val (.int v1)] [] (none, [(11, s)]) (some (.int o.1), (none, [(11, o.2)])) := by
  intro v1 s o hf
  unfold k_tableInsert at hf
  refine go_aloadN (pc := 0) d14_0 rfl (go_iloadN (pc := 1) d14_1 rfl ?_)
  refine go_priv (pc := 2) (i := 0) (as := [.int v1]) (rest := []) (w' := (none, [(11, s)])) lk_0_165 pd_12 rfl oid_0 rfl rfl rfl rfl rfl rfl ⟨rfl, rfl, rfl, rfl, rfl⟩ d14_2 (c_k_isObjectId v1 s) ?_
  by_cases h1 : (k_isObjectId v1 s) = 0
  · replace hf := (if_pos h1).symm.trans hf
    refine go_ifN (pc := 5) d14_5 (XT.i0_ne_f h1) ?_
    refine go_iconst (pc := 8) d14_8 ci_0 ?_
    cases hf
    exact go_zret (pc := 9) rfl d14_9 (show (0 : Int32) = nar .boolean (0 : Int32) by decide)
  · replace hf := (if_neg h1).symm.trans hf
    refine go_ifY (pc := 5) (pc' := 10) d14_5 (XT.i0_ne_t h1) j_5_5 ?_
    refine go_aloadN (pc := 10) d14_10 rfl (go_getA (pc := 11) fa_26 hm_14 d14_11 rfl (go_iloadN (pc := 14) d14_14 rfl ?_))
    obtain ⟨a15, e2, hf⟩ := Option.bind_eq_some_iff.mp hf
    refine go_iaload (pc := 15) (q := 5) ar_5 rfl e2 d14_15 ?_
    refine go_iconst (pc := 16) d14_16 ci_m1 ?_
    by_cases h3 : a15 = (-1 : Int32)
    · replace hf := (if_pos h3).symm.trans hf
      refine go_icY (pc := 17) (pc' := 22) d14_17 (XT.ii_eq_t h3) j_17_5 ?_
      refine go_aloadN (pc := 22) d14_22 rfl (go_getI (pc := 23) fs_144 hm_14 d14_23 (go_aloadN (pc := 26) d14_26 rfl (go_getI (pc := 27) fs_58 hm_14 d14_27 ?_)))
      by_cases h4 : (gI s 6) < (gI s 3)
      · replace hf := (if_pos h4).symm.trans hf
        refine go_icN (pc := 30) d14_30 (XT.ii_ge_f h4) ?_
        refine go_aloadN (pc := 33) d14_33 rfl (go_getI (pc := 34) fs_144 hm_14 d14_34 (go_bipush (pc := 37) d14_37 cb_64 ?_))
        by_cases h5 : (gI s 6) < (64 : Int32)
        · replace hf := (if_pos h5).symm.trans hf
          refine go_icY (pc := 39) (pc' := 44) d14_39 (XT.ii_lt_t h5) j_39_5 ?_
          refine go_aloadN (pc := 44) d14_44 rfl (go_getA (pc := 45) fa_23 hm_14 d14_45 rfl (go_aloadN (pc := 48) d14_48 rfl (go_getI (pc := 49) fs_144 hm_14 d14_49 (go_iloadN (pc := 52) d14_52 rfl ?_))))
          obtain ⟨a53, e6, hf⟩ := Option.bind_eq_some_iff.mp hf
          refine go_iastore (pc := 53) (q := 4) ar_4 rfl hn_14 e6 d14_53 ?_
          refine go_aloadN (pc := 54) d14_54 rfl (go_getA (pc := 55) fa_26 hm_14 d14_55 rfl (go_iloadN (pc := 58) d14_58 rfl (go_aloadN (pc := 59) d14_59 rfl (go_getI (pc := 60) fs_144 hm_14 d14_60 ?_))))
          obtain ⟨a63, e7, hf⟩ := Option.bind_eq_some_iff.mp hf
          refine go_iastore (pc := 63) (q := 5) ar_5 rfl hn_14 e7 d14_63 ?_
          refine go_aloadN (pc := 64) d14_64 rfl (go_aloadN (pc := 65) d14_65 rfl (go_getI (pc := 66) fs_144 hm_14 d14_66 (go_iconst (pc := 69) d14_69 ci_1 (go_iadd (pc := 70) d14_70 (go_putI (pc := 71) fs_144 hm_14 (wr_6 _) hn_14 d14_71 (go_iconst (pc := 74) d14_74 ci_1 ?_))))))
          cases hf
          exact go_zret (pc := 75) rfl d14_75 (show (1 : Int32) = nar .boolean (1 : Int32) by decide)
        · replace hf := (if_neg h5).symm.trans hf
          refine go_icN (pc := 39) d14_39 (XT.ii_lt_f h5) ?_
          refine go_iconst (pc := 42) d14_42 ci_0 ?_
          cases hf
          exact go_zret (pc := 43) rfl d14_43 (show (0 : Int32) = nar .boolean (0 : Int32) by decide)
      · replace hf := (if_neg h4).symm.trans hf
        refine go_icY (pc := 30) (pc' := 42) d14_30 (XT.ii_ge_t h4) j_30_12 ?_
        refine go_iconst (pc := 42) d14_42 ci_0 ?_
        cases hf
        exact go_zret (pc := 43) rfl d14_43 (show (0 : Int32) = nar .boolean (0 : Int32) by decide)
    · replace hf := (if_neg h3).symm.trans hf
      refine go_icN (pc := 17) d14_17 (XT.ii_eq_f h3) ?_
      refine go_iconst (pc := 20) d14_20 ci_0 ?_
      cases hf
      exact go_zret (pc := 21) rfl d14_21 (show (0 : Int32) = nar .boolean (0 : Int32) by decide)
theorem c_k_tableInsert (v1 : Int32) (s : S) (o : Int32 × S) (hf : k_tableInsert v1 s = some o) : Call PP m14 [.ref 1, .int v1] (none, [(11, s)]) (some (.int o.1), (none, [(11, o.2)])) := call_of_go pl_0 rfl (fun h => nomatch h) (k_tableInsert_ok v1 s   _ hf)
set_option maxRecDepth 65536 in
set_option maxHeartbeats 4000000 in
theorem k_rootPush_ok  : ∀ (v1 : Int32) (s : S)  (o : S), k_rootPush v1 s = some o → Go PP m15 0 [.val (.ref 1), .val (.int v1)] [] (none, [(11, s)]) (none, (none, [(11, o)])) := by
  intro v1 s o hf
  unfold k_rootPush at hf
  refine go_aloadN (pc := 0) d15_0 rfl (go_getI (pc := 1) fs_125 hm_15 d15_1 (go_aloadN (pc := 4) d15_4 rfl (go_getI (pc := 5) fs_55 hm_15 d15_5 ?_)))
  by_cases h1 : (gI s 5) < (gI s 2)
  · replace hf := (if_pos h1).symm.trans hf
    refine go_icN (pc := 8) d15_8 (XT.ii_ge_f h1) ?_
    refine go_aloadN (pc := 11) d15_11 rfl (go_getI (pc := 12) fs_125 hm_15 d15_12 (go_bipush (pc := 15) d15_15 cb_16 ?_))
    by_cases h2 : (gI s 5) < (16 : Int32)
    · replace hf := (if_pos h2).symm.trans hf
      refine go_icY (pc := 17) (pc' := 21) d15_17 (XT.ii_lt_t h2) j_17_4 ?_
      refine go_aloadN (pc := 21) d15_21 rfl (go_getA (pc := 22) fa_20 hm_15 d15_22 rfl (go_aloadN (pc := 25) d15_25 rfl (go_getI (pc := 26) fs_125 hm_15 d15_26 (go_iloadN (pc := 29) d15_29 rfl ?_))))
      obtain ⟨a30, e3, hf⟩ := Option.bind_eq_some_iff.mp hf
      refine go_iastore (pc := 30) (q := 3) ar_3 rfl hn_15 e3 d15_30 ?_
      refine go_aloadN (pc := 31) d15_31 rfl (go_aloadN (pc := 32) d15_32 rfl (go_getI (pc := 33) fs_125 hm_15 d15_33 (go_iconst (pc := 36) d15_36 ci_1 (go_iadd (pc := 37) d15_37 (go_putI (pc := 38) fs_125 hm_15 (wr_5 _) hn_15 d15_38 ?_)))))
      cases hf
      exact go_ret (pc := 41) rfl d15_41
    · replace hf := (if_neg h2).symm.trans hf
      refine go_icN (pc := 17) d15_17 (XT.ii_lt_f h2) ?_
      cases hf
      exact go_ret (pc := 20) rfl d15_20
  · replace hf := (if_neg h1).symm.trans hf
    refine go_icY (pc := 8) (pc' := 20) d15_8 (XT.ii_ge_t h1) j_8_12 ?_
    cases hf
    exact go_ret (pc := 20) rfl d15_20
theorem c_k_rootPush (v1 : Int32) (s : S) (o : S) (hf : k_rootPush v1 s = some o) : Call PP m15 [.ref 1, .int v1] (none, [(11, s)]) (none, (none, [(11, o)])) := call_of_go pl_0 rfl (fun _ => rfl) (k_rootPush_ok v1 s   _ hf)
set_option maxRecDepth 65536 in
set_option maxHeartbeats 4000000 in
theorem k_placeNewObject_ok  : ∀ (v1 : Int32) (s : S)  (o : S), k_placeNewObject v1 s = some o → Go PP m16 0 [.val (.ref 1), .val (.int v1)] [] (none, [(11, s)]) (none, (none, [(11, o)])) := by
  intro v1 s o hf
  unfold k_placeNewObject at hf
  refine go_aloadN (pc := 0) d16_0 rfl (go_iloadN (pc := 1) d16_1 rfl ?_)
  obtain ⟨r2, e1, hf⟩ := Option.bind_eq_some_iff.mp hf
  refine go_priv (pc := 2) (i := 0) (as := [.int v1]) (rest := []) (w' := (none, [(11, r2)])) lk_0_159 pd_13 rfl oid_0 rfl rfl rfl rfl rfl rfl ⟨rfl, rfl, rfl, rfl, rfl⟩ d16_2 (c_k_bringToLife v1 s _ e1) ?_
  refine go_aloadN (pc := 5) d16_5 rfl (go_iloadN (pc := 6) d16_6 rfl ?_)
  obtain ⟨r7, e2, hf⟩ := Option.bind_eq_some_iff.mp hf
  refine go_priv (pc := 7) (i := 0) (as := [.int v1]) (rest := []) (w' := (none, [(11, r7.2)])) lk_0_162 pd_14 rfl oid_0 rfl rfl rfl rfl rfl rfl ⟨rfl, rfl, rfl, rfl, rfl⟩ d16_7 (c_k_tableInsert v1 r2 _ e2) ?_
  refine go_pop (pc := 10) d16_10 (go_aloadN (pc := 11) d16_11 rfl (go_iloadN (pc := 12) d16_12 rfl ?_))
  obtain ⟨r13, e3, hf⟩ := Option.bind_eq_some_iff.mp hf
  refine go_priv (pc := 13) (i := 0) (as := [.int v1]) (rest := []) (w' := (none, [(11, r13)])) lk_0_101 pd_15 rfl oid_0 rfl rfl rfl rfl rfl rfl ⟨rfl, rfl, rfl, rfl, rfl⟩ d16_13 (c_k_rootPush v1 r7.2 _ e3) ?_
  cases hf
  exact go_ret (pc := 16) rfl d16_16
theorem c_k_placeNewObject (v1 : Int32) (s : S) (o : S) (hf : k_placeNewObject v1 s = some o) : Call PP m16 [.ref 1, .int v1] (none, [(11, s)]) (none, (none, [(11, o)])) := call_of_go pl_0 rfl (fun _ => rfl) (k_placeNewObject_ok v1 s   _ hf)
set_option maxRecDepth 65536 in
set_option maxHeartbeats 4000000 in
theorem k_alloc_ok  : ∀  (s : S)  (o : Int32 × S), k_alloc s = some o → Go PP m17 0 [.val (.ref 1), .unset] [] (none, [(11, s)]) (some (.int o.1), (none, [(11, o.2)])) := by
  intro s o hf
  unfold k_alloc at hf
  refine go_aloadN (pc := 0) d17_0 rfl ?_
  refine go_priv (pc := 1) (i := 0) (as := []) (rest := []) (w' := (none, [(11, s)])) lk_0_76 pd_7 rfl oid_0 rfl rfl rfl rfl rfl rfl ⟨rfl, rfl, rfl, rfl, rfl⟩ d17_1 (c_k_rootsFull s) ?_
  by_cases h1 : (k_rootsFull s) = 0
  · replace hf := (if_pos h1).symm.trans hf
    refine go_ifY (pc := 4) (pc' := 10) d17_4 (XT.i0_eq_t h1) j_4_6 ?_
    refine go_aloadN (pc := 10) d17_10 rfl ?_
    refine go_priv (pc := 11) (i := 0) (as := []) (rest := []) (w' := (none, [(11, s)])) lk_0_80 pd_10 rfl oid_0 rfl rfl rfl rfl rfl rfl ⟨rfl, rfl, rfl, rfl, rfl⟩ d17_11 (c_k_allocNeedsReconcile s) ?_
    by_cases h2 : (k_allocNeedsReconcile s) = 0
    · replace hf := (if_pos h2).symm.trans hf
      refine go_ifY (pc := 14) (pc' := 22) d17_14 (XT.i0_eq_t h2) j_14_8 ?_
      refine go_aloadN (pc := 22) d17_22 rfl ?_
      obtain ⟨r23, e3, hf⟩ := Option.bind_eq_some_iff.mp hf
      refine go_priv (pc := 23) (i := 0) (as := []) (rest := []) (w' := (none, [(11, s)])) lk_0_87 pd_11 rfl oid_0 rfl rfl rfl rfl rfl rfl ⟨rfl, rfl, rfl, rfl, rfl⟩ d17_23 (c_k_lowestFreeCell s _ e3) ?_
      refine go_istoreN (pc := 26) (L' := [.val (.ref 1), .val (.int r23)]) d17_26 rfl (go_iloadN (pc := 27) d17_27 rfl (go_iconst (pc := 28) d17_28 ci_m1 ?_))
      by_cases h4 : r23 = (-1 : Int32)
      · replace hf := (if_pos h4).symm.trans hf
        refine go_icN (pc := 29) d17_29 (XT.ii_ne_f h4) ?_
        refine go_bipush (pc := 32) d17_32 cb_m4 ?_
        cases hf
        exact go_iret (pc := 34) rfl d17_34
      · replace hf := (if_neg h4).symm.trans hf
        refine go_icY (pc := 29) (pc' := 35) d17_29 (XT.ii_ne_t h4) j_29_6 ?_
        refine go_aloadN (pc := 35) d17_35 rfl (go_iloadN (pc := 36) d17_36 rfl ?_)
        obtain ⟨r37, e5, hf⟩ := Option.bind_eq_some_iff.mp hf
        refine go_priv (pc := 37) (i := 0) (as := [.int r23]) (rest := []) (w' := (none, [(11, r37)])) lk_0_90 pd_16 rfl oid_0 rfl rfl rfl rfl rfl rfl ⟨rfl, rfl, rfl, rfl, rfl⟩ d17_37 (c_k_placeNewObject r23 s _ e5) ?_
        refine go_iloadN (pc := 40) d17_40 rfl ?_
        cases hf
        exact go_iret (pc := 41) rfl d17_41
    · replace hf := (if_neg h2).symm.trans hf
      refine go_ifN (pc := 14) d17_14 (XT.i0_eq_f h2) ?_
      refine go_aloadN (pc := 17) d17_17 rfl ?_
      exact nomatch hf
  · replace hf := (if_neg h1).symm.trans hf
    refine go_ifN (pc := 4) d17_4 (XT.i0_eq_f h1) ?_
    refine go_bipush (pc := 7) d17_7 cb_m2 ?_
    cases hf
    exact go_iret (pc := 9) rfl d17_9
theorem c_k_alloc (s : S) (o : Int32 × S) (hf : k_alloc s = some o) : Call PP m17 [.ref 1] (none, [(11, s)]) (some (.int o.1), (none, [(11, o.2)])) := call_of_go pl_0 rfl (fun h => nomatch h) (k_alloc_ok s   _ hf)
set_option maxRecDepth 65536 in
set_option maxHeartbeats 4000000 in
theorem k_isLiveId_ok  : ∀ (v1 : Int32) (s : S)  (o : Int32), k_isLiveId v1 s = some o → Go PP m18 0 [.val (.ref 1), .val (.int v1)] [] (none, [(11, s)]) (some (.int o), (none, [(11, s)])) := by
  intro v1 s o hf
  unfold k_isLiveId at hf
  refine go_aloadN (pc := 0) d18_0 rfl (go_iloadN (pc := 1) d18_1 rfl ?_)
  refine go_priv (pc := 2) (i := 0) (as := [.int v1]) (rest := []) (w' := (none, [(11, s)])) lk_0_165 pd_12 rfl oid_0 rfl rfl rfl rfl rfl rfl ⟨rfl, rfl, rfl, rfl, rfl⟩ d18_2 (c_k_isObjectId v1 s) ?_
  by_cases h1 : (k_isObjectId v1 s) = 0
  · replace hf := (if_pos h1).symm.trans hf
    refine go_ifY (pc := 5) (pc' := 21) d18_5 (XT.i0_eq_t h1) j_5_16 ?_
    refine go_iconst (pc := 21) d18_21 ci_0 ?_
    cases hf
    exact go_zret (pc := 22) rfl d18_22 (show (0 : Int32) = nar .boolean (0 : Int32) by decide)
  · replace hf := (if_neg h1).symm.trans hf
    refine go_ifN (pc := 5) d18_5 (XT.i0_eq_f h1) ?_
    refine go_aloadN (pc := 8) d18_8 rfl (go_getA (pc := 9) fa_7 hm_18 d18_9 rfl (go_iloadN (pc := 12) d18_12 rfl ?_))
    obtain ⟨a13, e2, hf⟩ := Option.bind_eq_some_iff.mp hf
    refine go_baload (pc := 13) (q := 0) ar_0 (by decide) rfl e2 d18_13 ?_
    by_cases h3 : a13 = 0
    · replace hf := (if_pos h3).symm.trans hf
      refine go_ifY (pc := 14) (pc' := 21) d18_14 (XT.i0_eq_t h3) j_14_7 ?_
      refine go_iconst (pc := 21) d18_21 ci_0 ?_
      cases hf
      exact go_zret (pc := 22) rfl d18_22 (show (0 : Int32) = nar .boolean (0 : Int32) by decide)
    · replace hf := (if_neg h3).symm.trans hf
      refine go_ifN (pc := 14) d18_14 (XT.i0_eq_f h3) ?_
      refine go_iconst (pc := 17) d18_17 ci_1 (go_goto (pc := 18) (pc' := 22) d18_18 j_18_4 ?_)
      cases hf
      exact go_zret (pc := 22) rfl d18_22 (show (1 : Int32) = nar .boolean (1 : Int32) by decide)
theorem c_k_isLiveId (v1 : Int32) (s : S) (o : Int32) (hf : k_isLiveId v1 s = some o) : Call PP m18 [.ref 1, .int v1] (none, [(11, s)]) (some (.int o), (none, [(11, s)])) := call_of_go pl_0 rfl (fun h => nomatch h) (k_isLiveId_ok v1 s   _ hf)
set_option maxRecDepth 65536 in
set_option maxHeartbeats 4000000 in
theorem k_isFieldNo_ok  : ∀ (v1 : Int32) (s : S)  (o : Int32), k_isFieldNo v1 s = o → Go PP m19 0 [.val (.ref 1), .val (.int v1)] [] (none, [(11, s)]) (some (.int o), (none, [(11, s)])) := by
  intro v1 s o hf
  unfold k_isFieldNo at hf
  refine go_iloadN (pc := 0) d19_0 rfl ?_
  by_cases h1 : v1 < 0
  · replace hf := (if_pos h1).symm.trans hf
    refine go_ifY (pc := 1) (pc' := 16) d19_1 (XT.i0_lt_t h1) j_1_15 ?_
    refine go_iconst (pc := 16) d19_16 ci_0 ?_
    cases hf
    exact go_zret (pc := 17) rfl d19_17 (show (0 : Int32) = nar .boolean (0 : Int32) by decide)
  · replace hf := (if_neg h1).symm.trans hf
    refine go_ifN (pc := 1) d19_1 (XT.i0_lt_f h1) ?_
    refine go_iloadN (pc := 4) d19_4 rfl (go_aloadN (pc := 5) d19_5 rfl (go_getI (pc := 6) fs_52 hm_19 d19_6 ?_))
    by_cases h2 : v1 < (gI s 1)
    · replace hf := (if_pos h2).symm.trans hf
      refine go_icN (pc := 9) d19_9 (XT.ii_ge_f h2) ?_
      refine go_iconst (pc := 12) d19_12 ci_1 (go_goto (pc := 13) (pc' := 17) d19_13 j_13_4 ?_)
      cases hf
      exact go_zret (pc := 17) rfl d19_17 (show (1 : Int32) = nar .boolean (1 : Int32) by decide)
    · replace hf := (if_neg h2).symm.trans hf
      refine go_icY (pc := 9) (pc' := 16) d19_9 (XT.ii_ge_t h2) j_9_7 ?_
      refine go_iconst (pc := 16) d19_16 ci_0 ?_
      cases hf
      exact go_zret (pc := 17) rfl d19_17 (show (0 : Int32) = nar .boolean (0 : Int32) by decide)
theorem c_k_isFieldNo (v1 : Int32) (s : S) : Call PP m19 [.ref 1, .int v1] (none, [(11, s)]) (some (.int (k_isFieldNo v1 s)), (none, [(11, s)])) := call_of_go pl_0 rfl (fun h => nomatch h) (k_isFieldNo_ok v1 s   _ rfl)
set_option maxRecDepth 65536 in
set_option maxHeartbeats 4000000 in
theorem k_readField_ok  : ∀ (v1 : Int32) (v2 : Int32) (s : S)  (o : Int32), k_readField v1 v2 s = some o → Go PP m20 0 [.val (.ref 1), .val (.int v1), .val (.int v2)] [] (none, [(11, s)]) (some (.int o), (none, [(11, s)])) := by
  intro v1 v2 s o hf
  unfold k_readField at hf
  refine go_aloadN (pc := 0) d20_0 rfl (go_iloadN (pc := 1) d20_1 rfl ?_)
  refine go_priv (pc := 2) (i := 0) (as := [.int v1]) (rest := []) (w' := (none, [(11, s)])) lk_0_165 pd_12 rfl oid_0 rfl rfl rfl rfl rfl rfl ⟨rfl, rfl, rfl, rfl, rfl⟩ d20_2 (c_k_isObjectId v1 s) ?_
  by_cases h1 : (k_isObjectId v1 s) = 0
  · replace hf := (if_pos h1).symm.trans hf
    refine go_ifN (pc := 5) d20_5 (XT.i0_ne_f h1) ?_
    refine go_iconst (pc := 8) d20_8 ci_m1 ?_
    cases hf
    exact go_iret (pc := 9) rfl d20_9
  · replace hf := (if_neg h1).symm.trans hf
    refine go_ifY (pc := 5) (pc' := 10) d20_5 (XT.i0_ne_t h1) j_5_5 ?_
    refine go_aloadN (pc := 10) d20_10 rfl (go_iloadN (pc := 11) d20_11 rfl ?_)
    refine go_priv (pc := 12) (i := 0) (as := [.int v2]) (rest := []) (w' := (none, [(11, s)])) lk_0_138 pd_19 rfl oid_0 rfl rfl rfl rfl rfl rfl ⟨rfl, rfl, rfl, rfl, rfl⟩ d20_12 (c_k_isFieldNo v2 s) ?_
    by_cases h2 : (k_isFieldNo v2 s) = 0
    · replace hf := (if_pos h2).symm.trans hf
      refine go_ifN (pc := 15) d20_15 (XT.i0_ne_f h2) ?_
      refine go_iconst (pc := 18) d20_18 ci_m1 ?_
      cases hf
      exact go_iret (pc := 19) rfl d20_19
    · replace hf := (if_neg h2).symm.trans hf
      refine go_ifY (pc := 15) (pc' := 20) d20_15 (XT.i0_ne_t h2) j_15_5 ?_
      refine go_aloadN (pc := 20) d20_20 rfl (go_getA (pc := 21) fa_13 hm_20 d20_21 rfl (go_iloadN (pc := 24) d20_24 rfl (go_iconst (pc := 25) d20_25 ci_4 (go_imul (pc := 26) d20_26 (go_iloadN (pc := 27) d20_27 rfl (go_iadd (pc := 28) d20_28 ?_))))))
      obtain ⟨a29, e3, hf⟩ := Option.bind_eq_some_iff.mp hf
      refine go_iaload (pc := 29) (q := 1) ar_1 rfl e3 d20_29 ?_
      cases hf
      exact go_iret (pc := 30) rfl d20_30
theorem c_k_readField (v1 : Int32) (v2 : Int32) (s : S) (o : Int32) (hf : k_readField v1 v2 s = some o) : Call PP m20 [.ref 1, .int v1, .int v2] (none, [(11, s)]) (some (.int o), (none, [(11, s)])) := call_of_go pl_0 rfl (fun h => nomatch h) (k_readField_ok v1 v2 s   _ hf)
set_option maxRecDepth 65536 in
set_option maxHeartbeats 4000000 in
theorem k_field_ok  : ∀ (v1 : Int32) (v2 : Int32) (s : S)  (o : Int32), k_field v1 v2 s = some o → Go PP m21 0 [.val (.ref 1), .val (.int v1), .val (.int v2)] [] (none, [(11, s)]) (some (.int o), (none, [(11, s)])) := by
  intro v1 v2 s o hf
  unfold k_field at hf
  refine go_aloadN (pc := 0) d21_0 rfl (go_iloadN (pc := 1) d21_1 rfl ?_)
  obtain ⟨r2, e1, hf⟩ := Option.bind_eq_some_iff.mp hf
  refine go_priv (pc := 2) (i := 0) (as := [.int v1]) (rest := []) (w' := (none, [(11, s)])) lk_0_135 pd_18 rfl oid_0 rfl rfl rfl rfl rfl rfl ⟨rfl, rfl, rfl, rfl, rfl⟩ d21_2 (c_k_isLiveId v1 s _ e1) ?_
  by_cases h2 : r2 = 0
  · replace hf := (if_pos h2).symm.trans hf
    refine go_ifN (pc := 5) d21_5 (XT.i0_ne_f h2) ?_
    refine go_bipush (pc := 8) d21_8 cb_m8 ?_
    cases hf
    exact go_iret (pc := 10) rfl d21_10
  · replace hf := (if_neg h2).symm.trans hf
    refine go_ifY (pc := 5) (pc' := 11) d21_5 (XT.i0_ne_t h2) j_5_6 ?_
    refine go_aloadN (pc := 11) d21_11 rfl (go_iloadN (pc := 12) d21_12 rfl ?_)
    refine go_priv (pc := 13) (i := 0) (as := [.int v2]) (rest := []) (w' := (none, [(11, s)])) lk_0_138 pd_19 rfl oid_0 rfl rfl rfl rfl rfl rfl ⟨rfl, rfl, rfl, rfl, rfl⟩ d21_13 (c_k_isFieldNo v2 s) ?_
    by_cases h3 : (k_isFieldNo v2 s) = 0
    · replace hf := (if_pos h3).symm.trans hf
      refine go_ifN (pc := 16) d21_16 (XT.i0_ne_f h3) ?_
      refine go_bipush (pc := 19) d21_19 cb_m6 ?_
      cases hf
      exact go_iret (pc := 21) rfl d21_21
    · replace hf := (if_neg h3).symm.trans hf
      refine go_ifY (pc := 16) (pc' := 22) d21_16 (XT.i0_ne_t h3) j_16_6 ?_
      refine go_aloadN (pc := 22) d21_22 rfl (go_iloadN (pc := 23) d21_23 rfl (go_iloadN (pc := 24) d21_24 rfl ?_))
      obtain ⟨r25, e4, hf⟩ := Option.bind_eq_some_iff.mp hf
      refine go_priv (pc := 25) (i := 0) (as := [.int v1, .int v2]) (rest := []) (w' := (none, [(11, s)])) lk_0_98 pd_20 rfl oid_0 rfl rfl rfl rfl rfl rfl ⟨rfl, rfl, rfl, rfl, rfl⟩ d21_25 (c_k_readField v1 v2 s _ e4) ?_
      cases hf
      exact go_iret (pc := 28) rfl d21_28
theorem c_k_field (v1 : Int32) (v2 : Int32) (s : S) (o : Int32) (hf : k_field v1 v2 s = some o) : Call PP m21 [.ref 1, .int v1, .int v2] (none, [(11, s)]) (some (.int o), (none, [(11, s)])) := call_of_go pl_0 rfl (fun h => nomatch h) (k_field_ok v1 v2 s   _ hf)
set_option maxRecDepth 65536 in
set_option maxHeartbeats 4000000 in
theorem k_isRootSlot_ok  : ∀ (v1 : Int32) (s : S)  (o : Int32), k_isRootSlot v1 s = o → Go PP m22 0 [.val (.ref 1), .val (.int v1)] [] (none, [(11, s)]) (some (.int o), (none, [(11, s)])) := by
  intro v1 s o hf
  unfold k_isRootSlot at hf
  refine go_iloadN (pc := 0) d22_0 rfl ?_
  by_cases h1 : v1 < 0
  · replace hf := (if_pos h1).symm.trans hf
    refine go_ifY (pc := 1) (pc' := 16) d22_1 (XT.i0_lt_t h1) j_1_15 ?_
    refine go_iconst (pc := 16) d22_16 ci_0 ?_
    cases hf
    exact go_zret (pc := 17) rfl d22_17 (show (0 : Int32) = nar .boolean (0 : Int32) by decide)
  · replace hf := (if_neg h1).symm.trans hf
    refine go_ifN (pc := 1) d22_1 (XT.i0_lt_f h1) ?_
    refine go_iloadN (pc := 4) d22_4 rfl (go_aloadN (pc := 5) d22_5 rfl (go_getI (pc := 6) fs_125 hm_22 d22_6 ?_))
    by_cases h2 : v1 < (gI s 5)
    · replace hf := (if_pos h2).symm.trans hf
      refine go_icN (pc := 9) d22_9 (XT.ii_ge_f h2) ?_
      refine go_iconst (pc := 12) d22_12 ci_1 (go_goto (pc := 13) (pc' := 17) d22_13 j_13_4 ?_)
      cases hf
      exact go_zret (pc := 17) rfl d22_17 (show (1 : Int32) = nar .boolean (1 : Int32) by decide)
    · replace hf := (if_neg h2).symm.trans hf
      refine go_icY (pc := 9) (pc' := 16) d22_9 (XT.ii_ge_t h2) j_9_7 ?_
      refine go_iconst (pc := 16) d22_16 ci_0 ?_
      cases hf
      exact go_zret (pc := 17) rfl d22_17 (show (0 : Int32) = nar .boolean (0 : Int32) by decide)
theorem c_k_isRootSlot (v1 : Int32) (s : S) : Call PP m22 [.ref 1, .int v1] (none, [(11, s)]) (some (.int (k_isRootSlot v1 s)), (none, [(11, s)])) := call_of_go pl_0 rfl (fun h => nomatch h) (k_isRootSlot_ok v1 s   _ rfl)
set_option maxRecDepth 65536 in
set_option maxHeartbeats 4000000 in
theorem k_root_ok  : ∀ (v1 : Int32) (s : S)  (o : Int32), k_root v1 s = some o → Go PP m23 0 [.val (.ref 1), .val (.int v1)] [] (none, [(11, s)]) (some (.int o), (none, [(11, s)])) := by
  intro v1 s o hf
  unfold k_root at hf
  refine go_aloadN (pc := 0) d23_0 rfl (go_iloadN (pc := 1) d23_1 rfl ?_)
  refine go_priv (pc := 2) (i := 0) (as := [.int v1]) (rest := []) (w' := (none, [(11, s)])) lk_0_131 pd_22 rfl oid_0 rfl rfl rfl rfl rfl rfl ⟨rfl, rfl, rfl, rfl, rfl⟩ d23_2 (c_k_isRootSlot v1 s) ?_
  by_cases h1 : (k_isRootSlot v1 s) = 0
  · replace hf := (if_pos h1).symm.trans hf
    refine go_ifN (pc := 5) d23_5 (XT.i0_ne_f h1) ?_
    refine go_bipush (pc := 8) d23_8 cb_m5 ?_
    cases hf
    exact go_iret (pc := 10) rfl d23_10
  · replace hf := (if_neg h1).symm.trans hf
    refine go_ifY (pc := 5) (pc' := 11) d23_5 (XT.i0_ne_t h1) j_5_6 ?_
    refine go_aloadN (pc := 11) d23_11 rfl (go_getA (pc := 12) fa_20 hm_23 d23_12 rfl (go_iloadN (pc := 15) d23_15 rfl ?_))
    obtain ⟨a16, e2, hf⟩ := Option.bind_eq_some_iff.mp hf
    refine go_iaload (pc := 16) (q := 3) ar_3 rfl e2 d23_16 ?_
    cases hf
    exact go_iret (pc := 17) rfl d23_17
theorem c_k_root (v1 : Int32) (s : S) (o : Int32) (hf : k_root v1 s = some o) : Call PP m23 [.ref 1, .int v1] (none, [(11, s)]) (some (.int o), (none, [(11, s)])) := call_of_go pl_0 rfl (fun h => nomatch h) (k_root_ok v1 s   _ hf)
set_option maxRecDepth 65536 in
set_option maxHeartbeats 4000000 in
theorem k_reconciliations_ok  : ∀  (s : S)  (o : Int32), k_reconciliations s = o → Go PP m24 0 [.val (.ref 1)] [] (none, [(11, s)]) (some (.int o), (none, [(11, s)])) := by
  intro s o hf
  unfold k_reconciliations at hf
  refine go_aloadN (pc := 0) d24_0 rfl (go_getI (pc := 1) fs_73 hm_24 d24_1 ?_)
  cases hf
  exact go_iret (pc := 4) rfl d24_4
theorem c_k_reconciliations (s : S) : Call PP m24 [.ref 1] (none, [(11, s)]) (some (.int (k_reconciliations s)), (none, [(11, s)])) := call_of_go pl_0 rfl (fun h => nomatch h) (k_reconciliations_ok s   _ rfl)
set_option maxRecDepth 65536 in
set_option maxHeartbeats 4000000 in
theorem k_tableSize_ok  : ∀  (s : S)  (o : Int32), k_tableSize s = o → Go PP m25 0 [.val (.ref 1)] [] (none, [(11, s)]) (some (.int o), (none, [(11, s)])) := by
  intro s o hf
  unfold k_tableSize at hf
  refine go_aloadN (pc := 0) d25_0 rfl (go_getI (pc := 1) fs_144 hm_25 d25_1 ?_)
  cases hf
  exact go_iret (pc := 4) rfl d25_4
theorem c_k_tableSize (s : S) : Call PP m25 [.ref 1] (none, [(11, s)]) (some (.int (k_tableSize s)), (none, [(11, s)])) := call_of_go pl_0 rfl (fun h => nomatch h) (k_tableSize_ok s   _ rfl)
set_option maxRecDepth 65536 in
set_option maxHeartbeats 4000000 in
theorem k_liveCount_ok  : ∀  (s : S)  (o : Int32), k_liveCount s = o → Go PP m26 0 [.val (.ref 1)] [] (none, [(11, s)]) (some (.int o), (none, [(11, s)])) := by
  intro s o hf
  unfold k_liveCount at hf
  refine go_aloadN (pc := 0) d26_0 rfl (go_getI (pc := 1) fs_147 hm_26 d26_1 ?_)
  cases hf
  exact go_iret (pc := 4) rfl d26_4
theorem c_k_liveCount (s : S) : Call PP m26 [.ref 1] (none, [(11, s)]) (some (.int (k_liveCount s)), (none, [(11, s)])) := call_of_go pl_0 rfl (fun h => nomatch h) (k_liveCount_ok s   _ rfl)
set_option maxRecDepth 65536 in
set_option maxHeartbeats 4000000 in
theorem law_91_ok  : ∀ (v7 : Int32) (v8 : Int32) (v9 : Int32) (v10 : Int32) (p0 : Int32) (t0 : S) (x0 : Slot) (x1 : Slot) (x2 : Slot) (x3 : Slot) (x4 : Slot) (x6 : Slot) (hx0 : k1 x0) (hx1 : k1 x1) (hx2 : k1 x2) (hx3 : k1 x3) (hx4 : k1 x4) (hx6 : k1 x6) (o : Int32 × S), law_91 v7 v8 v9 v10 p0 t0 = some o → Go PP m27 91 [x0, x1, x2, x3, x4, .val (.ref 1), x6, .val (.int v7), .val (.int v8), .val (.int v9), .val (.int v10), .unset, .unset, .unset, .unset] [.int p0] (none, [(11, t0)]) (some (.int o.1), (none, [(11, o.2)])) := by
  intro v7 v8 v9 v10 p0 t0 x0 x1 x2 x3 x4 x6 hx0 hx1 hx2 hx3 hx4 hx6 o hf
  unfold law_91 at hf
  refine go_istore (pc := 91) (L' := [x0, x1, x2, x3, x4, .val (.ref 1), x6, .val (.int v7), .val (.int v8), .val (.int v9), .val (.int v10), .val (.int p0), .unset, .unset, .unset]) d27_91 rfl (go_aload (pc := 93) d27_93 rfl ?_)
  refine go_virt (pc := 95) (i := 0) (as := []) (rest := []) (w' := (none, [(11, t0)])) lk_1_24 pd_24 rfl oid_0 rfl rfl rfl rfl rfl rfl ⟨rfl, rfl, rfl, rfl, rfl⟩ d27_95 (c_k_reconciliations t0) ?_
  refine go_istore (pc := 98) (L' := [x0, x1, x2, x3, x4, .val (.ref 1), x6, .val (.int v7), .val (.int v8), .val (.int v9), .val (.int v10), .val (.int p0), .val (.int (k_reconciliations t0)), .unset, .unset]) d27_98 rfl (go_aload (pc := 100) d27_100 rfl ?_)
  refine go_virt (pc := 102) (i := 0) (as := []) (rest := []) (w' := (none, [(11, t0)])) lk_1_27 pd_25 rfl oid_0 rfl rfl rfl rfl rfl rfl ⟨rfl, rfl, rfl, rfl, rfl⟩ d27_102 (c_k_tableSize t0) ?_
  refine go_istore (pc := 105) (L' := [x0, x1, x2, x3, x4, .val (.ref 1), x6, .val (.int v7), .val (.int v8), .val (.int v9), .val (.int v10), .val (.int p0), .val (.int (k_reconciliations t0)), .val (.int (k_tableSize t0)), .unset]) d27_105 rfl (go_aload (pc := 107) d27_107 rfl ?_)
  refine go_virt (pc := 109) (i := 0) (as := []) (rest := []) (w' := (none, [(11, t0)])) lk_1_30 pd_26 rfl oid_0 rfl rfl rfl rfl rfl rfl ⟨rfl, rfl, rfl, rfl, rfl⟩ d27_109 (c_k_liveCount t0) ?_
  refine go_istore (pc := 112) (L' := [x0, x1, x2, x3, x4, .val (.ref 1), x6, .val (.int v7), .val (.int v8), .val (.int v9), .val (.int v10), .val (.int p0), .val (.int (k_reconciliations t0)), .val (.int (k_tableSize t0)), .val (.int (k_liveCount t0))]) d27_112 rfl (go_iload (pc := 114) d27_114 rfl ?_)
  by_cases h1 : v7 = 0
  · replace hf := (if_pos h1).symm.trans hf
    refine go_ifN (pc := 116) d27_116 (XT.i0_ne_f h1) ?_
    refine go_iload (pc := 119) d27_119 rfl (go_iload (pc := 121) d27_121 rfl ?_)
    by_cases h2 : v8 = v10
    · replace hf := (if_pos h2).symm.trans hf
      refine go_icN (pc := 123) d27_123 (XT.ii_ne_f h2) ?_
      refine go_iload (pc := 126) d27_126 rfl (go_iload (pc := 128) d27_128 rfl ?_)
      by_cases h3 : v9 = p0
      · replace hf := (if_pos h3).symm.trans hf
        refine go_icN (pc := 130) d27_130 (XT.ii_ne_f h3) ?_
        refine go_iload (pc := 133) d27_133 rfl ?_
        by_cases h4 : (k_reconciliations t0) = 0
        · replace hf := (if_pos h4).symm.trans hf
          refine go_ifN (pc := 135) d27_135 (XT.i0_ne_f h4) ?_
          refine go_iload (pc := 138) d27_138 rfl (go_iconst (pc := 140) d27_140 ci_1 ?_)
          by_cases h5 : (k_tableSize t0) = (1 : Int32)
          · replace hf := (if_pos h5).symm.trans hf
            refine go_icN (pc := 141) d27_141 (XT.ii_ne_f h5) ?_
            refine go_iload (pc := 144) d27_144 rfl (go_iconst (pc := 146) d27_146 ci_1 ?_)
            by_cases h6 : (k_liveCount t0) = (1 : Int32)
            · replace hf := (if_pos h6).symm.trans hf
              refine go_icN (pc := 147) d27_147 (XT.ii_ne_f h6) ?_
              refine go_iconst (pc := 150) d27_150 ci_1 (go_goto (pc := 151) (pc' := 155) d27_151 j_151_4 ?_)
              cases hf
              exact go_zret (pc := 155) rfl d27_155 (show (1 : Int32) = nar .boolean (1 : Int32) by decide)
            · replace hf := (if_neg h6).symm.trans hf
              refine go_icY (pc := 147) (pc' := 154) d27_147 (XT.ii_ne_t h6) j_147_7 ?_
              refine go_iconst (pc := 154) d27_154 ci_0 ?_
              cases hf
              exact go_zret (pc := 155) rfl d27_155 (show (0 : Int32) = nar .boolean (0 : Int32) by decide)
          · replace hf := (if_neg h5).symm.trans hf
            refine go_icY (pc := 141) (pc' := 154) d27_141 (XT.ii_ne_t h5) j_141_13 ?_
            refine go_iconst (pc := 154) d27_154 ci_0 ?_
            cases hf
            exact go_zret (pc := 155) rfl d27_155 (show (0 : Int32) = nar .boolean (0 : Int32) by decide)
        · replace hf := (if_neg h4).symm.trans hf
          refine go_ifY (pc := 135) (pc' := 154) d27_135 (XT.i0_ne_t h4) j_135_19 ?_
          refine go_iconst (pc := 154) d27_154 ci_0 ?_
          cases hf
          exact go_zret (pc := 155) rfl d27_155 (show (0 : Int32) = nar .boolean (0 : Int32) by decide)
      · replace hf := (if_neg h3).symm.trans hf
        refine go_icY (pc := 130) (pc' := 154) d27_130 (XT.ii_ne_t h3) j_130_24 ?_
        refine go_iconst (pc := 154) d27_154 ci_0 ?_
        cases hf
        exact go_zret (pc := 155) rfl d27_155 (show (0 : Int32) = nar .boolean (0 : Int32) by decide)
    · replace hf := (if_neg h2).symm.trans hf
      refine go_icY (pc := 123) (pc' := 154) d27_123 (XT.ii_ne_t h2) j_123_31 ?_
      refine go_iconst (pc := 154) d27_154 ci_0 ?_
      cases hf
      exact go_zret (pc := 155) rfl d27_155 (show (0 : Int32) = nar .boolean (0 : Int32) by decide)
  · replace hf := (if_neg h1).symm.trans hf
    refine go_ifY (pc := 116) (pc' := 154) d27_116 (XT.i0_ne_t h1) j_116_38 ?_
    refine go_iconst (pc := 154) d27_154 ci_0 ?_
    cases hf
    exact go_zret (pc := 155) rfl d27_155 (show (0 : Int32) = nar .boolean (0 : Int32) by decide)
set_option maxRecDepth 65536 in
set_option maxHeartbeats 4000000 in
theorem law_78_ok  : ∀ (v4 : Int32) (v7 : Int32) (v8 : Int32) (v9 : Int32) (p0 : Int32) (t0 : S) (x0 : Slot) (x1 : Slot) (x2 : Slot) (x3 : Slot) (x6 : Slot) (hx0 : k1 x0) (hx1 : k1 x1) (hx2 : k1 x2) (hx3 : k1 x3) (hx6 : k1 x6) (o : Int32 × S), law_78 v4 v7 v8 v9 p0 t0 = some o → Go PP m27 78 [x0, x1, x2, x3, .val (.int v4), .val (.ref 1), x6, .val (.int v7), .val (.int v8), .val (.int v9), .unset, .unset, .unset, .unset, .unset] [.int p0] (none, [(11, t0)]) (some (.int o.1), (none, [(11, o.2)])) := by
  intro v4 v7 v8 v9 p0 t0 x0 x1 x2 x3 x6 hx0 hx1 hx2 hx3 hx6 o hf
  unfold law_78 at hf
  refine go_istore (pc := 78) (L' := [x0, x1, x2, x3, .val (.int v4), .val (.ref 1), x6, .val (.int v7), .val (.int v8), .val (.int v9), .val (.int p0), .unset, .unset, .unset, .unset]) d27_78 rfl (go_iload (pc := 80) d27_80 rfl ?_)
  by_cases h1 : v4 = 0
  · refine go_ifN (pc := 82) d27_82 (XT.i0_ne_f h1) ?_
    refine go_iconst (pc := 85) d27_85 ci_0 (go_goto (pc := 86) (pc' := 91) d27_86 j_86_5 ?_)
    exact law_91_ok v7 v8 v9 p0 (0 : Int32) t0 x0 x1 x2 x3 (.val (.int v4)) x6 hx0 hx1 hx2 hx3 (Or.inr ⟨_, rfl, rfl⟩) hx6 _ (by simpa only [if_pos h1] using hf)
  · refine go_ifY (pc := 82) (pc' := 89) d27_82 (XT.i0_ne_t h1) j_82_7 ?_
    refine go_bipush (pc := 89) d27_89 cb_m5 ?_
    exact law_91_ok v7 v8 v9 p0 (-5 : Int32) t0 x0 x1 x2 x3 (.val (.int v4)) x6 hx0 hx1 hx2 hx3 (Or.inr ⟨_, rfl, rfl⟩) hx6 _ (by simpa only [if_neg h1] using hf)
set_option maxRecDepth 65536 in
set_option maxHeartbeats 4000000 in
theorem law_32_ok  : ∀ (v4 : Int32) (p0 : Int32) (t0 : S) (x0 : Slot) (x1 : Slot) (x2 : Slot) (x3 : Slot) (hx0 : k1 x0) (hx1 : k1 x1) (hx2 : k1 x2) (hx3 : k1 x3) (o : Int32 × S), law_32 v4 p0 t0 = some o → Go PP m27 32 [x0, x1, x2, x3, .val (.int v4), .val (.ref 1), .unset, .unset, .unset, .unset, .unset, .unset, .unset, .unset, .unset] [.int p0] (none, [(11, t0)]) (some (.int o.1), (none, [(11, o.2)])) := by
  intro v4 p0 t0 x0 x1 x2 x3 hx0 hx1 hx2 hx3 o hf
  unfold law_32 at hf
  refine go_istore (pc := 32) (L' := [x0, x1, x2, x3, .val (.int v4), .val (.ref 1), .val (.int p0), .unset, .unset, .unset, .unset, .unset, .unset, .unset, .unset]) d27_32 rfl (go_aload (pc := 34) d27_34 rfl ?_)
  obtain ⟨r36, e1, hf⟩ := Option.bind_eq_some_iff.mp hf
  refine go_virt (pc := 36) (i := 0) (as := []) (rest := []) (w' := (none, [(11, r36.2)])) lk_1_12 pd_17 rfl oid_0 rfl rfl rfl rfl rfl rfl ⟨rfl, rfl, rfl, rfl, rfl⟩ d27_36 (c_k_alloc t0 _ e1) ?_
  refine go_istore (pc := 39) (L' := [x0, x1, x2, x3, .val (.int v4), .val (.ref 1), .val (.int p0), .val (.int r36.1), .unset, .unset, .unset, .unset, .unset, .unset, .unset]) d27_39 rfl (go_aload (pc := 41) d27_41 rfl (go_iconst (pc := 43) d27_43 ci_0 (go_iload (pc := 44) d27_44 rfl ?_)))
  obtain ⟨r46, e2, hf⟩ := Option.bind_eq_some_iff.mp hf
  refine go_virt (pc := 46) (i := 0) (as := [.int (0 : Int32), .int v4]) (rest := []) (w' := (none, [(11, r36.2)])) lk_1_16 pd_21 rfl oid_0 rfl rfl rfl rfl rfl rfl ⟨rfl, rfl, rfl, rfl, rfl⟩ d27_46 (c_k_field (0 : Int32) v4 r36.2 _ e2) ?_
  refine go_istore (pc := 49) (L' := [x0, x1, x2, x3, .val (.int v4), .val (.ref 1), .val (.int p0), .val (.int r36.1), .val (.int r46), .unset, .unset, .unset, .unset, .unset, .unset]) d27_49 rfl (go_aload (pc := 51) d27_51 rfl (go_iload (pc := 53) d27_53 rfl ?_))
  obtain ⟨r55, e3, hf⟩ := Option.bind_eq_some_iff.mp hf
  refine go_virt (pc := 55) (i := 0) (as := [.int v4]) (rest := []) (w' := (none, [(11, r36.2)])) lk_1_20 pd_23 rfl oid_0 rfl rfl rfl rfl rfl rfl ⟨rfl, rfl, rfl, rfl, rfl⟩ d27_55 (c_k_root v4 r36.2 _ e3) ?_
  refine go_istore (pc := 58) (L' := [x0, x1, x2, x3, .val (.int v4), .val (.ref 1), .val (.int p0), .val (.int r36.1), .val (.int r46), .val (.int r55), .unset, .unset, .unset, .unset, .unset]) d27_58 rfl (go_iload (pc := 60) d27_60 rfl ?_)
  by_cases h4 : v4 < 0
  · refine go_ifY (pc := 62) (pc' := 76) d27_62 (XT.i0_lt_t h4) j_62_14 ?_
    refine go_bipush (pc := 76) d27_76 cb_m6 ?_
    exact law_78_ok v4 r36.1 r46 r55 (-6 : Int32) r36.2 x0 x1 x2 x3 (.val (.int p0)) hx0 hx1 hx2 hx3 (Or.inr ⟨_, rfl, rfl⟩) _ (by simpa only [if_pos h4] using hf)
  · refine go_ifN (pc := 62) d27_62 (XT.i0_lt_f h4) ?_
    refine go_iload (pc := 65) d27_65 rfl (go_iload (pc := 67) d27_67 rfl ?_)
    by_cases h5 : v4 < p0
    · refine go_icN (pc := 69) d27_69 (XT.ii_ge_f h5) ?_
      refine go_iconst (pc := 72) d27_72 ci_m1 (go_goto (pc := 73) (pc' := 78) d27_73 j_73_5 ?_)
      exact law_78_ok v4 r36.1 r46 r55 (-1 : Int32) r36.2 x0 x1 x2 x3 (.val (.int p0)) hx0 hx1 hx2 hx3 (Or.inr ⟨_, rfl, rfl⟩) _ (by simpa only [if_neg h4, if_pos h5] using hf)
    · refine go_icY (pc := 69) (pc' := 76) d27_69 (XT.ii_ge_t h5) j_69_7 ?_
      refine go_bipush (pc := 76) d27_76 cb_m6 ?_
      exact law_78_ok v4 r36.1 r46 r55 (-6 : Int32) r36.2 x0 x1 x2 x3 (.val (.int p0)) hx0 hx1 hx2 hx3 (Or.inr ⟨_, rfl, rfl⟩) _ (by simpa only [if_neg h4, if_neg h5] using hf)
set_option maxRecDepth 65536 in
set_option maxHeartbeats 4000000 in
theorem law_ok  : ∀ (v0 : Int32) (v1 : Int32) (v2 : Int32) (v3 : Int32) (v4 : Int32)   (o : Int32 × S), law v0 v1 v2 v3 v4 = some o → Go PP m27 0 [.val (.int v0), .val (.int v1), .val (.int v2), .val (.int v3), .val (.int v4), .unset, .unset, .unset, .unset, .unset, .unset, .unset, .unset, .unset, .unset] [] (none, []) (some (.int o.1), (none, [(11, o.2)])) := by
  intro v0 v1 v2 v3 v4 o hf
  unfold law at hf
  refine go_new (pc := 0) (n := 0) (w' := (none, [(0, s0)])) (List.mem_of_getElem? (i := 0) rfl) rfl rfl rfl rfl rfl rfl rfl d27_0 oid_0 ?_
  refine go_dupR (pc := 3) d27_3 (go_iloadN (pc := 4) d27_4 rfl (go_iloadN (pc := 5) d27_5 rfl (go_iloadN (pc := 6) d27_6 rfl (go_iloadN (pc := 7) d27_7 rfl ?_))))
  obtain ⟨r8, e2, hf⟩ := Option.bind_eq_some_iff.mp hf
  refine go_init (pc := 8) (i := 0) (as := [.int v0, .int v1, .int v2, .int v3]) (rest := [.ref 1]) (w' := (none, [(11, r8)])) lk_1_9 pd_6 rfl oid_0 rfl rfl rfl rfl rfl rfl rfl rfl rfl ⟨rfl, rfl, rfl⟩ ⟨rfl, rfl⟩ d27_8 (c_k_init v0 v1 v2 v3 _ e2) ?_
  refine go_astore (pc := 11) (L' := [.val (.int v0), .val (.int v1), .val (.int v2), .val (.int v3), .val (.int v4), .val (.ref 1), .unset, .unset, .unset, .unset, .unset, .unset, .unset, .unset, .unset]) d27_11 rfl (go_iloadN (pc := 13) d27_13 rfl (go_iconst (pc := 14) d27_14 ci_1 ?_))
  by_cases h3 : v1 < (1 : Int32)
  · refine go_icN (pc := 15) d27_15 (XT.ii_ge_f h3) ?_
    refine go_iconst (pc := 18) d27_18 ci_1 (go_goto (pc := 19) (pc' := 32) d27_19 j_19_13 ?_)
    exact law_32_ok v4 (1 : Int32) r8 (.val (.int v0)) (.val (.int v1)) (.val (.int v2)) (.val (.int v3)) (Or.inr ⟨_, rfl, rfl⟩) (Or.inr ⟨_, rfl, rfl⟩) (Or.inr ⟨_, rfl, rfl⟩) (Or.inr ⟨_, rfl, rfl⟩) _ (by simpa only [if_pos h3] using hf)
  · refine go_icY (pc := 15) (pc' := 22) d27_15 (XT.ii_ge_t h3) j_15_7 ?_
    refine go_iloadN (pc := 22) d27_22 rfl (go_iconst (pc := 23) d27_23 ci_4 ?_)
    by_cases h4 : (4 : Int32) < v1
    · refine go_icN (pc := 24) d27_24 (XT.ii_le_f h4) ?_
      refine go_iconst (pc := 27) d27_27 ci_4 (go_goto (pc := 28) (pc' := 32) d27_28 j_28_4 ?_)
      exact law_32_ok v4 (4 : Int32) r8 (.val (.int v0)) (.val (.int v1)) (.val (.int v2)) (.val (.int v3)) (Or.inr ⟨_, rfl, rfl⟩) (Or.inr ⟨_, rfl, rfl⟩) (Or.inr ⟨_, rfl, rfl⟩) (Or.inr ⟨_, rfl, rfl⟩) _ (by simpa only [if_neg h3, if_pos h4] using hf)
    · refine go_icY (pc := 24) (pc' := 31) d27_24 (XT.ii_le_t h4) j_24_7 ?_
      refine go_iloadN (pc := 31) d27_31 rfl ?_
      exact law_32_ok v4 v1 r8 (.val (.int v0)) (.val (.int v1)) (.val (.int v2)) (.val (.int v3)) (Or.inr ⟨_, rfl, rfl⟩) (Or.inr ⟨_, rfl, rfl⟩) (Or.inr ⟨_, rfl, rfl⟩) (Or.inr ⟨_, rfl, rfl⟩) _ (by simpa only [if_neg h3, if_neg h4] using hf)
def own_len (s : S) : Prop := (gA s 0).length = 64 ∧ (gA s 1).length = 256 ∧ (gA s 2).length = 64 ∧ (gA s 3).length = 16 ∧ (gA s 4).length = 64 ∧ (gA s 5).length = 64 ∧ (gA s 6).length = 64 ∧ (gA s 7).length = 64 ∧ (gA s 8).length = 64 ∧ (gA s 9).length = 64 ∧ (gA s 10).length = 64
theorem own_ccf (t s : S) (j : Nat) (hj : j < 64) (F : Fx [] [] [1] [] t s) (hl : (gA s 1).length = 256) : ∃ s', k_clearCellFields (Int32.ofNat j) s = some s' ∧ Fx [] [] [1] [] t s' ∧ (gA s' 1).length = 256 ∧ ∀ i, i < 4 → (gA s' 1)[4 * j + i]? = some (-1 : Int32) := by
  have h0 : ¬ Int32.ofNat j < 0 := ofNat_nonneg (by omega)
  have h1 : Int32.ofNat j < 64 := (lt_lit (by omega)).mpr hj
  have hm : Int32.ofNat j * 4 = Int32.ofNat (j * 4) := (Int32.ofNat_mul j 4).symm
  obtain ⟨s', e, F', l', U⟩ := run_for (fun n v s => k_clearCellFields_17 n (Int32.ofNat (j * 4)) v s) some 4 (fun k s => Fx [] [] [1] [] t s ∧ (gA s 1).length = 256 ∧ ∀ i, i < k → (gA s 1)[4 * j + i]? = some (-1 : Int32)) (by
    intro n k s hk ⟨F, l, U⟩
    refine ⟨sA s 1 ((gA s 1).set (j * 4 + k) (-1)), ?_, F.sA (by simp), by simp [gA_sA, l], ?_⟩
    · show k_clearCellFields_17 (n + 1) _ _ _ = k_clearCellFields_17 n _ _ _
      rw [k_clearCellFields_17, if_pos ((lt_lit (by omega)).mpr hk), ofNat_add', st_ofNat _ _ (by omega) (by omega), ofNat_succ]; rfl
    · intro i hi
      simp only [gA_sA, if_true]
      by_cases q : i = k
      · subst q; rw [show 4 * j + i = j * 4 + i by omega, List.getElem?_set_self (by omega)]
      · rw [List.getElem?_set_ne (by omega)]; exact U i (by omega)) (fun n s _ => by show k_clearCellFields_17 (n + 1) _ _ _ = _; rw [k_clearCellFields_17, if_neg (by decide)]) BIG s (by decide) ⟨F, hl, fun i hi => absurd hi (Nat.not_lt_zero _)⟩
  refine ⟨s', ?_, F', l', U⟩
  unfold k_clearCellFields
  rw [if_neg h0, if_pos h1, hm]
  exact e
def own_J (t s : S) : Prop := Fx [4, 5, 6, 7] [] [0, 1, 2, 3, 4, 5, 6, 7, 8, 9, 10] [] t s ∧ own_len s
theorem own_rh (t s : S) (h : own_J t s) : ∃ s', k_resetHeap s = some s' ∧ own_J t s' ∧ gI s' 4 = 0 ∧ (gA s' 0)[0]? = some 0 := by
  obtain ⟨s', e, i, U⟩ := run_for k_resetHeap_2 k_resetHeap_33 64 (fun k s => own_J t s ∧ Upto (gA s 0) k 0) (by
    intro n k s hk ⟨⟨F, l0, l1, l2, l3, l4, l5, l6, l7, l8, l9, l10⟩, U⟩
    obtain ⟨s', e, F', l', -⟩ := own_ccf (sA (sA s 0 ((gA s 0).set k 0)) 2 ((gA s 2).set k 0)) _ k hk (Fx.refl ..) (by simp [gA_sA, l1])
    refine ⟨s', ?_, ⟨((F.sA (by simp)).sA (by simp)).trans (F'.mono (by simp) (by simp) (by simp) (by simp)), ?_⟩, ?_⟩
    · rw [k_resetHeap_2, if_pos ((lt_lit (by omega)).mpr hk), st_ofNat _ _ (by omega) (by omega), Option.bind_some, st_ofNat _ _ (by omega) (by omega), Option.bind_some, e, Option.bind_some, ofNat_succ]
    · have g : ∀ f, f ≠ 1 → gA s' f = gA (sA (sA s 0 ((gA s 0).set k 0)) 2 ((gA s 2).set k 0)) f := fun f hf => F'.2.2.1 f (by simpa using hf)
      simp [own_len, l', g, gA_sA, *]
    · rw [F'.2.2.1 0 (by simp)]
      simp only [gA_sA]
      simp
      exact U.set (by omega)) (fun n s _ => by rw [k_resetHeap_2, if_neg (by decide)]) BIG s (by decide) ⟨h, Upto.zero _ _⟩
  refine ⟨_, e, ⟨i.1.sI (by simp), ?_⟩, by simp [gI_sI], ?_⟩
  · have := i.2
    simp [own_len, gA_sI] at this ⊢; exact this
  · simp only [gA_sI]; exact U 0 (by omega)
theorem own_rr (t s : S) (h : own_J t s) : ∃ s', k_resetRoots s = some s' ∧ own_J t s' ∧ gI s' 5 = 0 ∧ Fx [5] [] [3] [] s s' := by
  obtain ⟨s', e, i, F2⟩ := run_for k_resetRoots_2 k_resetRoots_21 16 (fun k u => own_J t u ∧ Fx [5] [] [3] [] s u) (by
    intro n k u hk ⟨⟨F, l0, l1, l2, l3, l4, l5, l6, l7, l8, l9, l10⟩, F2⟩
    refine ⟨sA u 3 ((gA u 3).set k (-1)), ?_, ⟨F.sA (by simp), ?_⟩, F2.sA (by simp)⟩
    · rw [k_resetRoots_2, if_pos ((lt_lit (by omega)).mpr hk), st_ofNat _ _ (by omega) (by omega), Option.bind_some, ofNat_succ]
    · simp [own_len, gA_sA, *]) (fun n s _ => by rw [k_resetRoots_2, if_neg (by decide)]) BIG s (by decide) ⟨h, Fx.refl ..⟩
  refine ⟨_, e, ⟨i.1.sI (by simp), ?_⟩, by simp [gI_sI], F2.sI (by simp)⟩
  have := i.2
  simp [own_len, gA_sI] at this ⊢; exact this
theorem own_rt (t s : S) (h : own_J t s) : ∃ s', k_resetTable s = some s' ∧ own_J t s' ∧ gI s' 6 = 0 ∧ (gA s' 5)[0]? = some (-1 : Int32) ∧ Fx [6] [] [4, 5] [] s s' := by
  obtain ⟨u, e, i, F2⟩ := run_for k_resetTable_2 k_resetTable_21 64 (fun k u => own_J t u ∧ Fx [6] [] [4, 5] [] s u) (by
    intro n k u hk ⟨⟨F, l0, l1, l2, l3, l4, l5, l6, l7, l8, l9, l10⟩, F2⟩
    refine ⟨sA u 4 ((gA u 4).set k (-1)), ?_, ⟨F.sA (by simp), ?_⟩, F2.sA (by simp)⟩
    · rw [k_resetTable_2, if_pos ((lt_lit (by omega)).mpr hk), st_ofNat _ _ (by omega) (by omega), Option.bind_some, ofNat_succ]
    · simp [own_len, gA_sA, *]) (fun n s _ => by rw [k_resetTable_2, if_neg (by decide)]) BIG s (by decide) ⟨h, Fx.refl ..⟩
  obtain ⟨w, e2, i2, F3, U⟩ := run_for k_resetTable_23 k_resetTable_42 64 (fun k w => own_J t w ∧ Fx [6] [] [4, 5] [] s w ∧ Upto (gA w 5) k (-1)) (by
    intro n k u hk ⟨⟨F, l0, l1, l2, l3, l4, l5, l6, l7, l8, l9, l10⟩, F2, U⟩
    refine ⟨sA u 5 ((gA u 5).set k (-1)), ?_, ⟨F.sA (by simp), ?_⟩, F2.sA (by simp), ?_⟩
    · rw [k_resetTable_23, if_pos ((lt_lit (by omega)).mpr hk), st_ofNat _ _ (by omega) (by omega), Option.bind_some, ofNat_succ]
    · simp [own_len, gA_sA, *]
    · simp only [gA_sA, if_true]; exact U.set (by omega)) (fun n s _ => by rw [k_resetTable_23, if_neg (by decide)]) BIG u (by decide) ⟨i, F2, Upto.zero _ _⟩
  refine ⟨_, e.trans e2, ⟨i2.1.sI (by simp), ?_⟩, by simp [gI_sI], by simp only [gA_sI]; exact U 0 (by omega), F3.sI (by simp)⟩
  have := i2.2
  simp [own_len, gA_sI] at this ⊢; exact this
theorem own_rs (t s : S) (h : own_J t s) : ∃ s', k_resetScratch s = some s' ∧ own_J t s' ∧ Fx [7] [] [6, 7, 8, 9, 10] [] s s' := by
  obtain ⟨s', e, i, F2⟩ := run_for k_resetScratch_2 k_resetScratch_49 64 (fun k u => own_J t u ∧ Fx [7] [] [6, 7, 8, 9, 10] [] s u) (by
    intro n k u hk ⟨⟨F, l0, l1, l2, l3, l4, l5, l6, l7, l8, l9, l10⟩, F2⟩
    refine ⟨sA (sA (sA (sA (sA u 6 ((gA u 6).set k 0)) 7 ((gA u 7).set k 0)) 8 ((gA u 8).set k 0)) 9 ((gA u 9).set k 0)) 10 ((gA u 10).set k (-1)), ?_, ⟨((((F.sA (by simp)).sA (by simp)).sA (by simp)).sA (by simp)).sA (by simp), ?_⟩, ((((F2.sA (by simp)).sA (by simp)).sA (by simp)).sA (by simp)).sA (by simp)⟩
    · rw [k_resetScratch_2, if_pos ((lt_lit (by omega)).mpr hk), st_ofNat _ _ (by omega) (by omega), Option.bind_some, st_ofNat _ _ (by omega) (by omega), Option.bind_some, st_ofNat _ _ (by omega) (by omega), Option.bind_some, st_ofNat _ _ (by omega) (by omega), Option.bind_some, st_ofNat _ _ (by omega) (by omega), Option.bind_some, ofNat_succ]
    · simp [own_len, gA_sA, *]) (fun n s _ => by rw [k_resetScratch_2, if_neg (by decide)]) BIG s (by decide) ⟨h, Fx.refl ..⟩
  refine ⟨_, e, ⟨i.1.sI (by simp), ?_⟩, F2.sI (by simp)⟩
  have := i.2
  simp [own_len, gA_sI] at this ⊢; exact this
theorem own_cl (v lo hi : Int32) (h : ¬ hi < lo) : ¬ k_clamp v lo hi < lo ∧ ¬ hi < k_clamp v lo hi := by
  unfold k_clamp
  by_cases a : v < lo
  · simp only [a, if_true]; exact ⟨by simp, h⟩
  · by_cases b : hi < v
    · simp only [a, b, if_true, if_false]; exact ⟨h, by simp⟩
    · simp [a, b]
theorem law_true (v0 v1 v2 v3 v4 : Int32) : ∃ t, law v0 v1 v2 v3 v4 = some (1, t) := by
  obtain ⟨X, eX, lX, x0, x1, x2, x3⟩ : ∃ X, k_init v0 v1 v2 v3 = ((k_resetHeap X).bind fun r => (k_resetRoots r).bind fun r => (k_resetTable r).bind fun r => (k_resetScratch r).bind fun r => some (sI r 8 0)) ∧ own_len X ∧ gI X 0 = k_clamp v0 4 64 ∧ gI X 1 = k_clamp v1 1 4 ∧ gI X 2 = k_clamp v2 1 16 ∧ gI X 3 = k_clamp v3 (k_clamp v2 1 16 + 1) 64 := by
    refine ⟨_, by unfold k_init; rfl, ?_, ?_, ?_, ?_, ?_⟩
    · simp [own_len, gA_sI, gA_sA, rep_length]
    · simp [gI_sI]
    · simp [gI_sI]
    · simp [gI_sI]
    · simp [gI_sI]
  obtain ⟨s1, e1, J1, i4, a0⟩ := own_rh X X ⟨Fx.refl .., lX⟩
  obtain ⟨s2, e2, J2, i5, F2⟩ := own_rr X s1 J1
  obtain ⟨s3, e3, J3, i6, a5, F3⟩ := own_rt X s2 J2
  obtain ⟨s4, e4, J4, F4⟩ := own_rs X s3 J3
  obtain ⟨l0, l1, l2, l3, l4, l5, l6, l7, l8, l9, l10⟩ := J4.2
  have g4 : gI s4 4 = 0 := by rw [F4.1 4 (by simp), F3.1 4 (by simp), F2.1 4 (by simp), i4]
  have g5 : gI s4 5 = 0 := by rw [F4.1 5 (by simp), F3.1 5 (by simp), i5]
  have g6 : gI s4 6 = 0 := by rw [F4.1 6 (by simp), i6]
  have g0 : gI s4 0 = k_clamp v0 4 64 := by rw [J4.1.1 0 (by simp), x0]
  have g1 : gI s4 1 = k_clamp v1 1 4 := by rw [J4.1.1 1 (by simp), x1]
  have g2 : gI s4 2 = k_clamp v2 1 16 := by rw [J4.1.1 2 (by simp), x2]
  have g3 : gI s4 3 = k_clamp v3 (k_clamp v2 1 16 + 1) 64 := by rw [J4.1.1 3 (by simp), x3]
  have b0 : (gA s4 0)[0]? = some 0 := by rw [F4.2.2.1 0 (by simp), F3.2.2.1 0 (by simp), F2.2.2.1 0 (by simp), a0]
  have b5 : (gA s4 5)[0]? = some (-1 : Int32) := by rw [F4.2.2.1 5 (by simp), a5]
  have z0 : (0 : Int32).toInt = 0 := rfl
  have z1 : (1 : Int32).toInt = 1 := rfl
  have z4 : (4 : Int32).toInt = 4 := rfl
  have z16 : (16 : Int32).toInt = 16 := rfl
  have z64 : (64 : Int32).toInt = 64 := rfl
  have p0 : (0 : Int32) < k_clamp v0 4 64 := by
    have := (own_cl v0 4 64 (by decide)).1
    rw [Int32.lt_iff_toInt_lt] at this ⊢; omega
  have p2 : (0 : Int32) < k_clamp v2 1 16 := by
    have := (own_cl v2 1 16 (by decide)).1
    rw [Int32.lt_iff_toInt_lt] at this ⊢; omega
  have p3 : (0 : Int32) < k_clamp v3 (k_clamp v2 1 16 + 1) 64 := by
    have h1 := own_cl v2 1 16 (by decide)
    rw [Int32.lt_iff_toInt_lt, Int32.lt_iff_toInt_lt] at h1
    have h2 : (k_clamp v2 1 16 + 1).toInt = (k_clamp v2 1 16).toInt + 1 := by
      rw [Int32.toInt_add, z1, Int.bmod_eq_of_le (by omega) (by omega)]
    have h3 := (own_cl v3 (k_clamp v2 1 16 + 1) 64 (by rw [Int32.lt_iff_toInt_lt, h2]; omega)).1
    rw [Int32.lt_iff_toInt_lt] at h3 ⊢; omega
  -- alloc
  obtain ⟨u, eu, Fu, lu, Uu⟩ := own_ccf (sA (sI s4 8 0) 0 ((gA s4 0).set 0 1)) _ 0 (by omega) (Fx.refl ..) (by simp [gA_sA, gA_sI, l1])
  have uI : ∀ f, gI u f = if f = 8 then 0 else gI s4 f := fun f => by rw [Fu.1 f (by simp)]; simp [gI_sA, gI_sI]
  have uA : ∀ f, f ≠ 1 → gA u f = if f = 0 then (gA s4 0).set 0 1 else gA s4 f := fun f hf => by rw [Fu.2.2.1 f (by simpa using hf)]; simp [gA_sA, gA_sI]
  have ha : ∃ w, k_alloc (sI s4 8 0) = some (0, w) ∧ gI w 8 = 0 ∧ gI w 6 = 1 ∧ gI w 4 = 1 ∧ gI w 5 = 1 ∧ gI w 0 = gI s4 0 ∧ gI w 1 = gI s4 1 ∧ (gA w 0)[0]? = some 1 ∧ gA w 1 = gA u 1 ∧ (gA w 3)[0]? = some 0 := by
    have d0 : ix (gA s4 0) 0 = some 0 := (ix_ofNat (k := 0) _ (by omega)).trans b0
    have eu' : k_clearCellFields 0 (sA (sI s4 8 0) 0 ((gA s4 0).set 0 1)) = some u := eu
    have t0 : Jvm.AM.st (gA s4 0) 0 1 = some ((gA s4 0).set 0 1) := st_ofNat (k := 0) _ _ (by omega) (by omega)
    have t2 : Jvm.AM.st (gA s4 2) 0 0 = some ((gA s4 2).set 0 0) := st_ofNat (k := 0) _ _ (by omega) (by omega)
    have t4 : Jvm.AM.st (gA s4 4) 0 0 = some ((gA s4 4).set 0 0) := st_ofNat (k := 0) _ _ (by omega) (by omega)
    have t5 : Jvm.AM.st (gA s4 5) 0 0 = some ((gA s4 5).set 0 0) := st_ofNat (k := 0) _ _ (by omega) (by omega)
    have t3 : Jvm.AM.st (gA s4 3) 0 0 = some ((gA s4 3).set 0 0) := st_ofNat (k := 0) _ _ (by omega) (by omega)
    have d5 : ix (gA s4 5) 0 = some (-1) := (ix_ofNat (k := 0) _ (by omega)).trans b5
    have nb : nar .boolean 0 = 0 := by decide
    have hl : k_lowestFreeCell (sI s4 8 0) = some 0 := by
      unfold k_lowestFreeCell
      rw [show BIG = 999999 + 1 from rfl, k_lowestFreeCell_2]
      simp [gI_sI, gA_sI, g0, p0, d0]
    have hbl : k_bringToLife 0 (sI s4 8 0) = some (sI (sA u 2 ((gA s4 2).set 0 0)) 4 1) := by
      unfold k_bringToLife
      simp [k_isObjectId, gI_sI, gA_sI, g0, p0, d0, t0, eu', uA, t2, uI, g4]
    have hti : k_tableInsert 0 (sI (sA u 2 ((gA s4 2).set 0 0)) 4 1) = some (1, sI (sA (sA (sI (sA u 2 ((gA s4 2).set 0 0)) 4 1) 4 ((gA s4 4).set 0 0)) 5 ((gA s4 5).set 0 0)) 6 1) := by
      unfold k_tableInsert
      simp [k_isObjectId, gI_sI, gI_sA, gA_sI, gA_sA, uI, uA, g0, p0, d5, g6, g3, p3, t4, t5]
    have hrp : k_rootPush 0 (sI (sA (sA (sI (sA u 2 ((gA s4 2).set 0 0)) 4 1) 4 ((gA s4 4).set 0 0)) 5 ((gA s4 5).set 0 0)) 6 1) = some (sI (sA (sI (sA (sA (sI (sA u 2 ((gA s4 2).set 0 0)) 4 1) 4 ((gA s4 4).set 0 0)) 5 ((gA s4 5).set 0 0)) 6 1) 3 ((gA s4 3).set 0 0)) 5 1) := by
      unfold k_rootPush
      simp [gI_sI, gI_sA, gA_sI, gA_sA, uI, uA, g5, g2, p2, t3]
    refine ⟨sI (sA (sI (sA (sA (sI (sA u 2 ((gA s4 2).set 0 0)) 4 1) 4 ((gA s4 4).set 0 0)) 5 ((gA s4 5).set 0 0)) 6 1) 3 ((gA s4 3).set 0 0)) 5 1, ?_, ?_, ?_, ?_, ?_, ?_, ?_, ?_, ?_, ?_⟩
    · unfold k_alloc k_placeNewObject
      simp only [k_rootsFull, k_allocNeedsReconcile, k_hasFreeCell, k_tableIsFull, gI_sI, g5, g2, g4, g0, g6, g3, p2, p0, p3, if_true, if_false, hl, Option.bind_some, hbl, hti, hrp]
      simp [g5, g2, g4, g0, g6, g3, p2, p0, p3, nb]
    all_goals simp [gI_sI, gI_sA, gA_sI, gA_sA, uI, uA, l0, l3]
  obtain ⟨w, ew, w8, w6, w4, w5, w0, w1, wA0, wA1, wA3⟩ := ha
  have hlive : k_isLiveId 0 w = some 1 := by
    unfold k_isLiveId
    have : ix (gA w 0) 0 = some 1 := (ix_ofNat (k := 0) _ (by omega)).trans wA0
    simp [k_isObjectId, w0, g0, p0, this]
  have hfield : k_field 0 v4 w = some (if v4 < 0 then -6 else if v4 < k_clamp v1 1 4 then -1 else -6) := by
    unfold k_field
    rw [hlive]
    by_cases q : v4 < 0
    · simp [k_isFieldNo, q]
    · by_cases r : v4 < k_clamp v1 1 4
      · have h4 := (own_cl v1 1 4 (by decide)).2
        have hc : v4.toNatClampNeg < 4 := clamp_lt (n := 4) q (by rw [Int32.lt_iff_toInt_lt] at r h4 ⊢; show v4.toInt < (4 : Int32).toInt; omega) (by omega)
        have hx : ix (gA w 1) v4 = some (-1) := by
          rw [ix_nat _ q, wA1]
          have := Uu v4.toNatClampNeg hc
          simpa using this
        simp [k_isFieldNo, k_readField, k_isObjectId, q, r, w1, g1, w0, g0, p0, hx]
      · simp [k_isFieldNo, q, r, w1, g1]
  have hroot : k_root v4 w = some (if v4 = 0 then 0 else -5) := by
    unfold k_root k_isRootSlot
    rw [w5]
    by_cases q : v4 < 0
    · have : v4 ≠ 0 := fun e => by subst e; exact absurd q (by decide)
      simp [q, this]
    · by_cases r : v4 < 1
      · have : v4 = 0 := by
          rw [Int32.lt_iff_toInt_lt] at q r
          exact Int32.toInt_inj.mp (by omega)
        subst this
        have : ix (gA w 3) 0 = some 0 := (ix_ofNat (k := 0) _ (by omega)).trans wA3
        simp [this]
      · have : v4 ≠ 0 := fun e => by subst e; exact absurd r (by decide)
        simp [q, r, this]
  refine ⟨w, ?_⟩
  unfold law
  rw [eX, e1, Option.bind_some, e2, Option.bind_some, e3, Option.bind_some, e4, show (if v1 < (1 : Int32) then (1 : Int32) else if (4 : Int32) < v1 then (4 : Int32) else v1) = k_clamp v1 1 4 from rfl]
  simp [law_32, ew, hfield, hroot, law_78, law_91, k_reconciliations, k_tableSize, k_liveCount, w8, w6, w4]
set_option maxRecDepth 65536 in
set_option maxHeartbeats 40000000 in
theorem comes_1 {Post : Tables → Env → Array Value → State → Outcome → State → Prop} (hpost : ∀ tb e args s v u, (limb_1_1.after args s (.returned v) u = true ∧ limb_1_2.after args s (.returned v) u = true ∧ True) → FrameEnd s (.returned v) u (Jvm.fieldLocs frame_1_writes args s ++ Jvm.arrayLocs frame_1_arrays args s ++ Jvm.staticLocs frame_1_statics s) 32 1856 → Post tb e args s (.returned v) u) :
    ArmFor flags0 classFile x code maxLocals ret World_1 tables_1 room_1 Calls_1 rest_1 Pre_1 Post := by
  intro l hfl _ _ p e ha hc hk s m args below hf hA hF happ hP
  obtain ⟨hcalls, hrest, hpre⟩ := hP
  obtain ⟨-, -, -, hnamed, -, -, -, hat⟩ := (Spec.applies_iff hf).mp happ
  obtain ⟨hg, hn⟩ := and_e (Cond.before_iff.mp (show (Jvm.Cond.and given_1 narrow_1).before args s = true from hpre))
  obtain ⟨g0, b0⟩ := and_e hg
  obtain ⟨a0, b1⟩ := and_e b0
  obtain ⟨a1, b2⟩ := and_e b1
  obtain ⟨a2, b3⟩ := and_e b2
  obtain ⟨a3, b4⟩ := and_e b3
  have a4 := b4
  obtain ⟨w0, w1, w2, w3, w4, rfl⟩ : ∃ w0 w1 w2 w3 w4 : Value, args = #[w0, w1, w2, w3, w4] := by
    have hs : args.size = 5 := by simpa [Cond.value, given_1] using g0
    obtain ⟨L⟩ := args
    match L, hs with
    | [w0, w1, w2, w3, w4], _ => exact ⟨w0, w1, w2, w3, w4, rfl⟩
  have hw := fun d (hd : d ∈ tables_1) => atoms_spec (ws := Jvm.Cond.code x code maxLocals ret :: tables_1) hat d (List.mem_cons_of_mem _ hd)
  have hfit : Fit s := fun {y c} hc i hi => by
    obtain ⟨ha, rfl⟩ := Array.getElem?_eq_some_iff.mp hc
    have q := List.all_eq_true.mp ((Array.all_eq_true_iff_forall_mem.mp hF) _ (Array.getElem_mem ha)) i (List.mem_range.mpr hi)
    simpa [Array.getElem?_eq_getElem hi] using q
  obtain ⟨i0, ei0⟩ := is_v a0
  obtain rfl : w0 = (.int i0) := Option.some.inj ei0
  obtain ⟨i1, ei1⟩ := is_v a1
  obtain rfl : w1 = (.int i1) := Option.some.inj ei1
  obtain ⟨i2, ei2⟩ := is_v a2
  obtain rfl : w2 = (.int i2) := Option.some.inj ei2
  obtain ⟨i3, ei3⟩ := is_v a3
  obtain rfl : w3 = (.int i3) := Option.some.inj ei3
  obtain ⟨i4, ei4⟩ := is_v a4
  obtain rfl : w4 = (.int i4) := Option.some.inj ei4
  obtain ⟨t, ht⟩ := law_true i0 i1 i2 i3 i4
  have C : Call PP m27 [.int i0, .int i1, .int i2, .int i3, .int i4] (none, []) (some (.int ((1 : Int32), t).1), (none, [(11, ((1 : Int32), t).2)])) := call_of_go pl_1 rfl (fun h => by cases h) (law_ok i0 i1 i2 i3 i4 _ ht)
  obtain ⟨n, o, h1, h2, h3, _, L, rfl, ⟨rfl, N, _⟩, hq⟩ := C l s _ tables_1 0 s.heap.size s.heap.size s.heap hw (facts1 hw) (Nat.le_refl _) (repW_none ..) (by decide) (fun _ => ⟨rfl, rfl, rfl⟩) p e ha hc hk s m _ below hf ((Spec.applies_iff_loose hf).mp happ).1 ⟨rfl, State.Warmed39.refl s, rfl⟩ trivial
  refine ⟨n, _, h1, h2, h3, hpost _ _ _ _ _ _ ⟨Cond.after_iff.mpr rfl, Cond.after_iff.mpr (eq_i res_at (Term.int_eval (1)) rfl), trivial⟩ ⟨hq.1, hq.2.1, (hq.2.2.sift fun y hy => Or.inr (N y hy)).mono (by decide) (by decide)⟩⟩
theorem main_1_1 : Claimed_1_1 := comes_1 fun _ _ _ _ _ _ h hF => ⟨h.1, hF⟩
theorem main_1_2 : Claimed_1_2 := comes_1 fun _ _ _ _ _ _ h hF => ⟨h.2.1, hF⟩
end Jvm.Pilot.@@N@@
namespace Jvm.Pilot.@@N@@
open Jvm Jvm.ClassFile Sem Op Lib Jvm.Free Jvm.Stand Jvm.Pilot.@@N@@.Jvm.D
/-! MADE BY PROGRAM (witnessworld.py) out of the Statement's table words and the real class files: 11 classes; the members and pool entries that the words name. The judged class is class 1, her method 1. -/
namespace start1
open Jvm.ClassFile
def u (s : String) : CpInfo := .utf8 (stringToUtf16 s)
/-- a pool by its gaps: so many unusable entries, then the entry; so many at the end -/
def gap : Nat → List CpInfo → List CpInfo
  | 0, r => r
  | n + 1, r => .unusable :: gap n r
def poolList (es : List (Nat × CpInfo)) (last : Nat) : List CpInfo := es.foldr (fun e r => gap e.1 (e.2 :: r)) (gap last [])
def pool (es : List (Nat × CpInfo)) (last : Nat) : Array CpInfo := ⟨poolList es last⟩
def fileOf (pool : Array CpInfo) (this : Nat) (attrs : Array Attribute := #[]) (ms : Array MethodInfo := #[]) (fl : Nat := 33) (sup : Nat := 0) (ifs : Array Nat := #[]) (fds : Array FieldInfo := #[]) : ClassFile where
  minorVersion := 0
  majorVersion := 65
  constantPool := pool
  accessFlags := fl
  thisClass := this
  superClass := sup
  interfaces := ifs
  fields := fds
  methods := ms
  attributes := attrs
def plain (name : String) (sup : Option ClassId) : Class where
  name := name
  kind := .ordinary
  loader := none
  accessFlags := 33
  super := sup
  interfaces := #[]
  cf := none
  fields := #[]
  methods := #[]
  instanceTypes := #[]
  staticTypes := #[]
  resolved := #[]
  callSites := []
  init := .initialized
  statics := none
  mirror := none

def pool0 : Array CpInfo := pool [(5, u "<init>"), (0, u "()V"), (1, .class_ 10), (1, u "java/lang/Object")] 113

def k0c0 : Code := { maxStack := 0, maxLocals := 1, code := object_method_1_code, exceptionTable := #[], attributes := #[] }
def k0m0 : Method := { name := "<init>", desc := "()V", sig := { parameters := [], returnType := none }, accessFlags := 1, code := some k0c0 }
/-- java/lang/Object -/
def k0 : Class := { plain "java/lang/Object" none with
  accessFlags := 33
  interfaces := #[]
  cf := some (fileOf pool0 8 #[] #[{ accessFlags := 1, nameIndex := 5, descriptorIndex := 6, attributes := #[] }] 33 0 #[] #[])
  fields := #[]
  methods := #[k0m0]
  instanceTypes := #[]
  staticTypes := #[]
  resolved := Array.replicate 124 none
  statics := none }

def pool1 : Array CpInfo := pool [(2, .class_ 4), (1, u "java/lang/Object"), (0, u "<init>"), (0, u "()V"), (0, .class_ 8), (0, u "DeferredCountY"), (0, .methodref 7 10), (0, .nameAndType 5 11), (0, u "(IIII)V"), (0, .methodref 7 13), (0, .nameAndType 14 15), (0, u "alloc"), (0, u "()I"), (0, .methodref 7 17), (0, .nameAndType 18 19), (0, u "field"), (0, u "(II)I"), (0, .methodref 7 21), (0, .nameAndType 22 23), (0, u "root"), (0, u "(I)I"), (0, .methodref 7 25), (0, .nameAndType 26 15), (0, u "reconciliations"), (0, .methodref 7 28), (0, .nameAndType 29 15), (0, u "tableSize"), (0, .methodref 7 31), (0, .nameAndType 32 15), (0, u "liveCount"), (0, .class_ 34), (0, u "DeferredCountYL1"), (2, u "law"), (0, u "(IIIII)Z")] 3

def k1m0 : Method := { name := "<init>", desc := "()V", sig := { parameters := [], returnType := none }, accessFlags := 1, code := none }
def k1c1 : Code := { maxStack := 6, maxLocals := 15, code := code, exceptionTable := #[], attributes := #[] }
def k1m1 : Method := { name := "law", desc := "(IIIII)Z", sig := { parameters := [.int, .int, .int, .int, .int], returnType := some .boolean }, accessFlags := 9, code := some k1c1 }
/-- DeferredCountYL1 -/
def k1 : Class := { plain "DeferredCountYL1" (some 0) with
  accessFlags := 49
  interfaces := #[]
  cf := some (fileOf pool1 33 #[] #[{ accessFlags := 1, nameIndex := 5, descriptorIndex := 6, attributes := #[] }, { accessFlags := 9, nameIndex := 37, descriptorIndex := 38, attributes := #[] }] 49 2 #[] #[])
  fields := #[]
  methods := #[k1m0, k1m1]
  instanceTypes := #[]
  staticTypes := #[]
  resolved := Array.replicate 42 none
  statics := none }

def pool2 : Array CpInfo := pool [(1, .methodref 2 3), (0, .class_ 4), (0, .nameAndType 5 6), (0, u "java/lang/Object"), (0, u "<init>"), (0, u "()V"), (0, .fieldref 8 9), (0, .class_ 10), (0, .nameAndType 11 12), (0, u "DeferredCountY"), (0, u "live"), (0, u "[Z"), (0, .fieldref 8 14), (0, .nameAndType 15 16), (0, u "cellFields"), (0, u "[I"), (0, .fieldref 8 18), (0, .nameAndType 19 16), (0, u "refs"), (0, .fieldref 8 21), (0, .nameAndType 22 16), (0, u "rootStack"), (0, .fieldref 8 24), (0, .nameAndType 25 16), (0, u "tableIds"), (0, .fieldref 8 27), (0, .nameAndType 28 16), (0, u "tablePos"), (0, .fieldref 8 30), (0, .nameAndType 31 12), (0, u "survivor"), (0, .fieldref 8 33), (0, .nameAndType 34 12), (0, u "rootHeld"), (0, .fieldref 8 36), (0, .nameAndType 37 12), (0, u "queued"), (0, .fieldref 8 39), (0, .nameAndType 40 16), (0, u "holders"), (0, .fieldref 8 42), (0, .nameAndType 43 16), (0, u "work"), (0, .methodref 8 45), (0, .nameAndType 46 47), (0, u "clamp"), (0, u "(III)I"), (0, .fieldref 8 49), (0, .nameAndType 50 51), (0, u "heapCells"), (0, u "I"), (0, .fieldref 8 53), (0, .nameAndType 54 51), (0, u "fieldsPer"), (0, .fieldref 8 56), (0, .nameAndType 57 51), (0, u "rootCap"), (0, .fieldref 8 59), (0, .nameAndType 60 51), (0, u "tableCap"), (0, .methodref 8 62), (0, .nameAndType 63 6), (0, u "resetHeap"), (0, .methodref 8 65), (0, .nameAndType 66 6), (0, u "resetRoots"), (0, .methodref 8 68), (0, .nameAndType 69 6), (0, u "resetTable"), (0, .methodref 8 71), (0, .nameAndType 72 6), (0, u "resetScratch"), (0, .fieldref 8 74), (0, .nameAndType 75 51), (0, u "runs"), (0, .methodref 8 77), (0, .nameAndType 78 79), (0, u "rootsFull"), (0, u "()Z"), (0, .methodref 8 81), (0, .nameAndType 82 79), (0, u "allocNeedsReconcile"), (3, u "()I"), (0, .methodref 8 88), (0, .nameAndType 89 86), (0, u "lowestFreeCell"), (0, .methodref 8 91), (0, .nameAndType 92 93), (0, u "placeNewObject"), (0, u "(I)V"), (3, u "(II)I"), (0, .methodref 8 99), (0, .nameAndType 100 97), (0, u "readField"), (0, .methodref 8 102), (0, .nameAndType 103 93), (0, u "rootPush"), (6, u "(I)I"), (14, .fieldref 8 126), (0, .nameAndType 127 51), (0, u "rootDepth"), (3, .methodref 8 132), (0, .nameAndType 133 134), (0, u "isRootSlot"), (0, u "(I)Z"), (0, .methodref 8 136), (0, .nameAndType 137 134), (0, u "isLiveId"), (0, .methodref 8 139), (0, .nameAndType 140 134), (0, u "isFieldNo"), (3, .fieldref 8 145), (0, .nameAndType 146 51), (0, u "tableLen"), (0, .fieldref 8 148), (0, .nameAndType 149 51), (0, u "liveTotal"), (3, .methodref 8 154), (0, .nameAndType 155 79), (0, u "hasFreeCell"), (0, .methodref 8 157), (0, .nameAndType 158 79), (0, u "tableIsFull"), (0, .methodref 8 160), (0, .nameAndType 161 93), (0, u "bringToLife"), (0, .methodref 8 163), (0, .nameAndType 164 134), (0, u "tableInsert"), (0, .methodref 8 166), (0, .nameAndType 167 134), (0, u "isObjectId"), (33, .fieldref 8 202), (0, .nameAndType 203 51), (0, u "workTop"), (15, .methodref 8 220), (0, .nameAndType 221 93), (0, u "clearCellFields"), (0, u "NIL"), (2, u "OK"), (1, u "ROOTS_FULL"), (1, u "ROOTS_EMPTY"), (1, u "HEAP_FULL"), (1, u "BAD_SLOT"), (1, u "BAD_FIELD"), (1, u "NULL_REF"), (1, u "BAD_OBJECT"), (1, u "MAX_HEAP"), (1, u "MAX_FIELDS"), (1, u "MAX_ROOTS"), (1, u "MAX_TABLE"), (0, u "(IIII)V"), (2, u "alloc"), (7, u "root"), (1, u "field"), (2, u "tableSize"), (0, u "liveCount"), (0, u "reconciliations")] 3

def k2c0 : Code := { maxStack := 4, maxLocals := 6, code := prog_1_method_1_code, exceptionTable := #[], attributes := #[] }
def k2m0 : Method := { name := "<init>", desc := "(IIII)V", sig := { parameters := [.int, .int, .int, .int], returnType := none }, accessFlags := 1, code := some k2c0 }
def k2c1 : Code := { maxStack := 2, maxLocals := 2, code := prog_1_method_2_code, exceptionTable := #[], attributes := #[] }
def k2m1 : Method := { name := "alloc", desc := "()I", sig := { parameters := [], returnType := some .int }, accessFlags := 1, code := some k2c1 }
def k2c2 : Code := { maxStack := 2, maxLocals := 2, code := prog_1_method_9_code, exceptionTable := #[], attributes := #[] }
def k2m2 : Method := { name := "root", desc := "(I)I", sig := { parameters := [.int], returnType := some .int }, accessFlags := 1, code := some k2c2 }
def k2c3 : Code := { maxStack := 3, maxLocals := 3, code := prog_1_method_11_code, exceptionTable := #[], attributes := #[] }
def k2m3 : Method := { name := "field", desc := "(II)I", sig := { parameters := [.int, .int], returnType := some .int }, accessFlags := 1, code := some k2c3 }
def k2c4 : Code := { maxStack := 1, maxLocals := 1, code := prog_1_method_14_code, exceptionTable := #[], attributes := #[] }
def k2m4 : Method := { name := "tableSize", desc := "()I", sig := { parameters := [], returnType := some .int }, accessFlags := 1, code := some k2c4 }
def k2c5 : Code := { maxStack := 1, maxLocals := 1, code := prog_1_method_15_code, exceptionTable := #[], attributes := #[] }
def k2m5 : Method := { name := "liveCount", desc := "()I", sig := { parameters := [], returnType := some .int }, accessFlags := 1, code := some k2c5 }
def k2c6 : Code := { maxStack := 1, maxLocals := 1, code := prog_1_method_16_code, exceptionTable := #[], attributes := #[] }
def k2m6 : Method := { name := "reconciliations", desc := "()I", sig := { parameters := [], returnType := some .int }, accessFlags := 1, code := some k2c6 }
def k2c7 : Code := { maxStack := 1, maxLocals := 1, code := prog_1_method_20_code, exceptionTable := #[], attributes := #[] }
def k2m7 : Method := { name := "allocNeedsReconcile", desc := "()Z", sig := { parameters := [], returnType := some .boolean }, accessFlags := 2, code := some k2c7 }
def k2c8 : Code := { maxStack := 2, maxLocals := 2, code := prog_1_method_21_code, exceptionTable := #[], attributes := #[] }
def k2m8 : Method := { name := "placeNewObject", desc := "(I)V", sig := { parameters := [.int], returnType := none }, accessFlags := 2, code := some k2c8 }
def k2c9 : Code := { maxStack := 2, maxLocals := 1, code := prog_1_method_38_code, exceptionTable := #[], attributes := #[] }
def k2m9 : Method := { name := "hasFreeCell", desc := "()Z", sig := { parameters := [], returnType := some .boolean }, accessFlags := 2, code := some k2c9 }
def k2c10 : Code := { maxStack := 2, maxLocals := 2, code := prog_1_method_39_code, exceptionTable := #[], attributes := #[] }
def k2m10 : Method := { name := "lowestFreeCell", desc := "()I", sig := { parameters := [], returnType := some .int }, accessFlags := 2, code := some k2c10 }
def k2c11 : Code := { maxStack := 3, maxLocals := 2, code := prog_1_method_40_code, exceptionTable := #[], attributes := #[] }
def k2m11 : Method := { name := "bringToLife", desc := "(I)V", sig := { parameters := [.int], returnType := none }, accessFlags := 2, code := some k2c11 }
def k2c12 : Code := { maxStack := 3, maxLocals := 4, code := prog_1_method_42_code, exceptionTable := #[], attributes := #[] }
def k2m12 : Method := { name := "clearCellFields", desc := "(I)V", sig := { parameters := [.int], returnType := none }, accessFlags := 2, code := some k2c12 }
def k2c13 : Code := { maxStack := 3, maxLocals := 3, code := prog_1_method_43_code, exceptionTable := #[], attributes := #[] }
def k2m13 : Method := { name := "readField", desc := "(II)I", sig := { parameters := [.int, .int], returnType := some .int }, accessFlags := 2, code := some k2c13 }
def k2c14 : Code := { maxStack := 2, maxLocals := 1, code := prog_1_method_47_code, exceptionTable := #[], attributes := #[] }
def k2m14 : Method := { name := "rootsFull", desc := "()Z", sig := { parameters := [], returnType := some .boolean }, accessFlags := 2, code := some k2c14 }
def k2c15 : Code := { maxStack := 3, maxLocals := 2, code := prog_1_method_48_code, exceptionTable := #[], attributes := #[] }
def k2m15 : Method := { name := "rootPush", desc := "(I)V", sig := { parameters := [.int], returnType := none }, accessFlags := 2, code := some k2c15 }
def k2c16 : Code := { maxStack := 2, maxLocals := 1, code := prog_1_method_52_code, exceptionTable := #[], attributes := #[] }
def k2m16 : Method := { name := "tableIsFull", desc := "()Z", sig := { parameters := [], returnType := some .boolean }, accessFlags := 2, code := some k2c16 }
def k2c17 : Code := { maxStack := 3, maxLocals := 2, code := prog_1_method_53_code, exceptionTable := #[], attributes := #[] }
def k2m17 : Method := { name := "tableInsert", desc := "(I)Z", sig := { parameters := [.int], returnType := some .boolean }, accessFlags := 2, code := some k2c17 }
def k2c18 : Code := { maxStack := 3, maxLocals := 2, code := prog_1_method_54_code, exceptionTable := #[], attributes := #[] }
def k2m18 : Method := { name := "resetHeap", desc := "()V", sig := { parameters := [], returnType := none }, accessFlags := 2, code := some k2c18 }
def k2c19 : Code := { maxStack := 3, maxLocals := 2, code := prog_1_method_55_code, exceptionTable := #[], attributes := #[] }
def k2m19 : Method := { name := "resetRoots", desc := "()V", sig := { parameters := [], returnType := none }, accessFlags := 2, code := some k2c19 }
def k2c20 : Code := { maxStack := 3, maxLocals := 2, code := prog_1_method_56_code, exceptionTable := #[], attributes := #[] }
def k2m20 : Method := { name := "resetTable", desc := "()V", sig := { parameters := [], returnType := none }, accessFlags := 2, code := some k2c20 }
def k2c21 : Code := { maxStack := 3, maxLocals := 2, code := prog_1_method_57_code, exceptionTable := #[], attributes := #[] }
def k2m21 : Method := { name := "resetScratch", desc := "()V", sig := { parameters := [], returnType := none }, accessFlags := 2, code := some k2c21 }
def k2c22 : Code := { maxStack := 2, maxLocals := 3, code := prog_1_method_58_code, exceptionTable := #[], attributes := #[] }
def k2m22 : Method := { name := "clamp", desc := "(III)I", sig := { parameters := [.int, .int, .int], returnType := some .int }, accessFlags := 10, code := some k2c22 }
def k2c23 : Code := { maxStack := 2, maxLocals := 2, code := prog_1_method_59_code, exceptionTable := #[], attributes := #[] }
def k2m23 : Method := { name := "isObjectId", desc := "(I)Z", sig := { parameters := [.int], returnType := some .boolean }, accessFlags := 2, code := some k2c23 }
def k2c24 : Code := { maxStack := 2, maxLocals := 2, code := prog_1_method_60_code, exceptionTable := #[], attributes := #[] }
def k2m24 : Method := { name := "isLiveId", desc := "(I)Z", sig := { parameters := [.int], returnType := some .boolean }, accessFlags := 2, code := some k2c24 }
def k2c25 : Code := { maxStack := 2, maxLocals := 2, code := prog_1_method_61_code, exceptionTable := #[], attributes := #[] }
def k2m25 : Method := { name := "isFieldNo", desc := "(I)Z", sig := { parameters := [.int], returnType := some .boolean }, accessFlags := 2, code := some k2c25 }
def k2c26 : Code := { maxStack := 2, maxLocals := 2, code := prog_1_method_62_code, exceptionTable := #[], attributes := #[] }
def k2m26 : Method := { name := "isRootSlot", desc := "(I)Z", sig := { parameters := [.int], returnType := some .boolean }, accessFlags := 2, code := some k2c26 }
/-- DeferredCountY -/
def k2 : Class := { plain "DeferredCountY" (some 0) with
  accessFlags := 49
  interfaces := #[]
  cf := some (fileOf pool2 8 #[] #[{ accessFlags := 1, nameIndex := 5, descriptorIndex := 248, attributes := #[] }, { accessFlags := 1, nameIndex := 251, descriptorIndex := 86, attributes := #[] }, { accessFlags := 1, nameIndex := 259, descriptorIndex := 110, attributes := #[] }, { accessFlags := 1, nameIndex := 261, descriptorIndex := 97, attributes := #[] }, { accessFlags := 1, nameIndex := 264, descriptorIndex := 86, attributes := #[] }, { accessFlags := 1, nameIndex := 265, descriptorIndex := 86, attributes := #[] }, { accessFlags := 1, nameIndex := 266, descriptorIndex := 86, attributes := #[] }, { accessFlags := 2, nameIndex := 82, descriptorIndex := 79, attributes := #[] }, { accessFlags := 2, nameIndex := 92, descriptorIndex := 93, attributes := #[] }, { accessFlags := 2, nameIndex := 155, descriptorIndex := 79, attributes := #[] }, { accessFlags := 2, nameIndex := 89, descriptorIndex := 86, attributes := #[] }, { accessFlags := 2, nameIndex := 161, descriptorIndex := 93, attributes := #[] }, { accessFlags := 2, nameIndex := 221, descriptorIndex := 93, attributes := #[] }, { accessFlags := 2, nameIndex := 100, descriptorIndex := 97, attributes := #[] }, { accessFlags := 2, nameIndex := 78, descriptorIndex := 79, attributes := #[] }, { accessFlags := 2, nameIndex := 103, descriptorIndex := 93, attributes := #[] }, { accessFlags := 2, nameIndex := 158, descriptorIndex := 79, attributes := #[] }, { accessFlags := 2, nameIndex := 164, descriptorIndex := 134, attributes := #[] }, { accessFlags := 2, nameIndex := 63, descriptorIndex := 6, attributes := #[] }, { accessFlags := 2, nameIndex := 66, descriptorIndex := 6, attributes := #[] }, { accessFlags := 2, nameIndex := 69, descriptorIndex := 6, attributes := #[] }, { accessFlags := 2, nameIndex := 72, descriptorIndex := 6, attributes := #[] }, { accessFlags := 10, nameIndex := 46, descriptorIndex := 47, attributes := #[] }, { accessFlags := 2, nameIndex := 167, descriptorIndex := 134, attributes := #[] }, { accessFlags := 2, nameIndex := 137, descriptorIndex := 134, attributes := #[] }, { accessFlags := 2, nameIndex := 140, descriptorIndex := 134, attributes := #[] }, { accessFlags := 2, nameIndex := 133, descriptorIndex := 134, attributes := #[] }] 49 2 #[] #[{ accessFlags := 25, nameIndex := 222, descriptorIndex := 51, attributes := #[] }, { accessFlags := 25, nameIndex := 225, descriptorIndex := 51, attributes := #[] }, { accessFlags := 25, nameIndex := 227, descriptorIndex := 51, attributes := #[] }, { accessFlags := 25, nameIndex := 229, descriptorIndex := 51, attributes := #[] }, { accessFlags := 25, nameIndex := 231, descriptorIndex := 51, attributes := #[] }, { accessFlags := 25, nameIndex := 233, descriptorIndex := 51, attributes := #[] }, { accessFlags := 25, nameIndex := 235, descriptorIndex := 51, attributes := #[] }, { accessFlags := 25, nameIndex := 237, descriptorIndex := 51, attributes := #[] }, { accessFlags := 25, nameIndex := 239, descriptorIndex := 51, attributes := #[] }, { accessFlags := 25, nameIndex := 241, descriptorIndex := 51, attributes := #[] }, { accessFlags := 25, nameIndex := 243, descriptorIndex := 51, attributes := #[] }, { accessFlags := 25, nameIndex := 245, descriptorIndex := 51, attributes := #[] }, { accessFlags := 25, nameIndex := 247, descriptorIndex := 51, attributes := #[] }, { accessFlags := 2, nameIndex := 50, descriptorIndex := 51, attributes := #[] }, { accessFlags := 2, nameIndex := 54, descriptorIndex := 51, attributes := #[] }, { accessFlags := 2, nameIndex := 57, descriptorIndex := 51, attributes := #[] }, { accessFlags := 2, nameIndex := 60, descriptorIndex := 51, attributes := #[] }, { accessFlags := 2, nameIndex := 11, descriptorIndex := 12, attributes := #[] }, { accessFlags := 2, nameIndex := 15, descriptorIndex := 16, attributes := #[] }, { accessFlags := 2, nameIndex := 19, descriptorIndex := 16, attributes := #[] }, { accessFlags := 2, nameIndex := 149, descriptorIndex := 51, attributes := #[] }, { accessFlags := 2, nameIndex := 22, descriptorIndex := 16, attributes := #[] }, { accessFlags := 2, nameIndex := 127, descriptorIndex := 51, attributes := #[] }, { accessFlags := 2, nameIndex := 25, descriptorIndex := 16, attributes := #[] }, { accessFlags := 2, nameIndex := 28, descriptorIndex := 16, attributes := #[] }, { accessFlags := 2, nameIndex := 146, descriptorIndex := 51, attributes := #[] }, { accessFlags := 2, nameIndex := 75, descriptorIndex := 51, attributes := #[] }, { accessFlags := 2, nameIndex := 31, descriptorIndex := 12, attributes := #[] }, { accessFlags := 2, nameIndex := 34, descriptorIndex := 12, attributes := #[] }, { accessFlags := 2, nameIndex := 37, descriptorIndex := 12, attributes := #[] }, { accessFlags := 2, nameIndex := 40, descriptorIndex := 16, attributes := #[] }, { accessFlags := 2, nameIndex := 43, descriptorIndex := 16, attributes := #[] }, { accessFlags := 2, nameIndex := 203, descriptorIndex := 51, attributes := #[] }])
  fields := #[{ name := "NIL", type := .int, accessFlags := 25, slot := 0, constantValue := 0 }, { name := "OK", type := .int, accessFlags := 25, slot := 1, constantValue := 0 }, { name := "ROOTS_FULL", type := .int, accessFlags := 25, slot := 2, constantValue := 0 }, { name := "ROOTS_EMPTY", type := .int, accessFlags := 25, slot := 3, constantValue := 0 }, { name := "HEAP_FULL", type := .int, accessFlags := 25, slot := 4, constantValue := 0 }, { name := "BAD_SLOT", type := .int, accessFlags := 25, slot := 5, constantValue := 0 }, { name := "BAD_FIELD", type := .int, accessFlags := 25, slot := 6, constantValue := 0 }, { name := "NULL_REF", type := .int, accessFlags := 25, slot := 7, constantValue := 0 }, { name := "BAD_OBJECT", type := .int, accessFlags := 25, slot := 8, constantValue := 0 }, { name := "MAX_HEAP", type := .int, accessFlags := 25, slot := 9, constantValue := 0 }, { name := "MAX_FIELDS", type := .int, accessFlags := 25, slot := 10, constantValue := 0 }, { name := "MAX_ROOTS", type := .int, accessFlags := 25, slot := 11, constantValue := 0 }, { name := "MAX_TABLE", type := .int, accessFlags := 25, slot := 12, constantValue := 0 }, { name := "heapCells", type := .int, accessFlags := 2, slot := 0, constantValue := 0 }, { name := "fieldsPer", type := .int, accessFlags := 2, slot := 1, constantValue := 0 }, { name := "rootCap", type := .int, accessFlags := 2, slot := 2, constantValue := 0 }, { name := "tableCap", type := .int, accessFlags := 2, slot := 3, constantValue := 0 }, { name := "live", type := (.array .boolean), accessFlags := 2, slot := 4, constantValue := 0 }, { name := "cellFields", type := (.array .int), accessFlags := 2, slot := 5, constantValue := 0 }, { name := "refs", type := (.array .int), accessFlags := 2, slot := 6, constantValue := 0 }, { name := "liveTotal", type := .int, accessFlags := 2, slot := 7, constantValue := 0 }, { name := "rootStack", type := (.array .int), accessFlags := 2, slot := 8, constantValue := 0 }, { name := "rootDepth", type := .int, accessFlags := 2, slot := 9, constantValue := 0 }, { name := "tableIds", type := (.array .int), accessFlags := 2, slot := 10, constantValue := 0 }, { name := "tablePos", type := (.array .int), accessFlags := 2, slot := 11, constantValue := 0 }, { name := "tableLen", type := .int, accessFlags := 2, slot := 12, constantValue := 0 }, { name := "runs", type := .int, accessFlags := 2, slot := 13, constantValue := 0 }, { name := "survivor", type := (.array .boolean), accessFlags := 2, slot := 14, constantValue := 0 }, { name := "rootHeld", type := (.array .boolean), accessFlags := 2, slot := 15, constantValue := 0 }, { name := "queued", type := (.array .boolean), accessFlags := 2, slot := 16, constantValue := 0 }, { name := "holders", type := (.array .int), accessFlags := 2, slot := 17, constantValue := 0 }, { name := "work", type := (.array .int), accessFlags := 2, slot := 18, constantValue := 0 }, { name := "workTop", type := .int, accessFlags := 2, slot := 19, constantValue := 0 }]
  methods := #[k2m0, k2m1, k2m2, k2m3, k2m4, k2m5, k2m6, k2m7, k2m8, k2m9, k2m10, k2m11, k2m12, k2m13, k2m14, k2m15, k2m16, k2m17, k2m18, k2m19, k2m20, k2m21, k2m22, k2m23, k2m24, k2m25, k2m26]
  instanceTypes := #[.int, .int, .int, .int, (.array .boolean), (.array .int), (.array .int), .int, (.array .int), .int, (.array .int), (.array .int), .int, .int, (.array .boolean), (.array .boolean), (.array .boolean), (.array .int), (.array .int), .int]
  staticTypes := #[.int, .int, .int, .int, .int, .int, .int, .int, .int, .int, .int, .int, .int]
  resolved := Array.replicate 270 none
  statics := none }

def pool3 : Array CpInfo := pool [(1, u "java/lang/Cloneable"), (0, .class_ 1), (0, u "java/lang/Object"), (0, .class_ 3)] 3

/-- java/lang/Cloneable -/
def k3 : Class := { plain "java/lang/Cloneable" (some 0) with
  accessFlags := 1537
  interfaces := #[]
  cf := some (fileOf pool3 2 #[] #[] 1537 4 #[] #[])
  fields := #[]
  methods := #[]
  instanceTypes := #[]
  staticTypes := #[]
  resolved := Array.replicate 8 none
  statics := none }

def pool4 : Array CpInfo := pool [(1, u "java/io/Serializable"), (0, .class_ 1), (0, u "java/lang/Object"), (0, .class_ 3)] 3

/-- java/io/Serializable -/
def k4 : Class := { plain "java/io/Serializable" (some 0) with
  accessFlags := 1537
  interfaces := #[]
  cf := some (fileOf pool4 2 #[] #[] 1537 4 #[] #[])
  fields := #[]
  methods := #[]
  instanceTypes := #[]
  staticTypes := #[]
  resolved := Array.replicate 8 none
  statics := none }

/-- the primitive boolean -/
def k5 : Class := { plain "boolean" none with kind := .primitive 'Z', accessFlags := 0x411 }
/-- [Z -/
def k6 : Class := { plain "[Z" (some 0) with kind := .array 5 .boolean, interfaces := #[3, 4], accessFlags := 1041 }

/-- the primitive byte -/
def k7 : Class := { plain "byte" none with kind := .primitive 'B', accessFlags := 0x411 }
/-- [B -/
def k8 : Class := { plain "[B" (some 0) with kind := .array 7 .byte, interfaces := #[3, 4], accessFlags := 1041 }

/-- the primitive int -/
def k9 : Class := { plain "int" none with kind := .primitive 'I', accessFlags := 0x411 }
/-- [I -/
def k10 : Class := { plain "[I" (some 0) with kind := .array 9 .int, interfaces := #[3, 4], accessFlags := 1041 }

def heap : Heap := #[]
def classes : Array Class := #[k0, k1, k2, k3, k4, k5, k6, k7, k8, k9, k10]
def interned : List (Array UInt16 × Addr) := []
def slotsUsed : Nat := 0
def theMethod : MethodId := ⟨1, 1⟩
def args0 : Array Value := #[.int 5, .int 5, .int 5, .int 5, .int 5]
def aboutOver (below : List Frame) : State where
  vm := { classes := classes, interned := interned.toArray }
  heap := heap
  slotsUsed := slotsUsed
  threads := #[{ frames := .invoking theMethod args0 :: below }]
def below0 : List Frame := [.native { method := ⟨0, 0⟩, args := #[] }]
def about1 : State := aboutOver below0
def p0 : Program := .bare "" "" ""
def e0 : Env := launch0.env 0 0 0
theorem w_frames : about1.frames = Frame.invoking theMethod args0 :: below0 := rfl
set_option maxRecDepth 65536 in
theorem w_args : argsFit about1.vm theMethod args0 = true := by decide +kernel
set_option maxRecDepth 65536 in
theorem w_heap : heapFits about1 = true := by decide +kernel
set_option maxRecDepth 65536 in
theorem w_runnable : about1.curStatus? = some .runnable := by decide +kernel
set_option maxRecDepth 65536 in
theorem w_alone : about1.alone = true := by decide +kernel
set_option maxRecDepth 65536 in
theorem w_named : about1.methodNamed? x = some theMethod := by decide +kernel
set_option maxRecDepth 65536 in
theorem w_hears : about1.hears theMethod below0 = true := by decide +kernel
set_option maxRecDepth 65536 in
theorem w_ripe : about1.ripe theMethod args0 below0 = true := by decide +kernel
theorem w_running : about1.status = .running := rfl
set_option maxRecDepth 65536 in
theorem w_room : about1.hasRoom e0.platform room_1 = true :=
  launch0.hasRoom_least _ room_1 (by decide +kernel) (by decide +kernel) (by decide +kernel) (by decide +kernel) (by decide +kernel) (by decide +kernel)
theorem allAtoms_all (ts : List Jvm.Cond) (a : Array Jvm.Value) (st : Jvm.State) : (allAtoms ts).before a st = ts.all (fun c => c.before a st) := by
  induction ts with
  | nil => rfl
  | cons c t ih =>
    show (Jvm.Cond.and c (allAtoms t)).before a st = _
    rw [Jvm.Cond.before_and, ih, List.all_cons]
def words1 : List Jvm.Cond := Jvm.Cond.code x code maxLocals ret :: tables_1
/-- a 'code' word, met by the world's own term for the bytes: nothing is compared byte by byte -/
theorem code_word {y : MethodName} {bytes : ByteArray} {mx : Nat} {rt : Option FieldType} {a : Array Value} {s : State} {m : MethodId} {meth : Method} {c : Code} (h1 : s.methodNamed? y = some m) (h2 : s.vm.method? m = some meth) (h3 : meth.code = some c) (h4 : c.code = bytes)
    (h5 : (c.maxLocals == mx && c.exceptionTable.isEmpty && decide (c.maxStack ≤ mostOperands) && decide (meth.sig.returnType = rt) && !meth.locks && decide (parseMethodDescriptor y.desc = some meth.sig)) = true) : (Jvm.Cond.code y bytes mx rt).before a s = true := by
  simp only [Bool.and_eq_true, beq_iff_eq, Bool.not_eq_true', decide_eq_true_eq] at h5
  obtain ⟨⟨⟨⟨⟨g1, g2⟩, g3⟩, g4⟩, g5⟩, g6⟩ := h5
  simp [Cond.before, Cond.holds, Cond.value, h1, h2, h3, h4, g1, g2, g3, g4, g5, g6]
def isCode : Jvm.Cond → Bool
  | .code _ _ _ _ => true
  | _ => false
theorem all_split {L : List Jvm.Cond} {P : Jvm.Cond → Bool} (h1 : L.all (fun c => isCode c || P c) = true) (h2 : ∀ c ∈ L.filter isCode, P c = true) : L.all P = true := by
  refine List.all_eq_true.mpr fun c hc => ?_
  have h := List.all_eq_true.mp h1 c hc
  rcases Bool.eq_false_or_eq_true (isCode c) with hi | hi
  · exact h2 c (List.mem_filter.mpr ⟨hc, hi⟩)
  · simpa [hi] using h
set_option maxRecDepth 65536 in
theorem w_c0 : (Jvm.Cond.code x code maxLocals ret).before args0 about1 = true := code_word (m := ⟨1, 1⟩) (meth := k1m1) (c := k1c1) (by decide +kernel) rfl rfl rfl (by decide +kernel)
set_option maxRecDepth 65536 in
theorem w_c1 : (Jvm.Cond.code ({ cls := "DeferredCountY", name := "<init>", desc := "(IIII)V" } : Jvm.MethodName) prog_1_method_1_code (6 : Nat) (Option.none : Option Jvm.ClassFile.FieldType)).before args0 about1 = true := code_word (m := ⟨2, 0⟩) (meth := k2m0) (c := k2c0) (by decide +kernel) rfl rfl rfl (by decide +kernel)
set_option maxRecDepth 65536 in
theorem w_c2 : (Jvm.Cond.code ({ cls := "java/lang/Object", name := "<init>", desc := "()V" } : Jvm.MethodName) object_method_1_code (1 : Nat) (Option.none : Option Jvm.ClassFile.FieldType)).before args0 about1 = true := code_word (m := ⟨0, 0⟩) (meth := k0m0) (c := k0c0) (by decide +kernel) rfl rfl rfl (by decide +kernel)
set_option maxRecDepth 65536 in
theorem w_c3 : (Jvm.Cond.code ({ cls := "DeferredCountY", name := "clamp", desc := "(III)I" } : Jvm.MethodName) prog_1_method_58_code (3 : Nat) (Option.some Jvm.ClassFile.FieldType.int)).before args0 about1 = true := code_word (m := ⟨2, 22⟩) (meth := k2m22) (c := k2c22) (by decide +kernel) rfl rfl rfl (by decide +kernel)
set_option maxRecDepth 65536 in
theorem w_c4 : (Jvm.Cond.code ({ cls := "DeferredCountY", name := "resetHeap", desc := "()V" } : Jvm.MethodName) prog_1_method_54_code (2 : Nat) (Option.none : Option Jvm.ClassFile.FieldType)).before args0 about1 = true := code_word (m := ⟨2, 18⟩) (meth := k2m18) (c := k2c18) (by decide +kernel) rfl rfl rfl (by decide +kernel)
set_option maxRecDepth 65536 in
theorem w_c5 : (Jvm.Cond.code ({ cls := "DeferredCountY", name := "clearCellFields", desc := "(I)V" } : Jvm.MethodName) prog_1_method_42_code (4 : Nat) (Option.none : Option Jvm.ClassFile.FieldType)).before args0 about1 = true := code_word (m := ⟨2, 12⟩) (meth := k2m12) (c := k2c12) (by decide +kernel) rfl rfl rfl (by decide +kernel)
set_option maxRecDepth 65536 in
theorem w_c6 : (Jvm.Cond.code ({ cls := "DeferredCountY", name := "resetRoots", desc := "()V" } : Jvm.MethodName) prog_1_method_55_code (2 : Nat) (Option.none : Option Jvm.ClassFile.FieldType)).before args0 about1 = true := code_word (m := ⟨2, 19⟩) (meth := k2m19) (c := k2c19) (by decide +kernel) rfl rfl rfl (by decide +kernel)
set_option maxRecDepth 65536 in
theorem w_c7 : (Jvm.Cond.code ({ cls := "DeferredCountY", name := "resetTable", desc := "()V" } : Jvm.MethodName) prog_1_method_56_code (2 : Nat) (Option.none : Option Jvm.ClassFile.FieldType)).before args0 about1 = true := code_word (m := ⟨2, 20⟩) (meth := k2m20) (c := k2c20) (by decide +kernel) rfl rfl rfl (by decide +kernel)
set_option maxRecDepth 65536 in
theorem w_c8 : (Jvm.Cond.code ({ cls := "DeferredCountY", name := "resetScratch", desc := "()V" } : Jvm.MethodName) prog_1_method_57_code (2 : Nat) (Option.none : Option Jvm.ClassFile.FieldType)).before args0 about1 = true := code_word (m := ⟨2, 21⟩) (meth := k2m21) (c := k2c21) (by decide +kernel) rfl rfl rfl (by decide +kernel)
set_option maxRecDepth 65536 in
theorem w_c9 : (Jvm.Cond.code ({ cls := "DeferredCountY", name := "alloc", desc := "()I" } : Jvm.MethodName) prog_1_method_2_code (2 : Nat) (Option.some Jvm.ClassFile.FieldType.int)).before args0 about1 = true := code_word (m := ⟨2, 1⟩) (meth := k2m1) (c := k2c1) (by decide +kernel) rfl rfl rfl (by decide +kernel)
set_option maxRecDepth 65536 in
theorem w_c10 : (Jvm.Cond.code ({ cls := "DeferredCountY", name := "rootsFull", desc := "()Z" } : Jvm.MethodName) prog_1_method_47_code (1 : Nat) (Option.some Jvm.ClassFile.FieldType.boolean)).before args0 about1 = true := code_word (m := ⟨2, 14⟩) (meth := k2m14) (c := k2c14) (by decide +kernel) rfl rfl rfl (by decide +kernel)
set_option maxRecDepth 65536 in
theorem w_c11 : (Jvm.Cond.code ({ cls := "DeferredCountY", name := "allocNeedsReconcile", desc := "()Z" } : Jvm.MethodName) prog_1_method_20_code (1 : Nat) (Option.some Jvm.ClassFile.FieldType.boolean)).before args0 about1 = true := code_word (m := ⟨2, 7⟩) (meth := k2m7) (c := k2c7) (by decide +kernel) rfl rfl rfl (by decide +kernel)
set_option maxRecDepth 65536 in
theorem w_c12 : (Jvm.Cond.code ({ cls := "DeferredCountY", name := "hasFreeCell", desc := "()Z" } : Jvm.MethodName) prog_1_method_38_code (1 : Nat) (Option.some Jvm.ClassFile.FieldType.boolean)).before args0 about1 = true := code_word (m := ⟨2, 9⟩) (meth := k2m9) (c := k2c9) (by decide +kernel) rfl rfl rfl (by decide +kernel)
set_option maxRecDepth 65536 in
theorem w_c13 : (Jvm.Cond.code ({ cls := "DeferredCountY", name := "tableIsFull", desc := "()Z" } : Jvm.MethodName) prog_1_method_52_code (1 : Nat) (Option.some Jvm.ClassFile.FieldType.boolean)).before args0 about1 = true := code_word (m := ⟨2, 16⟩) (meth := k2m16) (c := k2c16) (by decide +kernel) rfl rfl rfl (by decide +kernel)
set_option maxRecDepth 65536 in
theorem w_c14 : (Jvm.Cond.code ({ cls := "DeferredCountY", name := "lowestFreeCell", desc := "()I" } : Jvm.MethodName) prog_1_method_39_code (2 : Nat) (Option.some Jvm.ClassFile.FieldType.int)).before args0 about1 = true := code_word (m := ⟨2, 10⟩) (meth := k2m10) (c := k2c10) (by decide +kernel) rfl rfl rfl (by decide +kernel)
set_option maxRecDepth 65536 in
theorem w_c15 : (Jvm.Cond.code ({ cls := "DeferredCountY", name := "placeNewObject", desc := "(I)V" } : Jvm.MethodName) prog_1_method_21_code (2 : Nat) (Option.none : Option Jvm.ClassFile.FieldType)).before args0 about1 = true := code_word (m := ⟨2, 8⟩) (meth := k2m8) (c := k2c8) (by decide +kernel) rfl rfl rfl (by decide +kernel)
set_option maxRecDepth 65536 in
theorem w_c16 : (Jvm.Cond.code ({ cls := "DeferredCountY", name := "bringToLife", desc := "(I)V" } : Jvm.MethodName) prog_1_method_40_code (2 : Nat) (Option.none : Option Jvm.ClassFile.FieldType)).before args0 about1 = true := code_word (m := ⟨2, 11⟩) (meth := k2m11) (c := k2c11) (by decide +kernel) rfl rfl rfl (by decide +kernel)
set_option maxRecDepth 65536 in
theorem w_c17 : (Jvm.Cond.code ({ cls := "DeferredCountY", name := "isObjectId", desc := "(I)Z" } : Jvm.MethodName) prog_1_method_59_code (2 : Nat) (Option.some Jvm.ClassFile.FieldType.boolean)).before args0 about1 = true := code_word (m := ⟨2, 23⟩) (meth := k2m23) (c := k2c23) (by decide +kernel) rfl rfl rfl (by decide +kernel)
set_option maxRecDepth 65536 in
theorem w_c18 : (Jvm.Cond.code ({ cls := "DeferredCountY", name := "tableInsert", desc := "(I)Z" } : Jvm.MethodName) prog_1_method_53_code (2 : Nat) (Option.some Jvm.ClassFile.FieldType.boolean)).before args0 about1 = true := code_word (m := ⟨2, 17⟩) (meth := k2m17) (c := k2c17) (by decide +kernel) rfl rfl rfl (by decide +kernel)
set_option maxRecDepth 65536 in
theorem w_c19 : (Jvm.Cond.code ({ cls := "DeferredCountY", name := "rootPush", desc := "(I)V" } : Jvm.MethodName) prog_1_method_48_code (2 : Nat) (Option.none : Option Jvm.ClassFile.FieldType)).before args0 about1 = true := code_word (m := ⟨2, 15⟩) (meth := k2m15) (c := k2c15) (by decide +kernel) rfl rfl rfl (by decide +kernel)
set_option maxRecDepth 65536 in
theorem w_c20 : (Jvm.Cond.code ({ cls := "DeferredCountY", name := "field", desc := "(II)I" } : Jvm.MethodName) prog_1_method_11_code (3 : Nat) (Option.some Jvm.ClassFile.FieldType.int)).before args0 about1 = true := code_word (m := ⟨2, 3⟩) (meth := k2m3) (c := k2c3) (by decide +kernel) rfl rfl rfl (by decide +kernel)
set_option maxRecDepth 65536 in
theorem w_c21 : (Jvm.Cond.code ({ cls := "DeferredCountY", name := "isLiveId", desc := "(I)Z" } : Jvm.MethodName) prog_1_method_60_code (2 : Nat) (Option.some Jvm.ClassFile.FieldType.boolean)).before args0 about1 = true := code_word (m := ⟨2, 24⟩) (meth := k2m24) (c := k2c24) (by decide +kernel) rfl rfl rfl (by decide +kernel)
set_option maxRecDepth 65536 in
theorem w_c22 : (Jvm.Cond.code ({ cls := "DeferredCountY", name := "isFieldNo", desc := "(I)Z" } : Jvm.MethodName) prog_1_method_61_code (2 : Nat) (Option.some Jvm.ClassFile.FieldType.boolean)).before args0 about1 = true := code_word (m := ⟨2, 25⟩) (meth := k2m25) (c := k2c25) (by decide +kernel) rfl rfl rfl (by decide +kernel)
set_option maxRecDepth 65536 in
theorem w_c23 : (Jvm.Cond.code ({ cls := "DeferredCountY", name := "readField", desc := "(II)I" } : Jvm.MethodName) prog_1_method_43_code (3 : Nat) (Option.some Jvm.ClassFile.FieldType.int)).before args0 about1 = true := code_word (m := ⟨2, 13⟩) (meth := k2m13) (c := k2c13) (by decide +kernel) rfl rfl rfl (by decide +kernel)
set_option maxRecDepth 65536 in
theorem w_c24 : (Jvm.Cond.code ({ cls := "DeferredCountY", name := "root", desc := "(I)I" } : Jvm.MethodName) prog_1_method_9_code (2 : Nat) (Option.some Jvm.ClassFile.FieldType.int)).before args0 about1 = true := code_word (m := ⟨2, 2⟩) (meth := k2m2) (c := k2c2) (by decide +kernel) rfl rfl rfl (by decide +kernel)
set_option maxRecDepth 65536 in
theorem w_c25 : (Jvm.Cond.code ({ cls := "DeferredCountY", name := "isRootSlot", desc := "(I)Z" } : Jvm.MethodName) prog_1_method_62_code (2 : Nat) (Option.some Jvm.ClassFile.FieldType.boolean)).before args0 about1 = true := code_word (m := ⟨2, 26⟩) (meth := k2m26) (c := k2c26) (by decide +kernel) rfl rfl rfl (by decide +kernel)
set_option maxRecDepth 65536 in
theorem w_c26 : (Jvm.Cond.code ({ cls := "DeferredCountY", name := "reconciliations", desc := "()I" } : Jvm.MethodName) prog_1_method_16_code (1 : Nat) (Option.some Jvm.ClassFile.FieldType.int)).before args0 about1 = true := code_word (m := ⟨2, 6⟩) (meth := k2m6) (c := k2c6) (by decide +kernel) rfl rfl rfl (by decide +kernel)
set_option maxRecDepth 65536 in
theorem w_c27 : (Jvm.Cond.code ({ cls := "DeferredCountY", name := "tableSize", desc := "()I" } : Jvm.MethodName) prog_1_method_14_code (1 : Nat) (Option.some Jvm.ClassFile.FieldType.int)).before args0 about1 = true := code_word (m := ⟨2, 4⟩) (meth := k2m4) (c := k2c4) (by decide +kernel) rfl rfl rfl (by decide +kernel)
set_option maxRecDepth 65536 in
theorem w_c28 : (Jvm.Cond.code ({ cls := "DeferredCountY", name := "liveCount", desc := "()I" } : Jvm.MethodName) prog_1_method_15_code (1 : Nat) (Option.some Jvm.ClassFile.FieldType.int)).before args0 about1 = true := code_word (m := ⟨2, 5⟩) (meth := k2m5) (c := k2c5) (by decide +kernel) rfl rfl rfl (by decide +kernel)
def codes1 : List Jvm.Cond := [Jvm.Cond.code x code maxLocals ret, Jvm.Cond.code ({ cls := "DeferredCountY", name := "<init>", desc := "(IIII)V" } : Jvm.MethodName) prog_1_method_1_code (6 : Nat) (Option.none : Option Jvm.ClassFile.FieldType), Jvm.Cond.code ({ cls := "java/lang/Object", name := "<init>", desc := "()V" } : Jvm.MethodName) object_method_1_code (1 : Nat) (Option.none : Option Jvm.ClassFile.FieldType), Jvm.Cond.code ({ cls := "DeferredCountY", name := "clamp", desc := "(III)I" } : Jvm.MethodName) prog_1_method_58_code (3 : Nat) (Option.some Jvm.ClassFile.FieldType.int), Jvm.Cond.code ({ cls := "DeferredCountY", name := "resetHeap", desc := "()V" } : Jvm.MethodName) prog_1_method_54_code (2 : Nat) (Option.none : Option Jvm.ClassFile.FieldType), Jvm.Cond.code ({ cls := "DeferredCountY", name := "clearCellFields", desc := "(I)V" } : Jvm.MethodName) prog_1_method_42_code (4 : Nat) (Option.none : Option Jvm.ClassFile.FieldType), Jvm.Cond.code ({ cls := "DeferredCountY", name := "resetRoots", desc := "()V" } : Jvm.MethodName) prog_1_method_55_code (2 : Nat) (Option.none : Option Jvm.ClassFile.FieldType), Jvm.Cond.code ({ cls := "DeferredCountY", name := "resetTable", desc := "()V" } : Jvm.MethodName) prog_1_method_56_code (2 : Nat) (Option.none : Option Jvm.ClassFile.FieldType), Jvm.Cond.code ({ cls := "DeferredCountY", name := "resetScratch", desc := "()V" } : Jvm.MethodName) prog_1_method_57_code (2 : Nat) (Option.none : Option Jvm.ClassFile.FieldType), Jvm.Cond.code ({ cls := "DeferredCountY", name := "alloc", desc := "()I" } : Jvm.MethodName) prog_1_method_2_code (2 : Nat) (Option.some Jvm.ClassFile.FieldType.int), Jvm.Cond.code ({ cls := "DeferredCountY", name := "rootsFull", desc := "()Z" } : Jvm.MethodName) prog_1_method_47_code (1 : Nat) (Option.some Jvm.ClassFile.FieldType.boolean), Jvm.Cond.code ({ cls := "DeferredCountY", name := "allocNeedsReconcile", desc := "()Z" } : Jvm.MethodName) prog_1_method_20_code (1 : Nat) (Option.some Jvm.ClassFile.FieldType.boolean), Jvm.Cond.code ({ cls := "DeferredCountY", name := "hasFreeCell", desc := "()Z" } : Jvm.MethodName) prog_1_method_38_code (1 : Nat) (Option.some Jvm.ClassFile.FieldType.boolean), Jvm.Cond.code ({ cls := "DeferredCountY", name := "tableIsFull", desc := "()Z" } : Jvm.MethodName) prog_1_method_52_code (1 : Nat) (Option.some Jvm.ClassFile.FieldType.boolean), Jvm.Cond.code ({ cls := "DeferredCountY", name := "lowestFreeCell", desc := "()I" } : Jvm.MethodName) prog_1_method_39_code (2 : Nat) (Option.some Jvm.ClassFile.FieldType.int), Jvm.Cond.code ({ cls := "DeferredCountY", name := "placeNewObject", desc := "(I)V" } : Jvm.MethodName) prog_1_method_21_code (2 : Nat) (Option.none : Option Jvm.ClassFile.FieldType), Jvm.Cond.code ({ cls := "DeferredCountY", name := "bringToLife", desc := "(I)V" } : Jvm.MethodName) prog_1_method_40_code (2 : Nat) (Option.none : Option Jvm.ClassFile.FieldType), Jvm.Cond.code ({ cls := "DeferredCountY", name := "isObjectId", desc := "(I)Z" } : Jvm.MethodName) prog_1_method_59_code (2 : Nat) (Option.some Jvm.ClassFile.FieldType.boolean), Jvm.Cond.code ({ cls := "DeferredCountY", name := "tableInsert", desc := "(I)Z" } : Jvm.MethodName) prog_1_method_53_code (2 : Nat) (Option.some Jvm.ClassFile.FieldType.boolean), Jvm.Cond.code ({ cls := "DeferredCountY", name := "rootPush", desc := "(I)V" } : Jvm.MethodName) prog_1_method_48_code (2 : Nat) (Option.none : Option Jvm.ClassFile.FieldType), Jvm.Cond.code ({ cls := "DeferredCountY", name := "field", desc := "(II)I" } : Jvm.MethodName) prog_1_method_11_code (3 : Nat) (Option.some Jvm.ClassFile.FieldType.int), Jvm.Cond.code ({ cls := "DeferredCountY", name := "isLiveId", desc := "(I)Z" } : Jvm.MethodName) prog_1_method_60_code (2 : Nat) (Option.some Jvm.ClassFile.FieldType.boolean), Jvm.Cond.code ({ cls := "DeferredCountY", name := "isFieldNo", desc := "(I)Z" } : Jvm.MethodName) prog_1_method_61_code (2 : Nat) (Option.some Jvm.ClassFile.FieldType.boolean), Jvm.Cond.code ({ cls := "DeferredCountY", name := "readField", desc := "(II)I" } : Jvm.MethodName) prog_1_method_43_code (3 : Nat) (Option.some Jvm.ClassFile.FieldType.int), Jvm.Cond.code ({ cls := "DeferredCountY", name := "root", desc := "(I)I" } : Jvm.MethodName) prog_1_method_9_code (2 : Nat) (Option.some Jvm.ClassFile.FieldType.int), Jvm.Cond.code ({ cls := "DeferredCountY", name := "isRootSlot", desc := "(I)Z" } : Jvm.MethodName) prog_1_method_62_code (2 : Nat) (Option.some Jvm.ClassFile.FieldType.boolean), Jvm.Cond.code ({ cls := "DeferredCountY", name := "reconciliations", desc := "()I" } : Jvm.MethodName) prog_1_method_16_code (1 : Nat) (Option.some Jvm.ClassFile.FieldType.int), Jvm.Cond.code ({ cls := "DeferredCountY", name := "tableSize", desc := "()I" } : Jvm.MethodName) prog_1_method_14_code (1 : Nat) (Option.some Jvm.ClassFile.FieldType.int), Jvm.Cond.code ({ cls := "DeferredCountY", name := "liveCount", desc := "()I" } : Jvm.MethodName) prog_1_method_15_code (1 : Nat) (Option.some Jvm.ClassFile.FieldType.int)]
set_option maxRecDepth 65536 in
theorem codes_eq : words1.filter isCode = codes1 := rfl
theorem w_codes : ∀ c ∈ words1.filter isCode, c.before args0 about1 = true := by
  rw [codes_eq]
  intro c hc
  simp only [codes1, List.mem_cons, List.not_mem_nil, or_false] at hc
  rcases hc with rfl | rfl | rfl | rfl | rfl | rfl | rfl | rfl | rfl | rfl | rfl | rfl | rfl | rfl | rfl | rfl | rfl | rfl | rfl | rfl | rfl | rfl | rfl | rfl | rfl | rfl | rfl | rfl | rfl
  · exact w_c0
  · exact w_c1
  · exact w_c2
  · exact w_c3
  · exact w_c4
  · exact w_c5
  · exact w_c6
  · exact w_c7
  · exact w_c8
  · exact w_c9
  · exact w_c10
  · exact w_c11
  · exact w_c12
  · exact w_c13
  · exact w_c14
  · exact w_c15
  · exact w_c16
  · exact w_c17
  · exact w_c18
  · exact w_c19
  · exact w_c20
  · exact w_c21
  · exact w_c22
  · exact w_c23
  · exact w_c24
  · exact w_c25
  · exact w_c26
  · exact w_c27
  · exact w_c28
set_option maxRecDepth 65536 in
theorem w_t1 : (words1.take 24).all (fun c => isCode c || c.before args0 about1) = true := by decide +kernel
set_option maxRecDepth 65536 in
theorem w_t2 : ((words1.drop 24).take 24).all (fun c => isCode c || c.before args0 about1) = true := by decide +kernel
set_option maxRecDepth 65536 in
theorem w_t3 : (((words1.drop 24).drop 24).take 24).all (fun c => isCode c || c.before args0 about1) = true := by decide +kernel
set_option maxRecDepth 65536 in
theorem w_t4 : ((((words1.drop 24).drop 24).drop 24).take 24).all (fun c => isCode c || c.before args0 about1) = true := by decide +kernel
set_option maxRecDepth 65536 in
theorem w_t5 : (((((words1.drop 24).drop 24).drop 24).drop 24).take 24).all (fun c => isCode c || c.before args0 about1) = true := by decide +kernel
set_option maxRecDepth 65536 in
theorem w_t6 : ((((((words1.drop 24).drop 24).drop 24).drop 24).drop 24).take 24).all (fun c => isCode c || c.before args0 about1) = true := by decide +kernel
set_option maxRecDepth 65536 in
theorem w_t7 : ((((((words1.drop 24).drop 24).drop 24).drop 24).drop 24).drop 24).all (fun c => isCode c || c.before args0 about1) = true := by decide +kernel
theorem w_tables : (allAtoms (Jvm.Cond.code x code maxLocals ret :: tables_1)).before args0 about1 = true := by
  rw [allAtoms_all]
  show words1.all (fun c => c.before args0 about1) = true
  refine all_split ?_ w_codes
  rw [← List.take_append_drop 24 words1, List.all_append, w_t1, ← List.take_append_drop 24 (words1.drop 24), List.all_append, w_t2, ← List.take_append_drop 24 ((words1.drop 24).drop 24), List.all_append, w_t3, ← List.take_append_drop 24 (((words1.drop 24).drop 24).drop 24), List.all_append, w_t4, ← List.take_append_drop 24 ((((words1.drop 24).drop 24).drop 24).drop 24), List.all_append, w_t5, ← List.take_append_drop 24 (((((words1.drop 24).drop 24).drop 24).drop 24).drop 24), List.all_append, w_t6, w_t7]
  rfl
set_option maxRecDepth 65536 in
theorem w_case : (Jvm.Cond.and given_1 narrow_1).before args0 about1 = true := by decide +kernel
theorem w_applies : (headSpec (Jvm.Cond.code x code maxLocals ret :: tables_1) room_1).applies x e0.platform about1 = true :=
  (Spec.applies_iff w_frames).mpr ⟨w_running, w_runnable, w_alone, w_named, w_hears, w_ripe, w_room, w_tables⟩
theorem atStart : AtStart classFile x code maxLocals ret World_1 tables_1 room_1 Calls_1 rest_1 Pre_1 launch0 p0 e0 about1 theMethod args0 below0 :=
  ⟨lists_1, trivial, launch0.admits_env _ _ _, launch0.least_env, fairChoices_fair.cas, fairChoices_fair.clock, w_frames, w_args, w_heap, w_applies, trivial, trivial, w_case⟩
end start1
theorem witness_1 : WitnessClaimed_1 := ⟨start1.p0, start1.e0, start1.about1, start1.theMethod, start1.args0, start1.below0, start1.atStart⟩
end Jvm.Pilot.@@N@@
