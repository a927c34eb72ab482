import JvmDerived
import JvmDerived.Pilot.@@N@@Statement
import JvmDerived.Pilot.@@N@@Code
set_option linter.unusedVariables false
set_option linter.unusedSimpArgs false
namespace Jvm.AM
open Sem ClassFile Op Lib Jvm.Stand Jvm.Free Jvm.LawKit Jvm.RoadKit
/-! ## 1. The abstract objects: one object of the class, its scalars and its arrays by number -/
abbrev S : Type := (Nat → Int32) × (Nat → Int64) × (Nat → List Int32) × (Nat → List Int64)
def upd {A : Type} (g : Nat → A) (f : Nat) (v : A) : Nat → A := fun x => if x = f then v else g x
def gI (s : S) (f : Nat) : Int32 := s.1 f
def gL (s : S) (f : Nat) : Int64 := s.2.1 f
def gA (s : S) (f : Nat) : List Int32 := s.2.2.1 f
def gB (s : S) (f : Nat) : List Int64 := s.2.2.2 f
def sI (s : S) (f : Nat) (v : Int32) : S := (upd s.1 f v, s.2)
def sL (s : S) (f : Nat) (v : Int64) : S := (s.1, upd s.2.1 f v, s.2.2)
def sA (s : S) (f : Nat) (v : List Int32) : S := (s.1, s.2.1, upd s.2.2.1 f v, s.2.2.2)
def sB (s : S) (f : Nat) (v : List Int64) : S := (s.1, s.2.1, s.2.2.1, upd s.2.2.2 f v)
def s0 : S := (fun _ => 0, fun _ => 0, fun _ => [], fun _ => [])
theorem gI_s0 (f : Nat) : gI s0 f = 0 := by simp only [gI, s0]
theorem gL_s0 (f : Nat) : gL s0 f = 0 := by simp only [gL, s0]
theorem gA_s0 (f : Nat) : gA s0 f = [] := by simp only [gA, s0]
theorem gB_s0 (f : Nat) : gB s0 f = [] := by simp only [gB, s0]
theorem gI_sI (s : S) (f g : Nat) (v : Int32) : gI (sI s f v) g = if g = f then v else gI s g := by simp only [gI, gL, gA, gB, sI, sL, sA, sB, upd]
theorem gI_sL (s : S) (f g : Nat) (v : Int64) : gI (sL s f v) g = gI s g := by simp only [gI, gL, gA, gB, sI, sL, sA, sB, upd]
theorem gI_sA (s : S) (f g : Nat) (v : List Int32) : gI (sA s f v) g = gI s g := by simp only [gI, gL, gA, gB, sI, sL, sA, sB, upd]
theorem gI_sB (s : S) (f g : Nat) (v : List Int64) : gI (sB s f v) g = gI s g := by simp only [gI, gL, gA, gB, sI, sL, sA, sB, upd]
theorem gL_sI (s : S) (f g : Nat) (v : Int32) : gL (sI s f v) g = gL s g := by simp only [gI, gL, gA, gB, sI, sL, sA, sB, upd]
theorem gL_sL (s : S) (f g : Nat) (v : Int64) : gL (sL s f v) g = if g = f then v else gL s g := by simp only [gI, gL, gA, gB, sI, sL, sA, sB, upd]
theorem gL_sA (s : S) (f g : Nat) (v : List Int32) : gL (sA s f v) g = gL s g := by simp only [gI, gL, gA, gB, sI, sL, sA, sB, upd]
theorem gL_sB (s : S) (f g : Nat) (v : List Int64) : gL (sB s f v) g = gL s g := by simp only [gI, gL, gA, gB, sI, sL, sA, sB, upd]
theorem gA_sI (s : S) (f g : Nat) (v : Int32) : gA (sI s f v) g = gA s g := by simp only [gI, gL, gA, gB, sI, sL, sA, sB, upd]
theorem gA_sL (s : S) (f g : Nat) (v : Int64) : gA (sL s f v) g = gA s g := by simp only [gI, gL, gA, gB, sI, sL, sA, sB, upd]
theorem gA_sA (s : S) (f g : Nat) (v : List Int32) : gA (sA s f v) g = if g = f then v else gA s g := by simp only [gI, gL, gA, gB, sI, sL, sA, sB, upd]
theorem gA_sB (s : S) (f g : Nat) (v : List Int64) : gA (sB s f v) g = gA s g := by simp only [gI, gL, gA, gB, sI, sL, sA, sB, upd]
theorem gB_sI (s : S) (f g : Nat) (v : Int32) : gB (sI s f v) g = gB s g := by simp only [gI, gL, gA, gB, sI, sL, sA, sB, upd]
theorem gB_sL (s : S) (f g : Nat) (v : Int64) : gB (sL s f v) g = gB s g := by simp only [gI, gL, gA, gB, sI, sL, sA, sB, upd]
theorem gB_sA (s : S) (f g : Nat) (v : List Int32) : gB (sA s f v) g = gB s g := by simp only [gI, gL, gA, gB, sI, sL, sA, sB, upd]
theorem gB_sB (s : S) (f g : Nat) (v : List Int64) : gB (sB s f v) g = if g = f then v else gB s g := by simp only [gI, gL, gA, gB, sI, sL, sA, sB, upd]
def rep {A : Type} (n : Nat) (x : A) : List A := List.replicate n x
theorem rep_length {A : Type} (n : Nat) (x : A) : (rep n x).length = n := by simp only [rep, List.length_replicate]
theorem rep_get {A : Type} (n : Nat) (x : A) (k : Nat) : (rep n x)[k]? = if k < n then some x else none := by simp only [rep, List.getElem?_replicate]
theorem rep_set {A : Type} (n : Nat) (x : A) (k : Nat) : (rep n x).set k x = rep n x := by simp only [rep, List.set_replicate_self]
/-- reading and writing a component -/
def ix {A : Type} (l : List A) (j : Int32) : Option A := if j < 0 then none else l[j.toNatClampNeg]?
def st {A : Type} (l : List A) (j : Int32) (x : A) : Option (List A) := if j < 0 then none else if j.toNatClampNeg < l.length then some (l.set j.toNatClampNeg x) else none
/-- the world of a run: the script array, if there is one; the objects made so far, each with the number of arrays that it has been given -/
abbrev W : Type := Option (List Int32) × List (Nat × S)
/-- the class: name, slots, scalar fields (name, descriptor, type), array fields in the order of their making (name, descriptor, component type, most slots) -/
abbrev CI : Type := String × Nat × List (String × String × FieldType) × List (String × String × FieldType × Nat)
def cN (c : CI) : String := c.1
def cF (c : CI) : Nat := c.2.1
def cS (c : CI) : List (String × String × FieldType) := c.2.2.1
def cA (c : CI) : List (String × String × FieldType × Nat) := c.2.2.2
def cK (c : CI) : Nat := (cA c).length
/-- the program: the sheet's words, the class -/
abbrev PI : Type := List Jvm.Cond × CI
/-- a method: name, bytes, variables, return type, room, most objects, whether it makes cells, cells and slots at its start -/
abbrev Meth : Type := MethodName × ByteArray × Nat × Option FieldType × Room × Nat × Bool × Nat × Nat
def mY (M : Meth) : MethodName := M.1
def mB (M : Meth) : ByteArray := M.2.1
def mL (M : Meth) : Nat := M.2.2.1
def mT (M : Meth) : Option FieldType := M.2.2.2.1
def mR (M : Meth) : Room := M.2.2.2.2.1
def mN (M : Meth) : Nat := M.2.2.2.2.2.1
def mTop (M : Meth) : Bool := M.2.2.2.2.2.2.1
def mUC (M : Meth) : Nat := M.2.2.2.2.2.2.2.1
def mUS (M : Meth) : Nat := M.2.2.2.2.2.2.2.2
/-! ## 2. Abstract references: 0 the script; j + 1 the cell at b + j -/
def con (α b : Nat) : Value → Value
  | .ref 0 => .ref α
  | .ref (j + 1) => .ref (b + j)
  | v => v
def cs (α b : Nat) : Slot → Slot
  | .val v => .val (con α b v)
  | .unset => .unset
  | .second => .second
def cL (α b : Nat) (L : List Slot) : Array Slot := (L.map (cs α b)).toArray
def cV (α b : Nat) (l : List Value) : List Value := l.map (con α b)
theorem con_cat (α b : Nat) (v : Value) : (con α b v).category = v.category := by
  cases v <;> try rfl
  rename_i a; cases a <;> rfl
theorem con_ref (α b : Nat) (v : Value) : (con α b v).isRef = v.isRef := by
  cases v <;> try rfl
  rename_i a; cases a <;> rfl
theorem cL_get {α b : Nat} {L : List Slot} {k : Nat} {x : Slot} (h : L[k]? = some x) : (cL α b L)[k]? = some (cs α b x) := by
  simp [cL, List.getElem?_toArray, List.getElem?_map, h]
theorem cL_size (α b : Nat) (L : List Slot) : (cL α b L).size = L.length := by simp [cL]
theorem cV_sum (α b : Nat) (l : List Value) : ((cV α b l).map fun v => v.category).sum = (l.map fun v => v.category).sum := by
  simp [cV, List.map_map, Function.comp_def, con_cat]
theorem setAt_map {α b : Nat} {l l' : Array Slot} {i : Nat} {x : Slot} (h : setAt l i x = some l') : setAt (l.map (cs α b)) i (cs α b x) = some (l'.map (cs α b)) := by
  unfold setAt at h ⊢
  split at h
  · rename_i q
    cases h
    rw [if_pos (by simpa using q)]
    simp [Array.map_setIfInBounds]
  · cases h
theorem storeSelf_map {α b : Nat} {l l' : Array Slot} {i : Nat} {v : Value} (h : storeSelf l i v = some l') : storeSelf (l.map (cs α b)) i (con α b v) = some (l'.map (cs α b)) := by
  simp only [storeSelf, Option.bind_eq_bind, Option.bind_eq_some_iff] at h ⊢
  obtain ⟨l1, h1, h2⟩ := h
  refine ⟨l1.map (cs α b), setAt_map (x := .val v) h1, ?_⟩
  rw [con_cat]
  split at h2
  · rename_i q
    rw [if_pos q]
    obtain ⟨x, h3, h4⟩ := Option.bind_eq_some_iff.mp h2
    refine Option.bind_eq_some_iff.mpr ⟨cs α b x, by simp [h3], ?_⟩
    cases x with
    | unset => exact setAt_map (x := .second) h4
    | second => exact setAt_map (x := .second) h4
    | val old =>
      simp only [cs, con_cat] at h4 ⊢
      split at h4
      · rename_i q2
        rw [if_pos q2]
        obtain ⟨y, h5, h6⟩ := Option.bind_eq_some_iff.mp h4
        exact Option.bind_eq_some_iff.mpr ⟨_, setAt_map (x := .unset) h5, setAt_map (x := .second) h6⟩
      · rename_i q2
        rw [if_neg q2]
        exact setAt_map (x := .second) h4
  · rename_i q
    rw [if_neg q]
    cases h2; rfl
theorem store_map {α b : Nat} {l l' : Array Slot} {i : Nat} {v : Value} (h : storeLocals l i v = some l') : storeLocals (l.map (cs α b)) i (con α b v) = some (l'.map (cs α b)) := by
  simp only [storeLocals, Option.bind_eq_bind, Option.bind_eq_some_iff] at h ⊢
  obtain ⟨x, h1, h2⟩ := h
  refine ⟨cs α b x, by simp [h1], ?_⟩
  cases x with
  | unset => exact storeSelf_map h2
  | second =>
    obtain ⟨y, h3, h4⟩ := Option.bind_eq_some_iff.mp h2
    exact Option.bind_eq_some_iff.mpr ⟨_, setAt_map (x := .unset) h3, storeSelf_map h4⟩
  | val old =>
    simp only [cs, con_cat] at h2 ⊢
    split at h2
    · rename_i q
      rw [if_pos q]
      obtain ⟨y, h3, h4⟩ := Option.bind_eq_some_iff.mp h2
      exact Option.bind_eq_some_iff.mpr ⟨_, setAt_map (x := .unset) h3, storeSelf_map h4⟩
    · rename_i q
      rw [if_neg q]
      exact storeSelf_map h2
theorem storeC {α b : Nat} {L L' : List Slot} {i : Nat} {v : Value} (h : storeLocals L.toArray i v = some L'.toArray) : storeLocals (cL α b L) i (con α b v) = some (cL α b L') := by
  have := store_map (α := α) (b := b) h
  simpa [cL] using this
theorem setAt_size {l l' : Array Slot} {i : Nat} {x : Slot} (h : setAt l i x = some l') : l'.size = l.size := by
  unfold setAt at h; split at h <;> cases h; simp
theorem storeSelf_size {l l' : Array Slot} {i : Nat} {v : Value} (h : storeSelf l i v = some l') : l'.size = l.size := by
  simp only [storeSelf, Option.bind_eq_bind, Option.bind_eq_some_iff] at h
  obtain ⟨l1, h1, h2⟩ := h
  have e1 := setAt_size h1
  split at h2
  · obtain ⟨x, h3, h4⟩ := Option.bind_eq_some_iff.mp h2
    cases x with
    | unset => exact (setAt_size h4).trans e1
    | second => exact (setAt_size h4).trans e1
    | val old =>
      dsimp only at h4
      split at h4
      · obtain ⟨y, h5, h6⟩ := Option.bind_eq_some_iff.mp h4
        exact (setAt_size h6).trans ((setAt_size h5).trans e1)
      · exact (setAt_size h4).trans e1
  · cases h2; exact e1
theorem store_size {l l' : Array Slot} {i : Nat} {v : Value} (h : storeLocals l i v = some l') : l'.size = l.size := by
  simp only [storeLocals, Option.bind_eq_bind, Option.bind_eq_some_iff] at h
  obtain ⟨x, h1, h2⟩ := h
  cases x with
  | unset => exact storeSelf_size h2
  | second =>
    obtain ⟨y, h3, h4⟩ := Option.bind_eq_some_iff.mp h2
    exact (storeSelf_size h4).trans (setAt_size h3)
  | val old =>
    dsimp only at h2
    split at h2
    · obtain ⟨y, h3, h4⟩ := Option.bind_eq_some_iff.mp h2
      exact (storeSelf_size h4).trans (setAt_size h3)
    · exact storeSelf_size h2
/-- a variable that may be written over by a value of one word -/
def k1 (o : Slot) : Prop := o = .unset ∨ ∃ w, o = .val w ∧ w.category = 1
def k2 (o o2 : Slot) : Prop := (o = .unset ∧ o2 = .unset) ∨ ∃ u, o = .val (.long u) ∧ o2 = .second
theorem setAt_l {L : List Slot} {k : Nat} {x : Slot} (h : k < L.length) : setAt L.toArray k x = some (L.set k x).toArray := by simp [setAt, h]
theorem get_l {L : List Slot} {k : Nat} {o : Slot} (h : L[k]? = some o) : L.toArray[k]? = some o := by rw [List.getElem?_toArray]; exact h
theorem store_u {L : List Slot} {k : Nat} {v : Value} (h : L[k]? = some .unset) : storeLocals L.toArray k v = storeSelf L.toArray k v := by
  simp only [storeLocals, Option.bind_eq_bind, get_l h, Option.bind_some]
theorem store_1 {L : List Slot} {k : Nat} {v w : Value} (h : L[k]? = some (.val w)) (hw : w.category = 1) : storeLocals L.toArray k v = storeSelf L.toArray k v := by
  simp only [storeLocals, Option.bind_eq_bind, get_l h, Option.bind_some]
  rw [if_neg (by rw [hw]; decide)]
theorem store_k {L : List Slot} {k : Nat} {v : Value} {o : Slot} (h : L[k]? = some o) (ho : k1 o) : storeLocals L.toArray k v = storeSelf L.toArray k v := by
  rcases ho with rfl | ⟨w, rfl, hw⟩
  · exact store_u h
  · exact store_1 h hw
theorem store_2 {L : List Slot} {k : Nat} {v w : Value} (h : L[k]? = some (.val w)) (hw : w.category = 2) (l2 : k + 1 < L.length) : storeLocals L.toArray k v = storeSelf (L.set (k + 1) .unset).toArray k v := by
  simp only [storeLocals, Option.bind_eq_bind, get_l h, Option.bind_some]
  rw [if_pos hw, setAt_l l2, Option.bind_some]
theorem self_1 {L : List Slot} {k : Nat} {v : Value} (hv : v.category = 1) (l : k < L.length) : storeSelf L.toArray k v = some (L.set k (.val v)).toArray := by
  simp only [storeSelf, Option.bind_eq_bind, setAt_l l, Option.bind_some]
  rw [if_neg (by rw [hv]; decide)]
theorem self_2 {L : List Slot} {k : Nat} {v : Value} {o : Slot} (hv : v.category = 2) (h : L[k + 1]? = some o) (ho : k1 o ∨ o = .second) (l : k < L.length) : storeSelf L.toArray k v = some ((L.set k (.val v)).set (k + 1) .second).toArray := by
  have l2 := (List.getElem?_eq_some_iff.mp h).1
  have e2 : (L.set k (.val v))[k + 1]? = some o := by rw [List.getElem?_set_ne (by omega)]; exact h
  simp only [storeSelf, Option.bind_eq_bind, setAt_l l, Option.bind_some]
  rw [if_pos hv, get_l e2, Option.bind_some]
  rcases ho with (rfl | ⟨w, rfl, hw⟩) | rfl
  · exact setAt_l (by rw [List.length_set]; exact l2)
  · dsimp only
    rw [if_neg (by rw [hw]; decide)]
    exact setAt_l (by rw [List.length_set]; exact l2)
  · exact setAt_l (by rw [List.length_set]; exact l2)
theorem self_3 {L : List Slot} {k : Nat} {v w : Value} (hv : v.category = 2) (h : L[k + 1]? = some (.val w)) (hw : w.category = 2) (l3 : k + 2 < L.length) (l : k < L.length) : storeSelf L.toArray k v = some (((L.set k (.val v)).set (k + 2) .unset).set (k + 1) .second).toArray := by
  have l2 := (List.getElem?_eq_some_iff.mp h).1
  have e2 : (L.set k (.val v))[k + 1]? = some (.val w) := by rw [List.getElem?_set_ne (by omega)]; exact h
  simp only [storeSelf, Option.bind_eq_bind, setAt_l l, Option.bind_some]
  rw [if_pos hv, get_l e2, Option.bind_some]
  dsimp only
  rw [if_pos hw, setAt_l (by rw [List.length_set]; exact l3), Option.bind_some, setAt_l (by rw [List.length_set, List.length_set]; exact l2)]
theorem stx {L : List Slot} {k : Nat} {o : Slot} {v : Value} (h : L[k]? = some o) (ho : k1 o) (hv : v.category = 1) : storeLocals L.toArray k v = some (L.set k (.val v)).toArray := by
  rw [store_k h ho, self_1 hv (List.getElem?_eq_some_iff.mp h).1]
theorem stx3 {L : List Slot} {k : Nat} {o o2 : Slot} {u : Int64} (h : L[k]? = some o) (h2 : L[k + 1]? = some o2) (ho : k1 o) (ho2 : k1 o2) : storeLocals L.toArray k (.long u) = some ((L.set k (.val (.long u))).set (k + 1) .second).toArray := by
  rw [store_k h ho, self_2 rfl h2 (Or.inl ho2) (List.getElem?_eq_some_iff.mp h).1]
theorem stx2 {L : List Slot} {k : Nat} {o o2 : Slot} {u : Int64} (h : L[k]? = some o) (h2 : L[k + 1]? = some o2) (ho : k2 o o2) : storeLocals L.toArray k (.long u) = some ((L.set k (.val (.long u))).set (k + 1) .second).toArray := by
  have l1 := (List.getElem?_eq_some_iff.mp h).1
  have l2 := (List.getElem?_eq_some_iff.mp h2).1
  rcases ho with ⟨rfl, rfl⟩ | ⟨u', rfl, rfl⟩
  · exact stx3 h h2 (Or.inl rfl) (Or.inl rfl)
  · rw [store_2 h rfl l2, self_2 (o := .unset) rfl (by rw [List.getElem?_set_self l2]) (Or.inl (Or.inl rfl)) (by rw [List.length_set]; exact l1)]
    rw [List.set_comm _ _ (show k + 1 ≠ k by omega), List.set_set]
theorem stx4 {L : List Slot} {k : Nat} {o2 : Slot} {w : Int64} {v : Value} (h : L[k]? = some (.val (.long w))) (h2 : L[k + 1]? = some o2) (hv : v.category = 1) : storeLocals L.toArray k v = some ((L.set (k + 1) .unset).set k (.val v)).toArray := by
  rw [store_2 h rfl (List.getElem?_eq_some_iff.mp h2).1, self_1 hv (by rw [List.length_set]; exact (List.getElem?_eq_some_iff.mp h).1)]
theorem stx5 {L : List Slot} {k : Nat} {o o3 : Slot} {w u : Int64} (h : L[k]? = some o) (ho : k1 o) (h2 : L[k + 1]? = some (.val (.long w))) (h3 : L[k + 2]? = some o3) : storeLocals L.toArray k (.long u) = some (((L.set k (.val (.long u))).set (k + 2) .unset).set (k + 1) .second).toArray := by
  rw [store_k h ho, self_3 rfl h2 rfl (List.getElem?_eq_some_iff.mp h3).1 (List.getElem?_eq_some_iff.mp h).1]
/-- a tail of dead variables -/
def wtf : Slot ⊕ Int64 → List Slot
  | .inl x => [x]
  | .inr u => [.val (.long u), .second]
def WT (D : List Slot) : Prop := ∃ l : List (Slot ⊕ Int64), D = l.flatMap wtf ∧ ∀ x, Sum.inl x ∈ l → k1 x
theorem wt0 : WT [] := ⟨[], rfl, fun _ h => nomatch h⟩
theorem wt1 {x : Slot} {D : List Slot} (h : k1 x) (W : WT D) : WT (x :: D) := by
  obtain ⟨l, rfl, g⟩ := W
  refine ⟨.inl x :: l, by simp [wtf], fun y hy => ?_⟩
  rcases List.mem_cons.mp hy with e | e
  · cases e; exact h
  · exact g y e
theorem wt2 {u : Int64} {D : List Slot} (W : WT D) : WT (.val (.long u) :: .second :: D) := by
  obtain ⟨l, rfl, g⟩ := W
  refine ⟨.inr u :: l, by simp [wtf], fun y hy => ?_⟩
  rcases List.mem_cons.mp hy with e | e
  · cases e
  · exact g y e
theorem wt12 {x y : Slot} {D : List Slot} (h : k2 x y) (W : WT D) : WT (x :: y :: D) := by
  rcases h with ⟨rfl, rfl⟩ | ⟨u, rfl, rfl⟩
  · exact wt1 (Or.inl rfl) (wt1 (Or.inl rfl) W)
  · exact wt2 W
theorem wt_cases {D : List Slot} (W : WT D) : D = [] ∨ (∃ x E, D = x :: E ∧ k1 x ∧ WT E) ∨ ∃ u E, D = .val (.long u) :: .second :: E ∧ WT E := by
  obtain ⟨l, rfl, g⟩ := W
  match l, g with
  | [], _ => exact Or.inl rfl
  | .inl x :: r, g => exact Or.inr (Or.inl ⟨x, r.flatMap wtf, by simp [wtf], g x (List.mem_cons_self ..), r, rfl, fun y hy => g y (List.mem_cons_of_mem _ hy)⟩)
  | .inr u :: r, g => exact Or.inr (Or.inr ⟨u, r.flatMap wtf, by simp [wtf], r, rfl, fun y hy => g y (List.mem_cons_of_mem _ hy)⟩)
theorem stT {L0 D : List Slot} {v : Value} {n : Nat} (W : WT D) (hl : D.length = n + 1) (hv : v.category = 1) : ∃ D', WT D' ∧ D'.length = n ∧ storeLocals (L0 ++ D).toArray L0.length v = some (L0 ++ ([.val v] : List Slot) ++ D').toArray := by
  rcases wt_cases W with rfl | ⟨x, E, rfl, hx, WE⟩ | ⟨u, E, rfl, WE⟩
  · simp at hl
  · refine ⟨E, WE, by simpa using hl, ?_⟩
    rw [stx (o := x) (by simp) hx hv]; simp
  · refine ⟨.unset :: E, wt1 (Or.inl rfl) WE, by simpa using hl, ?_⟩
    rw [stx4 (w := u) (o2 := .second) (by simp) (by rw [List.getElem?_append_right (by omega)]; simp) hv]
    simp [List.set_append]
theorem stT2 {L0 D : List Slot} {u : Int64} {n : Nat} (W : WT D) (hl : D.length = n + 2) : ∃ D', WT D' ∧ D'.length = n ∧ storeLocals (L0 ++ D).toArray L0.length (.long u) = some (L0 ++ ([.val (.long u), .second] : List Slot) ++ D').toArray := by
  rcases wt_cases W with rfl | ⟨x, E, rfl, hx, WE⟩ | ⟨w, E, rfl, WE⟩
  · simp at hl
  · rcases wt_cases WE with rfl | ⟨y, F, rfl, hy, WF⟩ | ⟨w, F, rfl, WF⟩
    · simp at hl
    · refine ⟨F, WF, by simpa using hl, ?_⟩
      rw [stx3 (o := x) (o2 := y) (by simp) (by rw [List.getElem?_append_right (by omega)]; simp) hx hy]
      simp [List.set_append]
    · refine ⟨.unset :: F, wt1 (Or.inl rfl) WF, by simpa using hl, ?_⟩
      rw [stx5 (o := x) (w := w) (o3 := .second) (by simp) hx (by rw [List.getElem?_append_right (by omega)]; simp) (by rw [List.getElem?_append_right (by omega)]; simp)]
      simp [List.set_append]
  · refine ⟨E, WE, by simpa using hl, ?_⟩
    rw [stx2 (o := .val (.long w)) (o2 := .second) (by simp) (by rw [List.getElem?_append_right (by omega)]; simp) (Or.inr ⟨w, rfl, rfl⟩)]
    simp [List.set_append]
/-- the variables at a method's entry -/
def argL : List Value → List Slot
  | [] => []
  | v :: r => if v.category = 2 then .val v :: .second :: argL r else .val v :: argL r
def entryL (as : List Value) (n : Nat) : List Slot := argL as ++ List.replicate (n - (argL as).length) .unset
theorem argL_fold : ∀ (as : List Value) (acc : List Slot), as.foldl (fun acc v => if v.category = 2 then (acc.push (.val v)).push .second else acc.push (.val v)) acc.toArray = (acc ++ argL as).toArray
  | [], acc => by simp [argL]
  | v :: r, acc => by
    simp only [List.foldl_cons, argL]
    split
    · rename_i q
      rw [show ((acc.toArray.push (Slot.val v)).push Slot.second) = (acc ++ [Slot.val v, Slot.second]).toArray by simp, argL_fold r]
      simp
    · rename_i q
      rw [show (acc.toArray.push (Slot.val v)) = (acc ++ [Slot.val v]).toArray by simp, argL_fold r]
      simp
theorem argL_map (α b : Nat) : ∀ as : List Value, argL (cV α b as) = (argL as).map (cs α b)
  | [] => rfl
  | v :: r => by
    have ih := argL_map α b r
    simp only [cV, List.map_cons, argL, con_cat] at ih ⊢
    split <;> simp [ih, cs]
theorem entry_locals (α b : Nat) (as : List Value) (n : Nat) : argsToLocals (cV α b as).toArray n = cL α b (entryL as n) := by
  have h := argL_fold (cV α b as) []
  simp only [List.nil_append] at h
  have h' : (cV α b as).toArray.foldl (fun acc v => if v.category = 2 then (acc.push (Slot.val v)).push Slot.second else acc.push (Slot.val v)) #[] = (argL (cV α b as)).toArray := by
    rw [← h]; simp
  simp only [argsToLocals]
  rw [h', argL_map]
  simp [cL, entryL, List.map_append, cs]
/-! ## 3. What the heap shows -/
def scV (ty : FieldType) (s : S) (f : Nat) : Value := match ty with
  | .long => .long (gL s f)
  | _ => .int (gI s f)
def arV (ty : FieldType) (s : S) (q : Nat) : List Value := match ty with
  | .long => (gB s q).map .long
  | _ => (gA s q).map .int
def Ar (Z : State) (h : Heap) (a : Nat) (ty : FieldType) (vs : List Value) : Prop := ∃ c : Cell, Arr Z h a c ty ∧ c.slots = vs.toArray
def Rep1 (Z : State) (ci : CI) (h : Heap) (b : Nat) (o : Nat × S) : Prop :=
  Exa Z h b (cN ci) ∧ (∀ f x, (cS ci)[f]? = some x → Fld Z h b (cN ci) x.1 x.2.1 (scV x.2.2 o.2 f)) ∧
  (∀ q x, (cA ci)[q]? = some x → Fld Z h b (cN ci) x.1 x.2.1 (if q < o.1 then .ref (b + 1 + q) else .null)) ∧
  (∀ q x, (cA ci)[q]? = some x → q < o.1 → Ar Z h (b + 1 + q) x.2.2.1 (arV x.2.2.1 o.2 q))
def RepW (Z : State) (ci : CI) (α b : Nat) (w : W) (h : Heap) : Prop :=
  (∀ l, w.1 = some l → Ar Z h α .int (l.map .int) ∧ α < b) ∧ ∀ i o, w.2[i]? = some o → Rep1 Z ci h (b + (cK ci + 1) * i) o
def Frm (lo hi : Nat) (h0 h : Heap) : Prop := ∀ (x : Nat) (c : Cell), h0[x]? = some c → (x < lo ∨ hi ≤ x) → h[x]? = some c
def usedC (w : W) : Nat := (w.2.map fun o => 1 + o.1).sum
def usedS (ci : CI) (w : W) : Nat := (w.2.map fun o => cF ci + (((cA ci).take o.1).map fun x => x.2.2.2).sum).sum
/-- what the sheet says of the class -/
def Facts (Z : State) (a0 : Array Value) (ci : CI) : Prop :=
  (Jvm.Cond.instantiable (cN ci) (cF ci)).before a0 Z = true ∧ (Jvm.Cond.initialized (cN ci)).before a0 Z = true ∧
  (∀ (f : Nat) (x : String × String × FieldType), (cS ci)[f]? = some x → Laid Z a0 (cN ci) (cN ci) x.1 x.2.1 ∧ parseFieldDescriptor x.2.1 = some x.2.2) ∧
  (∀ (q : Nat) (x : String × String × FieldType × Nat), (cA ci)[q]? = some x → Laid Z a0 (cN ci) (cN ci) x.1 x.2.1 ∧ parseFieldDescriptor x.2.1 = some (.array x.2.2.1)) ∧
  ((cS ci).map (fun x => x.1) ++ (cA ci).map (fun x => x.1)).Nodup ∧ (∀ f x, (cS ci)[f]? = some x → defaultValue x.2.2 = scV x.2.2 s0 f) ∧ (cN ci ≠ "java/lang/invoke/MethodHandle" ∧ cN ci ≠ "java/lang/invoke/VarHandle")
theorem nq {a b : Nat} (h : a ≠ b) : @Ne Addr a b := h
theorem Ar.frm {Z : State} {h h' : Heap} {a : Nat} {ty : FieldType} {vs : List Value} (A : Ar Z h a ty vs) (k : ∀ c, h[a]? = some c → h'[a]? = some c) : Ar Z h' a ty vs := by
  obtain ⟨c, ⟨q1, q2⟩, q3⟩ := A; exact ⟨c, ⟨k c q1, q2⟩, q3⟩
theorem fld_frm {Z : State} {h h' : Heap} {a : Nat} {C n d : String} {v : Value} (F : Fld Z h a C n d v) (k : ∀ c, h[a]? = some c → h'[a]? = some c) : Fld Z h' a C n d v := by
  obtain ⟨cell, cf, kc, i, f, h1, r⟩ := F; exact ⟨cell, cf, kc, i, f, k _ h1, r⟩
theorem exa_frm {Z : State} {h h' : Heap} {a : Nat} {C : String} (F : Exa Z h a C) (k : ∀ c, h[a]? = some c → h'[a]? = some c) : Exa Z h' a C := by
  obtain ⟨cell, kc, h1, r⟩ := F; exact ⟨cell, kc, k _ h1, r⟩
theorem get_lt {A : Type} {l : List A} {i : Nat} {x : A} (h : l[i]? = some x) : i < l.length := (List.getElem?_eq_some_iff.mp h).1
theorem Rep1.frm {Z : State} {ci : CI} {h h' : Heap} {b : Nat} {o : Nat × S} (F : Rep1 Z ci h b o) (k : ∀ x c, b ≤ x → x < b + (cK ci + 1) → h[x]? = some c → h'[x]? = some c) : Rep1 Z ci h' b o := by
  obtain ⟨f1, f2, f3, f4⟩ := F
  refine ⟨exa_frm f1 fun c => k b c (Nat.le_refl _) (by omega), fun f x hx => fld_frm (f2 f x hx) fun c => k b c (Nat.le_refl _) (by omega), fun q x hx => fld_frm (f3 q x hx) fun c => k b c (Nat.le_refl _) (by omega), fun q x hx hq => (f4 q x hx hq).frm fun c => k _ c (by omega) ?_⟩
  have := get_lt hx
  simp only [cK]; omega
theorem RepW.ext {Z : State} {ci : CI} {α b : Nat} {w : W} {h h' : Heap} (F : RepW Z ci α b w h) (E : Ext h h') : RepW Z ci α b w h' :=
  ⟨fun l hl => ⟨((F.1 l hl).1).frm fun c q => E.2 _ _ q, (F.1 l hl).2⟩, fun i o ho => (F.2 i o ho).frm fun x c _ _ q => E.2 _ _ q⟩
theorem Frm.refl (lo hi : Nat) (h : Heap) : Frm lo hi h h := fun _ _ q _ => q
theorem Frm.trans {lo hi : Nat} {h0 h1 h2 : Heap} (A : Frm lo hi h0 h1) (B : Frm lo hi h1 h2) : Frm lo hi h0 h2 := fun x c q r => B x c (A x c q r) r
theorem Frm.wide {lo hi lo' hi' : Nat} {h0 h1 : Heap} (A : Frm lo hi h0 h1) (q1 : lo' ≤ lo) (q2 : hi ≤ hi') : Frm lo' hi' h0 h1 := fun x c q r => A x c q (by omega)
theorem Frm.ext {lo hi : Nat} {h0 h1 h2 : Heap} (A : Frm lo hi h0 h1) (E : Ext h1 h2) : Frm lo hi h0 h2 := fun x c q r => E.2 _ _ (A x c q r)
theorem Frm.wr {lo hi : Nat} {h0 h1 h2 : Heap} {a : Nat} {sl : Nat} {v : Value} (A : Frm lo hi h0 h1) (Wt : Wr h1 h2 a sl v) (q1 : lo ≤ a) (q2 : a < hi) : Frm lo hi h0 h2 := fun x c q r => by
  have q3 := A x c q r
  obtain ⟨c', e1, -, -, -, e5, -⟩ := wr_at Wt q3
  have : x ≠ a := by omega
  rw [← e5 this]; exact e1
/-! ## 4. The walk -/
def Ok (P : PI) (M : Meth) (Z : State) (a0 : Array Value) (p : Program) (R : Room) (s : State) (m : MethodId) (meth : Method) (c : Code) (b n0 : Nat) (h0 : Heap) (uC uS : Nat) : Prop :=
  (∀ d ∈ P.1, d.before a0 Z = true) ∧ Facts Z a0 P.2 ∧ p.tables.exec = Jvm.exec ∧ Z.Warmed39 s.vm ∧ s.vm.findClass (mY M).cls = some m.cls ∧ c.code = mB M ∧ c.maxLocals = mL M ∧ meth.sig.returnType = mT M ∧ meth.name = (mY M).name ∧ R = mR M ∧ n0 ≤ b ∧
  (mTop M = true → h0.size = b + uC ∧ uC = mUC M ∧ uS = mUS M) ∧ s.heap.size = h0.size
def Inv (P : PI) (M : Meth) (l : Launch) (Z : State) (p : Program) (e : Env) (R : Room) (s : State) (m : MethodId) (args : Array Value) (below : List Frame) (meth : Method) (c : Code) (α b n0 : Nat) (h0 : Heap) (uC uS : Nat) (w : W) (T : State) (locs : List Loc) (cells slots : Nat) : Prop :=
  Stand p l e R s m args below meth c T locs cells slots ∧ RepW Z P.2 α b w T.heap ∧ Frm b (b + (cK P.2 + 1) * mN M) h0 T.heap ∧ Fr n0 locs ∧ T.heap.size = h0.size + cells ∧ cells + uC = usedC w ∧ slots + uS = usedS P.2 w ∧ cells ≤ R.cells ∧ slots ≤ R.slots ∧ w.2.length ≤ mN M
def Lv (e : Env) (T : State) (m : MethodId) (r : Option Value) (fs : List Frame) : Prop := ∀ (f : JFrame) (acts : List Action), f.method = m → f.locked = none → f.entered = [] → (doReturn e (T.setTop f) acts r).1 = T.setFrames fs
/-- from here the invocation comes to its end, with this value and this world -/
def Go (P : PI) (M : Meth) (pc : Nat) (L : List Slot) (st : List Value) (w : W) (out : Option Value × W) : Prop :=
  L.length = mL M → ∀ (l : Launch) (Z : State) (a0 : Array Value) (p : Program) (e : Env) (R : Room) (s : State) (m : MethodId) (args : Array Value) (below : List Frame) (meth : Method) (c : Code) (α b n0 : Nat) (h0 : Heap) (uC uS : Nat),
    Ok P M Z a0 p R s m meth c b n0 h0 uC uS → ∀ (T : State) (locs : List Loc) (cells slots : Nat), Inv P M l Z p e R s m args below meth c α b n0 h0 uC uS w T locs cells slots →
    ∃ (T' : State) (locs' : List Loc) (cells' slots' : Nat), Inv P M l Z p e R s m args below meth c α b n0 h0 uC uS out.2 T' locs' cells' slots' ∧
      ∀ fs, Lv e T' m (out.1.map (con α b)) fs → Steps p.tables e below (T.setTop (mkF m pc (cL α b L) (cV α b st))) (T'.setFrames fs)
section Rules
variable {P : PI} {M : Meth} {pc pc' : Nat} {L L' : List Slot} {st st' : List Value} {w w' : W} {out : Option Value × W} {x y z v : Int32} {u r : Int64}
theorem go_mv (hL : L.length = mL M → L'.length = mL M)
    (H : ∀ {p : Program} {e : Env} {below : List Frame} {T target : State} {m : MethodId} {c : Code}, At T m c below → p.tables.exec = Jvm.exec → c.code = mB M → ∀ α b : Nat, Steps p.tables e below (T.setTop (mkF m pc' (cL α b L') (cV α b st'))) target → Steps p.tables e below (T.setTop (mkF m pc (cL α b L) (cV α b st))) target)
    (k : Go P M pc' L' st' w out) : Go P M pc L st w out := by
  intro hl l Z a0 p e R s m args below meth c α b n0 h0 uC uS ok T locs cells slots I
  obtain ⟨T', l', c', n', I', fin⟩ := k (hL hl) l Z a0 p e R s m args below meth c α b n0 h0 uC uS ok T locs cells slots I
  exact ⟨T', l', c', n', I', fun fs hv => H I.1.here ok.2.2.1 ok.2.2.2.2.2.1 α b (fin fs hv)⟩
theorem go_ch (H : ∀ (l : Launch) (Z : State) (a0 : Array Value) (p : Program) (e : Env) (R : Room) (s : State) (m : MethodId) (args : Array Value) (below : List Frame) (meth : Method) (c : Code) (α b n0 : Nat) (h0 : Heap) (uC uS : Nat),
      Ok P M Z a0 p R s m meth c b n0 h0 uC uS → L.length = mL M → ∀ (T : State) (locs : List Loc) (cells slots : Nat), Inv P M l Z p e R s m args below meth c α b n0 h0 uC uS w T locs cells slots →
      ∃ (T' : State) (locs' : List Loc) (cells' slots' : Nat), Inv P M l Z p e R s m args below meth c α b n0 h0 uC uS w' T' locs' cells' slots' ∧
        ∀ target, Steps p.tables e below (T'.setTop (mkF m pc' (cL α b L) (cV α b st'))) target → Steps p.tables e below (T.setTop (mkF m pc (cL α b L) (cV α b st))) target)
    (k : Go P M pc' L st' w' out) : Go P M pc L st w out := by
  intro hl l Z a0 p e R s m args below meth c α b n0 h0 uC uS ok T locs cells slots I
  obtain ⟨T1, l1, c1, n1, I1, h1⟩ := H l Z a0 p e R s m args below meth c α b n0 h0 uC uS ok hl T locs cells slots I
  obtain ⟨T', l', c', n', I', fin⟩ := k hl l Z a0 p e R s m args below meth c α b n0 h0 uC uS ok T1 l1 c1 n1 I1
  exact ⟨T', l', c', n', I', fun fs hv => h1 _ (fin fs hv)⟩
/-! ### loads, stores, constants -/
theorem go_iloadN {k : Fin 4} (d : decode (mB M) pc = .ok (.iload_n k, 1)) (hl : L[k.val]? = some (.val (.int v))) (g : Go P M (pc + 1) L (.int v :: st) w out) : Go P M pc L (st) w out :=
  go_mv id (fun h hx hc α b r => XS.iloadN (g := mkF _ pc (cL α b L) (cV α b (st))) h hx rfl (hb hc d) (cL_get hl) r) g
theorem go_iload {k : Nat} (d : decode (mB M) pc = .ok (.iload k, 2)) (hl : L[k]? = some (.val (.int v))) (g : Go P M (pc + 2) L (.int v :: st) w out) : Go P M pc L (st) w out :=
  go_mv id (fun h hx hc α b r => XS.iload (g := mkF _ pc (cL α b L) (cV α b (st))) h hx rfl (hb hc d) (cL_get hl) r) g
theorem go_lloadN {k : Fin 4} (d : decode (mB M) pc = .ok (.lload_n k, 1)) (hl : L[k.val]? = some (.val (.long u))) (g : Go P M (pc + 1) L (.long u :: st) w out) : Go P M pc L (st) w out :=
  go_mv id (fun h hx hc α b r => XT.lloadN (g := mkF _ pc (cL α b L) (cV α b (st))) h hx rfl (hb hc d) (cL_get hl) r) g
theorem go_lload {k : Nat} (d : decode (mB M) pc = .ok (.lload k, 2)) (hl : L[k]? = some (.val (.long u))) (g : Go P M (pc + 2) L (.long u :: st) w out) : Go P M pc L (st) w out :=
  go_mv id (fun h hx hc α b r => XT.lload (g := mkF _ pc (cL α b L) (cV α b (st))) h hx rfl (hb hc d) (cL_get hl) r) g
theorem go_aloadN {k : Fin 4} {a : Nat} (d : decode (mB M) pc = .ok (.aload_n k, 1)) (hl : L[k.val]? = some (.val (.ref a))) (g : Go P M (pc + 1) L (.ref a :: st) w out) : Go P M pc L (st) w out :=
  go_mv id (fun h hx hc α b r => XS.aloadN (g := mkF _ pc (cL α b L) (cV α b (st))) h hx rfl (hb hc d) (cL_get hl) (con_ref α b (.ref a)) r) g
theorem go_aload {k : Nat} {a : Nat} (d : decode (mB M) pc = .ok (.aload k, 2)) (hl : L[k]? = some (.val (.ref a))) (g : Go P M (pc + 2) L (.ref a :: st) w out) : Go P M pc L (st) w out :=
  go_mv id (fun h hx hc α b r => XS.aload (g := mkF _ pc (cL α b L) (cV α b (st))) h hx rfl (hb hc d) (cL_get hl) (con_ref α b (.ref a)) r) g
theorem go_istoreN {k : Fin 4} (d : decode (mB M) pc = .ok (.istore_n k, 1)) (hl : storeLocals L.toArray k.val (.int x) = some L'.toArray) (g : Go P M (pc + 1) L' (st) w out) : Go P M pc L (.int x :: st) w out :=
  go_mv (fun q => by have := store_size hl; simp at this; omega) (fun h hx hc α b r => XS.istoreN (g := mkF _ pc (cL α b L) (cV α b (.int x :: st))) h hx rfl (hb hc d) rfl (storeC hl) r) g
theorem go_istore {k : Nat} (d : decode (mB M) pc = .ok (.istore k, 2)) (hl : storeLocals L.toArray k (.int x) = some L'.toArray) (g : Go P M (pc + 2) L' (st) w out) : Go P M pc L (.int x :: st) w out :=
  go_mv (fun q => by have := store_size hl; simp at this; omega) (fun h hx hc α b r => XS.istore (g := mkF _ pc (cL α b L) (cV α b (.int x :: st))) h hx rfl (hb hc d) rfl (storeC hl) r) g
theorem go_lstoreN {k : Fin 4} (d : decode (mB M) pc = .ok (.lstore_n k, 1)) (hl : storeLocals L.toArray k.val (.long u) = some L'.toArray) (g : Go P M (pc + 1) L' (st) w out) : Go P M pc L (.long u :: st) w out :=
  go_mv (fun q => by have := store_size hl; simp at this; omega) (fun h hx hc α b r => XT.lstoreN (g := mkF _ pc (cL α b L) (cV α b (.long u :: st))) h hx rfl (hb hc d) rfl (storeC hl) r) g
theorem go_lstore {k : Nat} (d : decode (mB M) pc = .ok (.lstore k, 2)) (hl : storeLocals L.toArray k (.long u) = some L'.toArray) (g : Go P M (pc + 2) L' (st) w out) : Go P M pc L (.long u :: st) w out :=
  go_mv (fun q => by have := store_size hl; simp at this; omega) (fun h hx hc α b r => XT.lstore (g := mkF _ pc (cL α b L) (cV α b (.long u :: st))) h hx rfl (hb hc d) rfl (storeC hl) r) g
theorem go_astoreN {k : Fin 4} {a : Nat} (d : decode (mB M) pc = .ok (.astore_n k, 1)) (hl : storeLocals L.toArray k.val (.ref a) = some L'.toArray) (g : Go P M (pc + 1) L' (st) w out) : Go P M pc L (.ref a :: st) w out :=
  go_mv (fun q => by have := store_size hl; simp at this; omega) (fun h hx hc α b r => XS.astoreN (g := mkF _ pc (cL α b L) (cV α b (.ref a :: st))) h hx rfl (hb hc d) rfl (con_ref α b (.ref a)) (storeC hl) r) g
theorem go_astore {k : Nat} {a : Nat} (d : decode (mB M) pc = .ok (.astore k, 2)) (hl : storeLocals L.toArray k (.ref a) = some L'.toArray) (g : Go P M (pc + 2) L' (st) w out) : Go P M pc L (.ref a :: st) w out :=
  go_mv (fun q => by have := store_size hl; simp at this; omega) (fun h hx hc α b r => XS.astore (g := mkF _ pc (cL α b L) (cV α b (.ref a :: st))) h hx rfl (hb hc d) rfl (con_ref α b (.ref a)) (storeC hl) r) g
theorem go_istoreNT {k : Fin 4} {L0 L1 D : List Slot} {n : Nat} (d : decode (mB M) pc = .ok (.istore_n k, 1)) (hk : k.val = L0.length) (h1 : L1 = L0 ++ [.val (.int x)]) (W : WT D) (hl : D.length = n + 1) (g : ∀ D', WT D' → D'.length = n → Go P M (pc + 1) (L1 ++ D') st w out) : Go P M pc (L0 ++ D) (.int x :: st) w out := by
  obtain ⟨D', W', l', e⟩ := stT (L0 := L0) (v := .int x) W hl rfl
  subst h1
  exact go_istoreN d (by rw [hk]; exact e) (g D' W' l')
theorem go_istoreT {k : Nat} {L0 L1 D : List Slot} {n : Nat} (d : decode (mB M) pc = .ok (.istore k, 2)) (hk : k = L0.length) (h1 : L1 = L0 ++ [.val (.int x)]) (W : WT D) (hl : D.length = n + 1) (g : ∀ D', WT D' → D'.length = n → Go P M (pc + 2) (L1 ++ D') st w out) : Go P M pc (L0 ++ D) (.int x :: st) w out := by
  obtain ⟨D', W', l', e⟩ := stT (L0 := L0) (v := .int x) W hl rfl
  subst h1
  exact go_istore d (by rw [hk]; exact e) (g D' W' l')
theorem go_astoreNT {k : Fin 4} {L0 L1 D : List Slot} {n : Nat} {a : Nat} (d : decode (mB M) pc = .ok (.astore_n k, 1)) (hk : k.val = L0.length) (h1 : L1 = L0 ++ [.val (.ref a)]) (W : WT D) (hl : D.length = n + 1) (g : ∀ D', WT D' → D'.length = n → Go P M (pc + 1) (L1 ++ D') st w out) : Go P M pc (L0 ++ D) (.ref a :: st) w out := by
  obtain ⟨D', W', l', e⟩ := stT (L0 := L0) (v := .ref a) W hl rfl
  subst h1
  exact go_astoreN d (by rw [hk]; exact e) (g D' W' l')
theorem go_astoreT {k : Nat} {L0 L1 D : List Slot} {n : Nat} {a : Nat} (d : decode (mB M) pc = .ok (.astore k, 2)) (hk : k = L0.length) (h1 : L1 = L0 ++ [.val (.ref a)]) (W : WT D) (hl : D.length = n + 1) (g : ∀ D', WT D' → D'.length = n → Go P M (pc + 2) (L1 ++ D') st w out) : Go P M pc (L0 ++ D) (.ref a :: st) w out := by
  obtain ⟨D', W', l', e⟩ := stT (L0 := L0) (v := .ref a) W hl rfl
  subst h1
  exact go_astore d (by rw [hk]; exact e) (g D' W' l')
theorem go_lstoreNT {k : Fin 4} {L0 L1 D : List Slot} {n : Nat} (d : decode (mB M) pc = .ok (.lstore_n k, 1)) (hk : k.val = L0.length) (h1 : L1 = L0 ++ [.val (.long u), .second]) (W : WT D) (hl : D.length = n + 2) (g : ∀ D', WT D' → D'.length = n → Go P M (pc + 1) (L1 ++ D') st w out) : Go P M pc (L0 ++ D) (.long u :: st) w out := by
  obtain ⟨D', W', l', e⟩ := stT2 (L0 := L0) (u := u) W hl
  subst h1
  exact go_lstoreN d (by rw [hk]; exact e) (g D' W' l')
theorem go_lstoreT {k : Nat} {L0 L1 D : List Slot} {n : Nat} (d : decode (mB M) pc = .ok (.lstore k, 2)) (hk : k = L0.length) (h1 : L1 = L0 ++ [.val (.long u), .second]) (W : WT D) (hl : D.length = n + 2) (g : ∀ D', WT D' → D'.length = n → Go P M (pc + 2) (L1 ++ D') st w out) : Go P M pc (L0 ++ D) (.long u :: st) w out := by
  obtain ⟨D', W', l', e⟩ := stT2 (L0 := L0) (u := u) W hl
  subst h1
  exact go_lstore d (by rw [hk]; exact e) (g D' W' l')
theorem go_iconst {i : Int} (d : decode (mB M) pc = .ok (.iconst i, 1)) (hv : v = Int32.ofInt i) (g : Go P M (pc + 1) L (.int v :: st) w out) : Go P M pc L (st) w out :=
  go_mv id (fun h hx hc α b r => XS.iconst (g := mkF _ pc (cL α b L) (cV α b (st))) h hx rfl (hb hc d) (hv ▸ r)) g
theorem go_bipush {i : Int} (d : decode (mB M) pc = .ok (.bipush i, 2)) (hv : v = (Int8.ofInt i).toInt32) (g : Go P M (pc + 2) L (.int v :: st) w out) : Go P M pc L (st) w out :=
  go_mv id (fun h hx hc α b r => XS.bipush (g := mkF _ pc (cL α b L) (cV α b (st))) h hx rfl (hb hc d) (hv ▸ r)) g
theorem go_sipush {i : Int} (d : decode (mB M) pc = .ok (.sipush i, 3)) (hv : v = (Int16.ofInt i).toInt32) (g : Go P M (pc + 3) L (.int v :: st) w out) : Go P M pc L (st) w out :=
  go_mv id (fun h hx hc α b r => XS.sipush (g := mkF _ pc (cL α b L) (cV α b (st))) h hx rfl (hb hc d) (hv ▸ r)) g
theorem go_lconst {i : Fin 2} (d : decode (mB M) pc = .ok (.lconst i, 1)) (hv : u = Int64.ofNat i) (g : Go P M (pc + 1) L (.long u :: st) w out) : Go P M pc L (st) w out :=
  go_mv id (fun h hx hc α b r => XT.lconst (g := mkF _ pc (cL α b L) (cV α b (st))) h hx rfl (hb hc d) (hv ▸ r)) g
theorem go_dup  (d : decode (mB M) pc = .ok (.dup, 1))  (g : Go P M (pc + 1) L (.int x :: .int x :: st) w out) : Go P M pc L (.int x :: st) w out :=
  go_mv id (fun h hx hc α b r => XS.dup (g := mkF _ pc (cL α b L) (cV α b (.int x :: st))) h hx rfl (hb hc d) rfl rfl r) g
theorem go_dupR {a : Nat} (d : decode (mB M) pc = .ok (.dup, 1))  (g : Go P M (pc + 1) L (.ref a :: .ref a :: st) w out) : Go P M pc L (.ref a :: st) w out :=
  go_mv id (fun h hx hc α b r => XS.dup (g := mkF _ pc (cL α b L) (cV α b (.ref a :: st))) h hx rfl (hb hc d) rfl (con_cat α b (.ref a)) r) g
theorem go_dup2 {a : Nat} (d : decode (mB M) pc = .ok (.dup2, 1))  (g : Go P M (pc + 1) L (.int x :: .ref a :: .int x :: .ref a :: st) w out) : Go P M pc L (.int x :: .ref a :: st) w out :=
  go_mv id (fun h hx hc α b r => XT.dup2 (g := mkF _ pc (cL α b L) (cV α b (.int x :: .ref a :: st))) h hx rfl (hb hc d) rfl rfl (con_cat α b (.ref a)) r) g
theorem go_dup2I  (d : decode (mB M) pc = .ok (.dup2, 1))  (g : Go P M (pc + 1) L (.int x :: .int y :: .int x :: .int y :: st) w out) : Go P M pc L (.int x :: .int y :: st) w out :=
  go_mv id (fun h hx hc α b r => XT.dup2 (g := mkF _ pc (cL α b L) (cV α b (.int x :: .int y :: st))) h hx rfl (hb hc d) rfl rfl rfl r) g
theorem go_dup2L  (d : decode (mB M) pc = .ok (.dup2, 1))  (g : Go P M (pc + 1) L (.long u :: .long u :: st) w out) : Go P M pc L (.long u :: st) w out :=
  go_mv id (fun h hx hc α b r => XT.dup2L (g := mkF _ pc (cL α b L) (cV α b (.long u :: st))) h hx rfl (hb hc d) rfl r) g
theorem go_pop  (d : decode (mB M) pc = .ok (.pop, 1))  (g : Go P M (pc + 1) L (st) w out) : Go P M pc L (.int x :: st) w out :=
  go_mv id (fun h hx hc α b r => XT.pop (g := mkF _ pc (cL α b L) (cV α b (.int x :: st))) h hx rfl (hb hc d) rfl rfl r) g
theorem go_iadd  (d : decode (mB M) pc = .ok (.iadd, 1))  (g : Go P M (pc + 1) L (.int (x + y) :: st) w out) : Go P M pc L (.int y :: .int x :: st) w out :=
  go_mv id (fun h hx hc α b r => XS.iadd (g := mkF _ pc (cL α b L) (cV α b (.int y :: .int x :: st))) h hx rfl (hb hc d) rfl r) g
theorem go_isub  (d : decode (mB M) pc = .ok (.isub, 1))  (g : Go P M (pc + 1) L (.int (x - y) :: st) w out) : Go P M pc L (.int y :: .int x :: st) w out :=
  go_mv id (fun h hx hc α b r => XS.isub (g := mkF _ pc (cL α b L) (cV α b (.int y :: .int x :: st))) h hx rfl (hb hc d) rfl r) g
theorem go_imul  (d : decode (mB M) pc = .ok (.imul, 1))  (g : Go P M (pc + 1) L (.int (x * y) :: st) w out) : Go P M pc L (.int y :: .int x :: st) w out :=
  go_mv id (fun h hx hc α b r => XS.imul (g := mkF _ pc (cL α b L) (cV α b (.int y :: .int x :: st))) h hx rfl (hb hc d) rfl r) g
theorem go_iand  (d : decode (mB M) pc = .ok (.iand, 1))  (g : Go P M (pc + 1) L (.int (x &&& y) :: st) w out) : Go P M pc L (.int y :: .int x :: st) w out :=
  go_mv id (fun h hx hc α b r => XS.iand (g := mkF _ pc (cL α b L) (cV α b (.int y :: .int x :: st))) h hx rfl (hb hc d) rfl r) g
theorem go_ior  (d : decode (mB M) pc = .ok (.ior, 1))  (g : Go P M (pc + 1) L (.int (x ||| y) :: st) w out) : Go P M pc L (.int y :: .int x :: st) w out :=
  go_mv id (fun h hx hc α b r => XT.ior (g := mkF _ pc (cL α b L) (cV α b (.int y :: .int x :: st))) h hx rfl (hb hc d) rfl r) g
theorem go_ixor  (d : decode (mB M) pc = .ok (.ixor, 1))  (g : Go P M (pc + 1) L (.int (x ^^^ y) :: st) w out) : Go P M pc L (.int y :: .int x :: st) w out :=
  go_mv id (fun h hx hc α b r => XT.ixor (g := mkF _ pc (cL α b L) (cV α b (.int y :: .int x :: st))) h hx rfl (hb hc d) rfl r) g
theorem go_ishl  (d : decode (mB M) pc = .ok (.ishl, 1))  (g : Go P M (pc + 1) L (.int (x <<< (y &&& 31)) :: st) w out) : Go P M pc L (.int y :: .int x :: st) w out :=
  go_mv id (fun h hx hc α b r => XT.ishl (g := mkF _ pc (cL α b L) (cV α b (.int y :: .int x :: st))) h hx rfl (hb hc d) rfl r) g
theorem go_ishr  (d : decode (mB M) pc = .ok (.ishr, 1))  (g : Go P M (pc + 1) L (.int (x >>> (y &&& 31)) :: st) w out) : Go P M pc L (.int y :: .int x :: st) w out :=
  go_mv id (fun h hx hc α b r => XT.ishr (g := mkF _ pc (cL α b L) (cV α b (.int y :: .int x :: st))) h hx rfl (hb hc d) rfl r) g
theorem go_iushr  (d : decode (mB M) pc = .ok (.iushr, 1))  (g : Go P M (pc + 1) L (.int (XT.ushr x y) :: st) w out) : Go P M pc L (.int y :: .int x :: st) w out :=
  go_mv id (fun h hx hc α b r => XT.iushr (g := mkF _ pc (cL α b L) (cV α b (.int y :: .int x :: st))) h hx rfl (hb hc d) rfl r) g
theorem go_idiv  (d : decode (mB M) pc = .ok (.idiv, 1)) (hy : y ≠ 0) (g : Go P M (pc + 1) L (.int (x / y) :: st) w out) : Go P M pc L (.int y :: .int x :: st) w out :=
  go_mv id (fun h hx hc α b r => XS.idiv (g := mkF _ pc (cL α b L) (cV α b (.int y :: .int x :: st))) h hx rfl (hb hc d) rfl hy r) g
theorem go_irem  (d : decode (mB M) pc = .ok (.irem, 1)) (hy : y ≠ 0) (g : Go P M (pc + 1) L (.int (x % y) :: st) w out) : Go P M pc L (.int y :: .int x :: st) w out :=
  go_mv id (fun h hx hc α b r => XS.irem (g := mkF _ pc (cL α b L) (cV α b (.int y :: .int x :: st))) h hx rfl (hb hc d) rfl hy (by rw [irem_eq_mod x y]; exact r)) g
theorem go_ineg  (d : decode (mB M) pc = .ok (.ineg, 1))  (g : Go P M (pc + 1) L (.int (-x) :: st) w out) : Go P M pc L (.int x :: st) w out :=
  go_mv id (fun h hx hc α b r => XS.ineg (g := mkF _ pc (cL α b L) (cV α b (.int x :: st))) h hx rfl (hb hc d) rfl r) g
theorem go_ladd  (d : decode (mB M) pc = .ok (.ladd, 1))  (g : Go P M (pc + 1) L (.long (u + r) :: st) w out) : Go P M pc L (.long r :: .long u :: st) w out :=
  go_mv id (fun h hx hc α b k => XT.ladd (g := mkF _ pc (cL α b L) (cV α b (.long r :: .long u :: st))) h hx rfl (hb hc d) rfl k) g
theorem go_lsub  (d : decode (mB M) pc = .ok (.lsub, 1))  (g : Go P M (pc + 1) L (.long (u - r) :: st) w out) : Go P M pc L (.long r :: .long u :: st) w out :=
  go_mv id (fun h hx hc α b k => XT.lsub (g := mkF _ pc (cL α b L) (cV α b (.long r :: .long u :: st))) h hx rfl (hb hc d) rfl k) g
theorem go_lmul  (d : decode (mB M) pc = .ok (.lmul, 1))  (g : Go P M (pc + 1) L (.long (u * r) :: st) w out) : Go P M pc L (.long r :: .long u :: st) w out :=
  go_mv id (fun h hx hc α b k => XT.lmul (g := mkF _ pc (cL α b L) (cV α b (.long r :: .long u :: st))) h hx rfl (hb hc d) rfl k) g
theorem go_land  (d : decode (mB M) pc = .ok (.land, 1))  (g : Go P M (pc + 1) L (.long (u &&& r) :: st) w out) : Go P M pc L (.long r :: .long u :: st) w out :=
  go_mv id (fun h hx hc α b k => XT.land (g := mkF _ pc (cL α b L) (cV α b (.long r :: .long u :: st))) h hx rfl (hb hc d) rfl k) g
theorem go_lor  (d : decode (mB M) pc = .ok (.lor, 1))  (g : Go P M (pc + 1) L (.long (u ||| r) :: st) w out) : Go P M pc L (.long r :: .long u :: st) w out :=
  go_mv id (fun h hx hc α b k => XT.lor (g := mkF _ pc (cL α b L) (cV α b (.long r :: .long u :: st))) h hx rfl (hb hc d) rfl k) g
theorem go_lxor  (d : decode (mB M) pc = .ok (.lxor, 1))  (g : Go P M (pc + 1) L (.long (u ^^^ r) :: st) w out) : Go P M pc L (.long r :: .long u :: st) w out :=
  go_mv id (fun h hx hc α b k => XT.lxor (g := mkF _ pc (cL α b L) (cV α b (.long r :: .long u :: st))) h hx rfl (hb hc d) rfl k) g
theorem go_lshl  (d : decode (mB M) pc = .ok (.lshl, 1))  (g : Go P M (pc + 1) L (.long (u <<< (y.toInt64 &&& 63)) :: st) w out) : Go P M pc L (.int y :: .long u :: st) w out :=
  go_mv id (fun h hx hc α b r => XT.lshl (g := mkF _ pc (cL α b L) (cV α b (.int y :: .long u :: st))) h hx rfl (hb hc d) rfl r) g
theorem go_lshr  (d : decode (mB M) pc = .ok (.lshr, 1))  (g : Go P M (pc + 1) L (.long (u >>> (y.toInt64 &&& 63)) :: st) w out) : Go P M pc L (.int y :: .long u :: st) w out :=
  go_mv id (fun h hx hc α b r => XT.lshr (g := mkF _ pc (cL α b L) (cV α b (.int y :: .long u :: st))) h hx rfl (hb hc d) rfl r) g
theorem go_lushr  (d : decode (mB M) pc = .ok (.lushr, 1))  (g : Go P M (pc + 1) L (.long (XT.ushrL u y) :: st) w out) : Go P M pc L (.int y :: .long u :: st) w out :=
  go_mv id (fun h hx hc α b r => XT.lushr (g := mkF _ pc (cL α b L) (cV α b (.int y :: .long u :: st))) h hx rfl (hb hc d) rfl r) g
theorem go_lcmp  (d : decode (mB M) pc = .ok (.lcmp, 1))  (g : Go P M (pc + 1) L (.int (XT.cmpL u r) :: st) w out) : Go P M pc L (.long r :: .long u :: st) w out :=
  go_mv id (fun h hx hc α b k => XT.lcmp (g := mkF _ pc (cL α b L) (cV α b (.long r :: .long u :: st))) h hx rfl (hb hc d) rfl k) g
theorem go_i2l  (d : decode (mB M) pc = .ok (.i2l, 1))  (g : Go P M (pc + 1) L (.long x.toInt64 :: st) w out) : Go P M pc L (.int x :: st) w out :=
  go_mv id (fun h hx hc α b r => XT.i2l (g := mkF _ pc (cL α b L) (cV α b (.int x :: st))) h hx rfl (hb hc d) rfl r) g
theorem go_l2i  (d : decode (mB M) pc = .ok (.l2i, 1))  (g : Go P M (pc + 1) L (.int u.toInt32 :: st) w out) : Go P M pc L (.long u :: st) w out :=
  go_mv id (fun h hx hc α b r => XT.l2i (g := mkF _ pc (cL α b L) (cV α b (.long u :: st))) h hx rfl (hb hc d) rfl r) g
theorem go_i2b  (d : decode (mB M) pc = .ok (.i2b, 1))  (g : Go P M (pc + 1) L (.int x.toInt8.toInt32 :: st) w out) : Go P M pc L (.int x :: st) w out :=
  go_mv id (fun h hx hc α b r => XT.i2b (g := mkF _ pc (cL α b L) (cV α b (.int x :: st))) h hx rfl (hb hc d) rfl r) g
theorem go_iinc {k : Nat} {i : Int} (d : decode (mB M) pc = .ok (.iinc k i, 3)) (h1 : L[k]? = some (.val (.int x))) (hv : v = Int32.ofInt i) (hl : storeLocals L.toArray k (.int (x + v)) = some L'.toArray) (g : Go P M (pc + 3) L' (st) w out) : Go P M pc L (st) w out :=
  by subst hv; exact go_mv (fun q => by have := store_size hl; simp at this; omega) (fun h hx hc α b r => XS.iinc (g := mkF _ pc (cL α b L) (cV α b (st))) h hx rfl (hb hc d) (cL_get h1) (storeC hl) r) g
theorem go_goto {o : Int} (d : decode (mB M) pc = .ok (.goto o, 3)) (hp : 0 ≤ (pc : Int) + o ∧ ((pc : Int) + o).toNat = pc') (g : Go P M pc' L (st) w out) : Go P M pc L (st) w out :=
  go_mv id (fun h hx hc α b r => XS.goto (g := mkF _ pc (cL α b L) (cV α b (st))) h hx rfl rfl (hb hc d) hp.1 hp.2 r) g
theorem go_ifY {cd : ClassFile.Cond} {o : Int} (d : decode (mB M) pc = .ok (.ifCond cd o, 3)) (hq : ifCond.holds cd x = true) (hp : 0 ≤ (pc : Int) + o ∧ ((pc : Int) + o).toNat = pc') (g : Go P M pc' L (st) w out) : Go P M pc L (.int x :: st) w out :=
  go_mv id (fun h hx hc α b r => XS.ifYes (g := mkF _ pc (cL α b L) (cV α b (.int x :: st))) h hx rfl rfl (hb hc d) rfl hq hp.1 hp.2 r) g
theorem go_ifN {cd : ClassFile.Cond} {o : Int} (d : decode (mB M) pc = .ok (.ifCond cd o, 3)) (hq : ifCond.holds cd x = false) (g : Go P M (pc + 3) L (st) w out) : Go P M pc L (.int x :: st) w out :=
  go_mv id (fun h hx hc α b r => XS.ifNo (g := mkF _ pc (cL α b L) (cV α b (.int x :: st))) h hx rfl (hb hc d) rfl hq r) g
theorem go_icY {cd : ClassFile.Cond} {o : Int} (d : decode (mB M) pc = .ok (.if_icmp cd o, 3)) (hq : if_icmp.holds cd x y = true) (hp : 0 ≤ (pc : Int) + o ∧ ((pc : Int) + o).toNat = pc') (g : Go P M pc' L (st) w out) : Go P M pc L (.int y :: .int x :: st) w out :=
  go_mv id (fun h hx hc α b r => XS.icmpYes (g := mkF _ pc (cL α b L) (cV α b (.int y :: .int x :: st))) h hx rfl rfl (hb hc d) rfl hq hp.1 hp.2 r) g
theorem go_icN {cd : ClassFile.Cond} {o : Int} (d : decode (mB M) pc = .ok (.if_icmp cd o, 3)) (hq : if_icmp.holds cd x y = false) (g : Go P M (pc + 3) L (st) w out) : Go P M pc L (.int y :: .int x :: st) w out :=
  go_mv id (fun h hx hc α b r => XS.icmpNo (g := mkF _ pc (cL α b L) (cV α b (.int y :: .int x :: st))) h hx rfl (hb hc d) rfl hq r) g
theorem go_nonnull {o : Int} (d : decode (mB M) pc = .ok (.ifnonnull o, 3)) (hp : 0 ≤ (pc : Int) + o ∧ ((pc : Int) + o).toNat = pc') (g : Go P M pc' L st w out) : Go P M pc L (.ref 0 :: st) w out :=
  go_mv id (fun h hx hc α b r => XT.ifnonnullYes (g := mkF _ pc (cL α b L) (cV α b (.ref 0 :: st))) (b := α) h hx rfl rfl (hb hc d) rfl hp.1 hp.2 r) g
theorem go_tswIn {dflt low high : Int} {offs : Array Int} {len : Nat} {o : Int} (d : decode (mB M) pc = .ok (.tableswitch dflt low high offs, len)) (hin : ¬ (x.toInt < low ∨ x.toInt > high)) (hoff : offs[(x.toInt - low).toNat]? = some o) (hp : 0 ≤ (pc : Int) + o ∧ ((pc : Int) + o).toNat = pc') (g : Go P M pc' L st w out) : Go P M pc L (.int x :: st) w out :=
  go_mv id (fun h hx hc α b r => XS.tswIn (g := mkF _ pc (cL α b L) (cV α b (.int x :: st))) h hx rfl rfl (hb hc d) rfl hin hoff hp.1 hp.2 r) g
theorem go_tswOut {dflt low high : Int} {offs : Array Int} {len : Nat} (d : decode (mB M) pc = .ok (.tableswitch dflt low high offs, len)) (hout : x.toInt < low ∨ x.toInt > high) (hp : 0 ≤ (pc : Int) + dflt ∧ ((pc : Int) + dflt).toNat = pc') (g : Go P M pc' L st w out) : Go P M pc L (.int x :: st) w out :=
  go_mv id (fun h hx hc α b r => XS.tswOut (g := mkF _ pc (cL α b L) (cV α b (.int x :: st))) h hx rfl rfl (hb hc d) rfl hout hp.1 hp.2 r) g
/-! ### constants of the pool -/
theorem go_ldc {k : Nat} (d : decode (mB M) pc = .ok (.ldc k, 2)) (hk : Jvm.Cond.constant (mY M).cls k v ∈ P.1) (g : Go P M (pc + 2) L (.int v :: st) w out) : Go P M pc L st w out :=
  go_ch (fun l Z a0 p e R s m args below meth c α b n0 h0 uC uS ok hl T locs cells slots I => ⟨T, locs, cells, slots, I, fun target r => Stand.ldcI (g := mkF m pc (cL α b L) (cV α b st)) I.1 ok.2.2.1 ok.2.2.2.2.1 (mvT ok.2.2.2.1 (ok.1 _ hk)) rfl (hb ok.2.2.2.2.2.1 d) r⟩) g
theorem go_ldcW {k : Nat} (d : decode (mB M) pc = .ok (.ldc_w k, 3)) (hk : Jvm.Cond.constant (mY M).cls k v ∈ P.1) (g : Go P M (pc + 3) L (.int v :: st) w out) : Go P M pc L st w out :=
  go_ch (fun l Z a0 p e R s m args below meth c α b n0 h0 uC uS ok hl T locs cells slots I => ⟨T, locs, cells, slots, I, fun target r => Stand.ldcWI (g := mkF m pc (cL α b L) (cV α b st)) I.1 ok.2.2.1 ok.2.2.2.2.1 (mvT ok.2.2.2.1 (ok.1 _ hk)) rfl (hb ok.2.2.2.2.2.1 d) r⟩) g
theorem go_ldc2 {k : Nat} (d : decode (mB M) pc = .ok (.ldc2_w k, 3)) (hk : Jvm.Cond.constantLong (mY M).cls k u ∈ P.1) (g : Go P M (pc + 3) L (.long u :: st) w out) : Go P M pc L st w out :=
  go_ch (fun l Z a0 p e R s m args below meth c α b n0 h0 uC uS ok hl T locs cells slots I => ⟨T, locs, cells, slots, I, fun target r => Stand.ldc2J (g := mkF m pc (cL α b L) (cV α b st)) I.1 ok.2.2.1 ok.2.2.2.2.1 (mvT ok.2.2.2.1 (ok.1 _ hk)) rfl (hb ok.2.2.2.2.2.1 d) r⟩) g
/-! ### returns -/
theorem go_iret (hT : mT M = some .int) (d : decode (mB M) pc = .ok (.ireturn, 1)) : Go P M pc L (.int x :: st) w (some (.int x), w) := by
  intro hl l Z a0 p e R s m args below meth c α b n0 h0 uC uS ok T locs cells slots I
  exact ⟨T, locs, cells, slots, I, fun fs hv => retOut I.1 ok.2.2.1 (t := .int) (ok.2.2.2.2.2.2.2.1.trans hT) rfl (Or.inl ⟨rfl, Or.inl rfl, x, rfl⟩) (hb ok.2.2.2.2.2.1 d) hv⟩
theorem go_zret (hT : mT M = some .boolean) (d : decode (mB M) pc = .ok (.ireturn, 1)) (hz : v = nar .boolean x) : Go P M pc L (.int x :: st) w (some (.int v), w) := by
  intro hl l Z a0 p e R s m args below meth c α b n0 h0 uC uS ok T locs cells slots I
  subst hz
  exact ⟨T, locs, cells, slots, I, fun fs hv => retN I.1 ok.2.2.1 (t := .boolean) (ok.2.2.2.2.2.2.2.1.trans hT) (Or.inl rfl) (hb ok.2.2.2.2.2.1 d) hv⟩
theorem go_lret (hT : mT M = some .long) (d : decode (mB M) pc = .ok (.lreturn, 1)) : Go P M pc L (.long u :: st) w (some (.long u), w) := by
  intro hl l Z a0 p e R s m args below meth c α b n0 h0 uC uS ok T locs cells slots I
  exact ⟨T, locs, cells, slots, I, fun fs hv => retOut I.1 ok.2.2.1 (t := .long) (ok.2.2.2.2.2.2.2.1.trans hT) rfl (Or.inr (Or.inl ⟨rfl, rfl, u, rfl⟩)) (hb ok.2.2.2.2.2.1 d) hv⟩
theorem go_ret (hT : mT M = none) (d : decode (mB M) pc = .ok (.return_, 1)) : Go P M pc L [] w (none, w) := by
  intro hl l Z a0 p e R s m args below meth c α b n0 h0 uC uS ok T locs cells slots I
  exact ⟨T, locs, cells, slots, I, fun fs hv => I.1.returnOut ok.2.2.1 (ok.2.2.2.2.2.2.2.1.trans hT) (hb ok.2.2.2.2.2.1 d) hv⟩
/-! ### fields -/
variable {o o' : Nat × S} {s : S} {k n : Nat}
theorem rep_one {Z : State} {ci : CI} {α b : Nat} {h : Heap} (F : RepW Z ci α b (none, [o]) h) : Rep1 Z ci h b o := by
  have := F.2 0 o rfl
  simpa using this
theorem rep_mk {Z : State} {ci : CI} {α b : Nat} {h : Heap} (F : Rep1 Z ci h b o) : RepW Z ci α b (none, [o]) h :=
  ⟨fun l hl => (nomatch hl), fun i o1 ho => by
    cases i with
    | zero => cases ho; simpa using F
    | succ i => simp at ho⟩
/-- the entry idx names the scalar field number f; of type ty -/
def FldS (P : PI) (idx f : Nat) (ty : FieldType) : Prop := ∃ nm ds, (cS P.2)[f]? = some (nm, ds, ty) ∧ Jvm.Cond.fieldLink (cN P.2) idx (cN P.2) nm ds ∈ P.1
def FldA (P : PI) (idx q : Nat) (ty : FieldType) : Prop := ∃ nm ds cap, (cA P.2)[q]? = some (nm, ds, ty, cap) ∧ Jvm.Cond.fieldLink (cN P.2) idx (cN P.2) nm ds ∈ P.1
theorem go_getV {idx f : Nat} {ty : FieldType} (F : FldS P idx f ty) (hM : (mY M).cls = cN P.2) (d : decode (mB M) pc = .ok (.getfield idx, 3)) {vv : Value} (hv : vv = scV ty s f) (hr : ∀ α b, con α b vv = vv) (g : Go P M (pc + 3) L (vv :: st) (none, [(k, s)]) out) : Go P M pc L (.ref 1 :: st) (none, [(k, s)]) out :=
  go_ch (fun l Z a0 p e R s1 m args below meth c α b n0 h0 uC uS ok hl T locs cells slots I => by
    obtain ⟨nm, ds, f1, f2⟩ := F
    obtain ⟨hw, fa, hx, hZ, hown, hc, hml, hret, hnm, hR, hn0, htop, hsz⟩ := ok
    obtain ⟨X, Rp, Fm, Nl, hs, u1, u2, c1, c2, hN⟩ := I
    have Fd := (rep_one Rp).2.1 f _ f1
    rw [hM] at hown
    obtain ⟨T', X', e', stp⟩ := getF X hx hZ hown (host := "") (Or.inl (hw _ f2)) Via.refl rfl Fd (g := mkF m pc (cL α b L) (cV α b (.ref 1 :: st))) rfl rfl (hb hc d)
    refine ⟨T', locs, cells, slots, ⟨X', by rw [e']; exact Rp, by rw [e']; exact Fm, Nl, by rw [e']; exact hs, u1, u2, c1, c2, hN⟩, fun target r => stp target ?_⟩
    rw [show cV α b (vv :: st) = con α b vv :: cV α b st from rfl, hr, hv] at r
    exact r) g
theorem go_getI {idx f : Nat} (F : FldS P idx f .int) (hM : (mY M).cls = cN P.2) (d : decode (mB M) pc = .ok (.getfield idx, 3)) (g : Go P M (pc + 3) L (.int (gI s f) :: st) (none, [(k, s)]) out) : Go P M pc L (.ref 1 :: st) (none, [(k, s)]) out :=
  go_getV F hM d rfl (fun _ _ => rfl) g
theorem go_getZ {idx f : Nat} (F : FldS P idx f .boolean) (hM : (mY M).cls = cN P.2) (d : decode (mB M) pc = .ok (.getfield idx, 3)) (g : Go P M (pc + 3) L (.int (gI s f) :: st) (none, [(k, s)]) out) : Go P M pc L (.ref 1 :: st) (none, [(k, s)]) out :=
  go_getV F hM d rfl (fun _ _ => rfl) g
theorem go_getJ {idx f : Nat} (F : FldS P idx f .long) (hM : (mY M).cls = cN P.2) (d : decode (mB M) pc = .ok (.getfield idx, 3)) (g : Go P M (pc + 3) L (.long (gL s f) :: st) (none, [(k, s)]) out) : Go P M pc L (.ref 1 :: st) (none, [(k, s)]) out :=
  go_getV F hM d rfl (fun _ _ => rfl) g
theorem go_getA {idx q : Nat} {ty : FieldType} (F : FldA P idx q ty) (hM : (mY M).cls = cN P.2) (d : decode (mB M) pc = .ok (.getfield idx, 3)) (hq : Nat.blt q k = true) (g : Go P M (pc + 3) L (.ref (q + 2) :: st) (none, [(k, s)]) out) : Go P M pc L (.ref 1 :: st) (none, [(k, s)]) out :=
  go_ch (fun l Z a0 p e R s1 m args below meth c α b n0 h0 uC uS ok hl T locs cells slots I => by
    obtain ⟨nm, ds, cap, f1, f2⟩ := F
    obtain ⟨hw, fa, hx, hZ, hown, hc, hml, hret, hnm, hR, hn0, htop, hsz⟩ := ok
    obtain ⟨X, Rp, Fm, Nl, hs, u1, u2, c1, c2, hN⟩ := I
    have Fd := (rep_one Rp).2.2.1 q _ f1
    rw [if_pos (show q < (k, s).1 by simpa [Nat.blt_eq] using hq)] at Fd
    rw [hM] at hown
    obtain ⟨T', X', e', stp⟩ := getF X hx hZ hown (host := "") (Or.inl (hw _ f2)) Via.refl rfl Fd (g := mkF m pc (cL α b L) (cV α b (.ref 1 :: st))) rfl rfl (hb hc d)
    refine ⟨T', locs, cells, slots, ⟨X', by rw [e']; exact Rp, by rw [e']; exact Fm, Nl, by rw [e']; exact hs, u1, u2, c1, c2, hN⟩, fun target r => stp target ?_⟩
    rw [show cV α b (.ref (q + 2) :: st) = .ref (b + (q + 1)) :: cV α b st from rfl] at r
    rw [show b + 1 + q = b + (q + 1) by omega]
    exact r) g
/-- another scalar of the object takes its value -/
theorem rep_put {Z : State} {a0 : Array Value} {ci : CI} {h h' : Heap} {b : Nat} {s s' : S} {k f : Nat} {nm ds : String} {ty : FieldType} {vv : Value} (fa : Facts Z a0 ci) (F : Rep1 Z ci h b (k, s)) (hf : (cS ci)[f]? = some (nm, ds, ty))
    (Wt : Wr h h' b (Jvm.RoadKit.slotOf Z (cN ci) nm ds) vv) (hv : vv = scV ty s' f) (ho : ∀ f' x, (cS ci)[f']? = some x → f' ≠ f → scV x.2.2 s' f' = scV x.2.2 s f') (ha : gA s' = gA s) (hbb : gB s' = gB s) : Rep1 Z ci h' b (k, s') := by
  obtain ⟨f1, f2, f3, f4⟩ := F
  obtain ⟨-, -, g1, g2, g3, -⟩ := fa
  have lt := get_lt hf
  refine ⟨f1.wr Wt, fun f' x hx => ?_, fun q x hx => ?_, fun q x hx hq => ?_⟩
  · by_cases e : f' = f
    · subst e
      cases hf.symm.trans hx
      show Fld Z h' b (cN ci) nm ds (scV ty s' f')
      rw [← hv]; exact (f2 f' _ hf).same Wt
    · have lt' := get_lt hx
      show Fld Z h' b (cN ci) x.1 x.2.1 (scV x.2.2 s' f')
      rw [ho f' x hx e]
      refine (f2 f' x hx).other Wt (Or.inr ?_)
      refine slot_ne (g1 f' x hx).1 (g1 f _ hf).1 ?_ (g1 f' x hx).2 (g1 f _ hf).2
      intro en
      have n1 : ((cS ci).map (fun x => x.1) ++ (cA ci).map (fun x => x.1))[f']? = some x.1 := by rw [List.getElem?_append_left (by simpa using lt')]; simp [hx]
      have n2 : ((cS ci).map (fun x => x.1) ++ (cA ci).map (fun x => x.1))[f]? = some nm := by rw [List.getElem?_append_left (by simpa using lt)]; simp [hf]
      rw [en] at n1
      obtain ⟨i1, j1⟩ := List.getElem?_eq_some_iff.mp n1
      obtain ⟨i2, j2⟩ := List.getElem?_eq_some_iff.mp n2
      exact e ((List.getElem_inj g3).mp (j1.trans j2.symm))
  · refine (f3 q x hx).other Wt (Or.inr ?_)
    have lt' := get_lt hx
    refine slot_ne (g2 q x hx).1 (g1 f _ hf).1 ?_ (g2 q x hx).2 (g1 f _ hf).2
    intro en
    have n1 : ((cS ci).map (fun x => x.1) ++ (cA ci).map (fun x => x.1))[(cS ci).length + q]? = some x.1 := by rw [List.getElem?_append_right (by simp)]; simp [hx]
    have n2 : ((cS ci).map (fun x => x.1) ++ (cA ci).map (fun x => x.1))[f]? = some nm := by rw [List.getElem?_append_left (by simpa using lt)]; simp [hf]
    rw [en] at n1
    obtain ⟨i1, j1⟩ := List.getElem?_eq_some_iff.mp n1
    obtain ⟨i2, j2⟩ := List.getElem?_eq_some_iff.mp n2
    have := (List.getElem_inj g3).mp (j1.trans j2.symm)
    omega
  · obtain ⟨c, A, e⟩ := f4 q x hx hq
    refine ⟨c, A.other Wt (nq (by omega)), e.trans ?_⟩
    show (arV x.2.2.1 s q).toArray = (arV x.2.2.1 s' q).toArray
    unfold arV
    split <;> simp [ha, hbb]
theorem go_putV {idx f : Nat} {ty : FieldType} {vv : Value} {s' : S} (F : FldS P idx f ty) (hM : (mY M).cls = cN P.2)
    (hlays : ∀ nm ds, (cS P.2)[f]? = some (nm, ds, ty) → Jvm.Cond.lays (cN P.2) (cN P.2) nm ds ∈ P.1 ∨ (Jvm.Cond.laysFinal (cN P.2) (cN P.2) nm ds ∈ P.1 ∧ (mY M).name = "<init>"))
    (hpos : 0 < mN M) (hr : ∀ α b, con α b vv = vv) (hn : narrow ty vv = vv) (hfi : fits ty vv = true) (hv : vv = scV ty s' f) (ho : ∀ f' x, (cS P.2)[f']? = some x → f' ≠ f → scV x.2.2 s' f' = scV x.2.2 s f') (ha : gA s' = gA s) (hbb : gB s' = gB s)
    (d : decode (mB M) pc = .ok (.putfield idx, 3)) (g : Go P M (pc + 3) L st (none, [(k, s')]) out) : Go P M pc L (vv :: .ref 1 :: st) (none, [(k, s)]) out :=
  go_ch (fun l Z a0 p e R s1 m args below meth c α b n0 h0 uC uS ok hl T locs cells slots I => by
    obtain ⟨nm, ds, f1, f2⟩ := F
    obtain ⟨hw, fa, hx, hZ, hown, hc, hml, hret, hnm, hR, hn0, htop, hsz⟩ := ok
    obtain ⟨X, Rp, Fm, Nl, hs, u1, u2, c1, c2, hN⟩ := I
    have Rp1 := rep_one Rp
    have Fd := Rp1.2.1 f _ f1
    rw [hM] at hown
    obtain ⟨T', h', X', e', Wt, stp⟩ := putF X hx hZ hown (host := "") (Or.inl (hw _ f2)) Via.refl rfl Fd Rp1.1 ((hlays nm ds f1).imp (fun q => hw _ q) (fun q => ⟨hw _ q.1, rfl, hnm.trans q.2⟩)) fa.1 (fa.2.2.1 f _ f1).2 hn hfi (g := mkF m pc (cL α b L) (vv :: .ref b :: cV α b st)) rfl rfl (hb hc d)
    refine ⟨T', _, cells, slots, ⟨X', rep_mk (by rw [e']; exact rep_put fa Rp1 f1 Wt hv ho ha hbb), by rw [e']; exact Fm.wr Wt (Nat.le_refl _) (by have := Nat.mul_le_mul_left (cK P.2 + 1) hpos; omega), Fr.snoc X' Nl hn0, by rw [e', Wt.size]; exact hs, u1, u2, c1, c2, hN⟩, fun target r => ?_⟩
    rw [show cV α b (vv :: .ref 1 :: st) = con α b vv :: .ref b :: cV α b st from rfl, hr]
    exact stp target r) g
theorem scV_sI (s : S) (f : Nat) (x : Int32) (ty : FieldType) (f' : Nat) (h : f' ≠ f) : scV ty (sI s f x) f' = scV ty s f' := by
  unfold scV; split <;> simp [gI_sI, gL_sI, h]
theorem scV_sL (s : S) (f : Nat) (x : Int64) (ty : FieldType) (f' : Nat) (h : f' ≠ f) : scV ty (sL s f x) f' = scV ty s f' := by
  unfold scV; split <;> simp [gI_sL, gL_sL, h]
/-- the word that lets the field be written -/
def Wrt (P : PI) (M : Meth) (f : Nat) : Prop := ∃ nm ds ty, (cS P.2)[f]? = some (nm, ds, ty) ∧ (Jvm.Cond.lays (cN P.2) (cN P.2) nm ds ∈ P.1 ∨ (Jvm.Cond.laysFinal (cN P.2) (cN P.2) nm ds ∈ P.1 ∧ (mY M).name = "<init>"))
theorem Wrt.use {f : Nat} {ty : FieldType} (h : Wrt P M f) : ∀ nm ds, (cS P.2)[f]? = some (nm, ds, ty) → Jvm.Cond.lays (cN P.2) (cN P.2) nm ds ∈ P.1 ∨ (Jvm.Cond.laysFinal (cN P.2) (cN P.2) nm ds ∈ P.1 ∧ (mY M).name = "<init>") := by
  obtain ⟨nm, ds, ty', h1, h2⟩ := h
  intro nm' ds' h3
  cases h1.symm.trans h3
  exact h2
theorem go_putI {idx f : Nat} (F : FldS P idx f .int) (hM : (mY M).cls = cN P.2) (hl : Wrt P M f) (hp : 0 < mN M) (d : decode (mB M) pc = .ok (.putfield idx, 3)) (g : Go P M (pc + 3) L st (none, [(k, sI s f x)]) out) : Go P M pc L (.int x :: .ref 1 :: st) (none, [(k, s)]) out :=
  go_putV F hM hl.use hp (fun _ _ => rfl) rfl rfl (by simp [scV, gI_sI]) (fun f' y _ h => scV_sI s f x _ f' h) rfl rfl d g
theorem go_putZ {idx f : Nat} (F : FldS P idx f .boolean) (hM : (mY M).cls = cN P.2) (hl : Wrt P M f) (hp : 0 < mN M) (hz : x = 0 ∨ x = 1) (d : decode (mB M) pc = .ok (.putfield idx, 3)) (g : Go P M (pc + 3) L st (none, [(k, sI s f x)]) out) : Go P M pc L (.int x :: .ref 1 :: st) (none, [(k, s)]) out :=
  go_putV F hM hl.use hp (fun _ _ => rfl) (by rcases hz with rfl | rfl <;> rfl) (by rcases hz with rfl | rfl <;> rfl) (by simp [scV, gI_sI]) (fun f' y _ h => scV_sI s f x _ f' h) rfl rfl d g
theorem go_putJ {idx f : Nat} (F : FldS P idx f .long) (hM : (mY M).cls = cN P.2) (hl : Wrt P M f) (hp : 0 < mN M) (d : decode (mB M) pc = .ok (.putfield idx, 3)) (g : Go P M (pc + 3) L st (none, [(k, sL s f u)]) out) : Go P M pc L (.long u :: .ref 1 :: st) (none, [(k, s)]) out :=
  go_putV F hM hl.use hp (fun _ _ => rfl) rfl rfl (by simp [scV, gL_sL]) (fun f' y _ h => scV_sL s f u _ f' h) rfl rfl d g
/-! ### arrays -/
theorem ix_some {A : Type} {l : List A} {j : Int32} {x : A} (h : ix l j = some x) : ¬ j < 0 ∧ l[j.toNatClampNeg]? = some x := by
  unfold ix at h; split at h
  · cases h
  · rename_i q; exact ⟨q, h⟩
theorem st_some {A : Type} {l l' : List A} {j : Int32} {x : A} (h : Jvm.AM.st l j x = some l') : ¬ j < 0 ∧ j.toNatClampNeg < l.length ∧ l' = l.set j.toNatClampNeg x := by
  unfold Jvm.AM.st at h; split at h
  · cases h
  · rename_i q; split at h
    · rename_i q2; cases h; exact ⟨q, q2, rfl⟩
    · cases h
theorem ar_in {c : Cell} {vs : List Value} {j : Int32} {vv : Value} (e : c.slots = vs.toArray) (h1 : ¬ j < 0) (h2 : vs[j.toNatClampNeg]? = some vv) : ¬ (j < 0 ∨ c.slots.size ≤ j.toNatClampNeg) ∧ c.slots[j.toNatClampNeg]? = some vv := by
  have := get_lt h2
  refine ⟨fun q => ?_, by rw [e]; simpa using h2⟩
  rcases q with q | q
  · exact h1 q
  · rw [e] at q; simp at q; omega
theorem go_iaload {q : Nat} {j : Int32} {nm ds : String} {cap : Nat} (ha : (cA P.2)[q]? = some (nm, ds, .int, cap)) (hq : Nat.blt q k = true) (hx : ix (gA s q) j = some v) (d : decode (mB M) pc = .ok (.iaload, 1)) (g : Go P M (pc + 1) L (.int v :: st) (none, [(k, s)]) out) : Go P M pc L (.int j :: .ref (q + 2) :: st) (none, [(k, s)]) out :=
  go_ch (fun l Z a0 p e R s1 m args below meth c α b n0 h0 uC uS ok hl T locs cells slots I => by
    obtain ⟨cl, A, ec⟩ := (rep_one I.2.1).2.2.2 q _ ha (by simpa [Nat.blt_eq] using hq)
    obtain ⟨h1, h2⟩ := ix_some hx
    obtain ⟨h3, h4⟩ := ar_in ec h1 (vv := .int v) (by simp [arV, h2])
    refine ⟨T, locs, cells, slots, I, fun target r => ?_⟩
    refine I.1.iaload ok.2.2.1 (j := j) (v := .int v) A.1 (State.isArrayOf_alike ok.2.2.2.1.alike A.2.1) A.2.2 h3 h4 (g := mkF m pc (cL α b L) (.int j :: .ref (b + 1 + q) :: cV α b st)) rfl rfl (hb ok.2.2.2.2.2.1 d) _ r |> fun t => ?_
    rw [show cV α b (.int j :: .ref (q + 2) :: st) = .int j :: .ref (b + (q + 1)) :: cV α b st from rfl, show b + (q + 1) = b + 1 + q by omega]
    exact t) g
theorem go_laload {q : Nat} {j : Int32} {nm ds : String} {cap : Nat} (ha : (cA P.2)[q]? = some (nm, ds, .long, cap)) (hq : Nat.blt q k = true) (hx : ix (gB s q) j = some u) (d : decode (mB M) pc = .ok (.laload, 1)) (g : Go P M (pc + 1) L (.long u :: st) (none, [(k, s)]) out) : Go P M pc L (.int j :: .ref (q + 2) :: st) (none, [(k, s)]) out :=
  go_ch (fun l Z a0 p e R s1 m args below meth c α b n0 h0 uC uS ok hl T locs cells slots I => by
    obtain ⟨cl, A, ec⟩ := (rep_one I.2.1).2.2.2 q _ ha (by simpa [Nat.blt_eq] using hq)
    obtain ⟨h1, h2⟩ := ix_some hx
    obtain ⟨h3, h4⟩ := ar_in ec h1 (vv := .long u) (by simp [arV, h2])
    refine ⟨T, locs, cells, slots, I, fun target r => ?_⟩
    refine I.1.laload ok.2.2.1 (j := j) (v := .long u) A.1 (State.isArrayOf_alike ok.2.2.2.1.alike A.2.1) A.2.2 h3 h4 (g := mkF m pc (cL α b L) (.int j :: .ref (b + 1 + q) :: cV α b st)) rfl rfl (hb ok.2.2.2.2.2.1 d) _ r |> fun t => ?_
    rw [show cV α b (.int j :: .ref (q + 2) :: st) = .int j :: .ref (b + (q + 1)) :: cV α b st from rfl, show b + (q + 1) = b + 1 + q by omega]
    exact t) g
theorem go_baload {q : Nat} {j : Int32} {nm ds : String} {ty : FieldType} {cap : Nat} (ha : (cA P.2)[q]? = some (nm, ds, ty, cap)) (hty : ty = .boolean ∨ ty = .byte) (hq : Nat.blt q k = true) (hx : ix (gA s q) j = some v) (d : decode (mB M) pc = .ok (.baload, 1)) (g : Go P M (pc + 1) L (.int v :: st) (none, [(k, s)]) out) : Go P M pc L (.int j :: .ref (q + 2) :: st) (none, [(k, s)]) out :=
  go_ch (fun l Z a0 p e R s1 m args below meth c α b n0 h0 uC uS ok hl T locs cells slots I => by
    obtain ⟨cl, A, ec⟩ := (rep_one I.2.1).2.2.2 q _ ha (by simpa [Nat.blt_eq] using hq)
    obtain ⟨h1, h2⟩ := ix_some hx
    refine ⟨T, locs, cells, slots, I, fun target r => ?_⟩
    rw [show cV α b (.int j :: .ref (q + 2) :: st) = .int j :: .ref (b + (q + 1)) :: cV α b st from rfl, show b + (q + 1) = b + 1 + q by omega]
    rcases hty with rfl | rfl
    · obtain ⟨h3, h4⟩ := ar_in ec h1 (vv := .int v) (by simp [arV, h2])
      exact I.1.baloadBooleans ok.2.2.1 (j := j) (v := .int v) A.1 (State.isArrayOf_alike ok.2.2.2.1.alike A.2.1) A.2.2 h3 h4 (g := mkF m pc (cL α b L) (.int j :: .ref (b + 1 + q) :: cV α b st)) rfl rfl (hb ok.2.2.2.2.2.1 d) _ r
    · obtain ⟨h3, h4⟩ := ar_in ec h1 (vv := .int v) (by simp [arV, h2])
      exact I.1.baloadBytes ok.2.2.1 (j := j) (v := .int v) A.1 (State.isArrayOf_alike ok.2.2.2.1.alike A.2.1) A.2.2 h3 h4 (g := mkF m pc (cL α b L) (.int j :: .ref (b + 1 + q) :: cV α b st)) rfl rfl (hb ok.2.2.2.2.2.1 d) _ r) g
theorem go_alen {q : Nat} {nm ds : String} {ty : FieldType} {cap : Nat} (ha : (cA P.2)[q]? = some (nm, ds, ty, cap)) (hty : ty ≠ .long) (hq : Nat.blt q k = true) (d : decode (mB M) pc = .ok (.arraylength, 1)) (g : Go P M (pc + 1) L (.int (gA s q).length.toInt32 :: st) (none, [(k, s)]) out) : Go P M pc L (.ref (q + 2) :: st) (none, [(k, s)]) out :=
  go_ch (fun l Z a0 p e R s1 m args below meth c α b n0 h0 uC uS ok hl T locs cells slots I => by
    obtain ⟨cl, A, ec⟩ := (rep_one I.2.1).2.2.2 q _ ha (by simpa [Nat.blt_eq] using hq)
    refine ⟨T, locs, cells, slots, I, fun target r => ?_⟩
    have e1 : cl.slots.size = (gA s q).length := by rw [ec]; cases ty <;> simp [arV] at hty ⊢
    rw [show cV α b (.ref (q + 2) :: st) = .ref (b + (q + 1)) :: cV α b st from rfl, show b + (q + 1) = b + 1 + q by omega]
    refine I.1.arraylength ok.2.2.1 (cell := cl) A.1 (State.isArrayOf_alike ok.2.2.2.1.alike A.2.1) (g := mkF m pc (cL α b L) (.ref (b + 1 + q) :: cV α b st)) rfl rfl (hb ok.2.2.2.2.2.1 d) _ ?_
    rw [e1]; exact r) g
theorem go_sload {l0 : List Int32} {os : List (Nat × S)} {j : Int32} (hx : ix l0 j = some v) (d : decode (mB M) pc = .ok (.iaload, 1)) (g : Go P M (pc + 1) L (.int v :: st) (some l0, os) out) : Go P M pc L (.int j :: .ref 0 :: st) (some l0, os) out :=
  go_ch (fun l Z a0 p e R s1 m args below meth c α b n0 h0 uC uS ok hl T locs cells slots I => by
    obtain ⟨cl, A, ec⟩ := (I.2.1.1 l0 rfl).1
    obtain ⟨h1, h2⟩ := ix_some hx
    obtain ⟨h3, h4⟩ := ar_in ec h1 (vv := .int v) (by simp [h2])
    exact ⟨T, locs, cells, slots, I, fun target r => I.1.iaload ok.2.2.1 (j := j) (v := .int v) A.1 (State.isArrayOf_alike ok.2.2.2.1.alike A.2.1) A.2.2 h3 h4 (g := mkF m pc (cL α b L) (cV α b (.int j :: .ref 0 :: st))) rfl rfl (hb ok.2.2.2.2.2.1 d) _ r⟩) g
theorem go_slen {l0 : List Int32} {os : List (Nat × S)} (d : decode (mB M) pc = .ok (.arraylength, 1)) (g : Go P M (pc + 1) L (.int l0.length.toInt32 :: st) (some l0, os) out) : Go P M pc L (.ref 0 :: st) (some l0, os) out :=
  go_ch (fun l Z a0 p e R s1 m args below meth c α b n0 h0 uC uS ok hl T locs cells slots I => by
    obtain ⟨cl, A, ec⟩ := (I.2.1.1 l0 rfl).1
    refine ⟨T, locs, cells, slots, I, fun target r => ?_⟩
    have e1 : cl.slots.size = l0.length := by rw [ec]; simp
    refine I.1.arraylength ok.2.2.1 (cell := cl) A.1 (State.isArrayOf_alike ok.2.2.2.1.alike A.2.1) (g := mkF m pc (cL α b L) (cV α b (.ref 0 :: st))) rfl rfl (hb ok.2.2.2.2.2.1 d) _ ?_
    rw [e1]; exact r) g
/-- a component of an array of the object takes its value -/
theorem rep_store {Z : State} {ci : CI} {h h' : Heap} {b : Nat} {s s' : S} {k q i : Nat} {nm ds : String} {ty : FieldType} {cap : Nat} {vv : Value} (F : Rep1 Z ci h b (k, s)) (hf : (cA ci)[q]? = some (nm, ds, ty, cap)) (hq : q < k)
    (Wt : Wr h h' (b + 1 + q) i vv) (hi : i < (arV ty s q).length) (hv : arV ty s' q = (arV ty s q).set i vv) (ho : ∀ q' x, (cA ci)[q']? = some x → q' ≠ q → arV x.2.2.1 s' q' = arV x.2.2.1 s q') (ha : gI s' = gI s) (hbb : gL s' = gL s) : Rep1 Z ci h' b (k, s') := by
  obtain ⟨f1, f2, f3, f4⟩ := F
  refine ⟨f1.wr Wt, fun f x hx => ?_, fun q' x hx => (f3 q' x hx).other Wt (Or.inl (nq (by omega))), fun q' x hx hq' => ?_⟩
  · have e : scV x.2.2 s' f = scV x.2.2 s f := by unfold scV; split <;> simp [ha, hbb]
    show Fld Z h' b (cN ci) x.1 x.2.1 (scV x.2.2 s' f)
    rw [e]
    exact (f2 f x hx).other Wt (Or.inl (nq (by omega)))
  · by_cases e : q' = q
    · subst e
      cases hf.symm.trans hx
      obtain ⟨c, A, ec⟩ := f4 q' _ hf hq
      refine ⟨_, A.same Wt, ?_⟩
      show (c.setSlot i vv).slots = (arV ty s' q').toArray
      rw [hv]
      simp only [Cell.setSlot, ec]
      simp
    · obtain ⟨c, A, ec⟩ := f4 q' x hx hq'
      refine ⟨c, A.other Wt (nq (by omega)), ec.trans ?_⟩
      rw [ho q' x hx e]
theorem arV_sA (s : S) (q : Nat) (l : List Int32) (ty : FieldType) (q' : Nat) (h : q' ≠ q) : arV ty (sA s q l) q' = arV ty s q' := by
  unfold arV; split <;> simp [gA_sA, gB_sA, h]
theorem arV_sB (s : S) (q : Nat) (l : List Int64) (ty : FieldType) (q' : Nat) (h : q' ≠ q) : arV ty (sB s q l) q' = arV ty s q' := by
  unfold arV; split <;> simp [gA_sB, gB_sB, h]
theorem in_of {c : Cell} {vs : List Value} {j : Int32} (e : c.slots = vs.toArray) (h1 : ¬ j < 0) (h2 : j.toNatClampNeg < vs.length) : ¬ (j < 0 ∨ c.slots.size ≤ j.toNatClampNeg) := fun q => by
  rcases q with q | q
  · exact h1 q
  · rw [e] at q; simp at q; omega
theorem go_iastore {q : Nat} {j : Int32} {nm ds : String} {cap : Nat} {l' : List Int32} (ha : (cA P.2)[q]? = some (nm, ds, .int, cap)) (hq : Nat.blt q k = true) (hp : 0 < mN M) (hx : Jvm.AM.st (gA s q) j x = some l') (d : decode (mB M) pc = .ok (.iastore, 1)) (g : Go P M (pc + 1) L st (none, [(k, sA s q l')]) out) : Go P M pc L (.int x :: .int j :: .ref (q + 2) :: st) (none, [(k, s)]) out :=
  go_ch (fun l Z a0 p e R s1 m args below meth c α b n0 h0 uC uS ok hl T locs cells slots I => by
    have hq' : q < k := by simpa [Nat.blt_eq] using hq
    have hqK := get_lt ha
    obtain ⟨X, Rp, Fm, Nl, hs, u1, u2, c1, c2, hN⟩ := I
    obtain ⟨cl, A, ec⟩ := (rep_one Rp).2.2.2 q _ ha hq'
    obtain ⟨h1, h2, rfl⟩ := st_some hx
    have hin := in_of ec h1 (by simpa [arV] using h2)
    obtain ⟨T', h', X', e', Wt, stp⟩ := stI X ok.2.2.1 ok.2.2.2.1 rfl A (x := x) hin (g := mkF m pc (cL α b L) (.int x :: .int j :: .ref (b + 1 + q) :: cV α b st)) rfl rfl (hb ok.2.2.2.2.2.1 d)
    refine ⟨T', _, cells, slots, ⟨X', rep_mk (by rw [e']; exact rep_store (rep_one Rp) ha hq' Wt (by simpa [arV] using h2) (by simp [arV, gA_sA, List.map_set]) (fun q' y _ h => arV_sA s q _ _ q' h) rfl rfl), by rw [e']; exact Fm.wr Wt (by omega) (by have := Nat.mul_le_mul_left (cK P.2 + 1) hp; simp only [cK] at *; omega), Fr.snoc X' Nl (by have := ok.2.2.2.2.2.2.2.2.2.2.1; omega), by rw [e', Wt.size]; exact hs, u1, u2, c1, c2, hN⟩, fun target r => ?_⟩
    rw [show cV α b (.int x :: .int j :: .ref (q + 2) :: st) = .int x :: .int j :: .ref (b + (q + 1)) :: cV α b st from rfl, show b + (q + 1) = b + 1 + q by omega]
    exact stp target r) g
theorem go_lastore {q : Nat} {j : Int32} {nm ds : String} {cap : Nat} {l' : List Int64} (ha : (cA P.2)[q]? = some (nm, ds, .long, cap)) (hq : Nat.blt q k = true) (hp : 0 < mN M) (hx : Jvm.AM.st (gB s q) j u = some l') (d : decode (mB M) pc = .ok (.lastore, 1)) (g : Go P M (pc + 1) L st (none, [(k, sB s q l')]) out) : Go P M pc L (.long u :: .int j :: .ref (q + 2) :: st) (none, [(k, s)]) out :=
  go_ch (fun l Z a0 p e R s1 m args below meth c α b n0 h0 uC uS ok hl T locs cells slots I => by
    have hq' : q < k := by simpa [Nat.blt_eq] using hq
    have hqK := get_lt ha
    obtain ⟨X, Rp, Fm, Nl, hs, u1, u2, c1, c2, hN⟩ := I
    obtain ⟨cl, A, ec⟩ := (rep_one Rp).2.2.2 q _ ha hq'
    obtain ⟨h1, h2, rfl⟩ := st_some hx
    have hin := in_of ec h1 (by simpa [arV] using h2)
    obtain ⟨T', h', X', e', Wt, stp⟩ := stJ X ok.2.2.1 ok.2.2.2.1 rfl A (x := u) hin (g := mkF m pc (cL α b L) (.long u :: .int j :: .ref (b + 1 + q) :: cV α b st)) rfl rfl (hb ok.2.2.2.2.2.1 d)
    refine ⟨T', _, cells, slots, ⟨X', rep_mk (by rw [e']; exact rep_store (rep_one Rp) ha hq' Wt (by simpa [arV] using h2) (by simp [arV, gB_sB, List.map_set]) (fun q' y _ h => arV_sB s q _ _ q' h) rfl rfl), by rw [e']; exact Fm.wr Wt (by omega) (by have := Nat.mul_le_mul_left (cK P.2 + 1) hp; simp only [cK] at *; omega), Fr.snoc X' Nl (by have := ok.2.2.2.2.2.2.2.2.2.2.1; omega), by rw [e', Wt.size]; exact hs, u1, u2, c1, c2, hN⟩, fun target r => ?_⟩
    rw [show cV α b (.long u :: .int j :: .ref (q + 2) :: st) = .long u :: .int j :: .ref (b + (q + 1)) :: cV α b st from rfl, show b + (q + 1) = b + 1 + q by omega]
    exact stp target r) g
theorem go_bastore {q : Nat} {j : Int32} {nm ds : String} {ty : FieldType} {cap : Nat} {l' : List Int32} (ha : (cA P.2)[q]? = some (nm, ds, ty, cap)) (hty : ty = .boolean ∨ ty = .byte) (hq : Nat.blt q k = true) (hp : 0 < mN M) (hv : v = nar ty x) (hx : Jvm.AM.st (gA s q) j v = some l') (d : decode (mB M) pc = .ok (.bastore, 1)) (g : Go P M (pc + 1) L st (none, [(k, sA s q l')]) out) : Go P M pc L (.int x :: .int j :: .ref (q + 2) :: st) (none, [(k, s)]) out :=
  go_ch (fun l Z a0 p e R s1 m args below meth c α b n0 h0 uC uS ok hl T locs cells slots I => by
    have hq' : q < k := by simpa [Nat.blt_eq] using hq
    have hqK := get_lt ha
    obtain ⟨X, Rp, Fm, Nl, hs, u1, u2, c1, c2, hN⟩ := I
    obtain ⟨cl, A, ec⟩ := (rep_one Rp).2.2.2 q _ ha hq'
    obtain ⟨h1, h2, rfl⟩ := st_some hx
    subst hv
    have hlen : j.toNatClampNeg < (arV ty s q).length := by rcases hty with rfl | rfl <;> simpa [arV] using h2
    have hset : arV ty (sA s q ((gA s q).set j.toNatClampNeg (nar ty x))) q = (arV ty s q).set j.toNatClampNeg (.int (nar ty x)) := by rcases hty with rfl | rfl <;> simp [arV, gA_sA, List.map_set]
    have hin := in_of ec h1 hlen
    obtain ⟨T', h', X', e', Wt, stp⟩ : ∃ T' h', Stand p l e R s1 m args below meth c T' (locs ++ [⟨b + 1 + q, j.toNatClampNeg⟩]) cells slots ∧ T'.heap = h' ∧ Wr T.heap h' (b + 1 + q) j.toNatClampNeg (.int (nar ty x)) ∧ ∀ target, Steps p.tables e below (T'.setTop (mkF m (pc + 1) (cL α b L) (cV α b st))) target → Steps p.tables e below (T.setTop (mkF m pc (cL α b L) (.int x :: .int j :: .ref (b + 1 + q) :: cV α b st))) target := by
      rcases hty with rfl | rfl
      · exact stZ X ok.2.2.1 ok.2.2.2.1 rfl A (x := x) hin (g := mkF m pc (cL α b L) (.int x :: .int j :: .ref (b + 1 + q) :: cV α b st)) rfl rfl (hb ok.2.2.2.2.2.1 d)
      · exact stB X ok.2.2.1 ok.2.2.2.1 rfl A (x := x) hin (g := mkF m pc (cL α b L) (.int x :: .int j :: .ref (b + 1 + q) :: cV α b st)) rfl rfl (hb ok.2.2.2.2.2.1 d)
    refine ⟨T', _, cells, slots, ⟨X', rep_mk (by rw [e']; exact rep_store (rep_one Rp) ha hq' Wt hlen hset (fun q' y _ h => arV_sA s q _ _ q' h) rfl rfl), by rw [e']; exact Fm.wr Wt (by omega) (by have := Nat.mul_le_mul_left (cK P.2 + 1) hp; simp only [cK] at *; omega), Fr.snoc X' Nl (by have := ok.2.2.2.2.2.2.2.2.2.2.1; omega), by rw [e', Wt.size]; exact hs, u1, u2, c1, c2, hN⟩, fun target r => ?_⟩
    rw [show cV α b (.int x :: .int j :: .ref (q + 2) :: st) = .int x :: .int j :: .ref (b + (q + 1)) :: cV α b st from rfl, show b + (q + 1) = b + 1 + q by omega]
    exact stp target r) g
/-! ## 5. A method as a whole; calls -/
def Call (P : PI) (M : Meth) (as : List Value) (w : W) (out : Option Value × W) : Prop :=
  ∀ (l : Launch) (Z : State) (a0 : Array Value) (ws : List Jvm.Cond) (α b n0 : Nat) (h0 : Heap), (∀ d ∈ P.1, d.before a0 Z = true) → Facts Z a0 P.2 → n0 ≤ b → RepW Z P.2 α b w h0 → w.2.length ≤ mN M → (mTop M = true → h0.size = b + usedC w ∧ usedC w = mUC M ∧ usedS P.2 w = mUS M) →
    MetFree l (mY M) (head1 (Jvm.Cond.code (mY M) (mB M) (mL M) (mT M) :: ws) (mR M)) (fun a U => a = (cV α b as).toArray ∧ Z.Warmed39 U.vm ∧ U.heap = h0) (fun _ _ _ _ _ => True)
      (fun _ U o U' => ∃ v L, o = .returned v ∧ (v = out.1.map (con α b) ∧ Fr n0 L ∧ RepW Z P.2 α b out.2 U'.heap ∧ Frm b (b + (cK P.2 + 1) * mN M) h0 U'.heap ∧ ∃ k, U'.heap.size = h0.size + k ∧ k + usedC w = usedC out.2) ∧ FrameEnd U o U' L (mR M).cells (mR M).slots)
theorem call_of_go {as : List Value} (hpl : plainName (mY M).cls = true) (hlen : (entryL as (mL M)).length = mL M) (hret : mT M = none → out.1 = none) (g : Go P M 0 (entryL as (mL M)) [] w out) : Call P M as w out := by
  intro l Z a0 ws α b n0 h0 hw fa hn0 Rp hN htop
  refine MetFree.of_bodySF (plainFor_of_name hpl) hisR ?_
  intro p e s m args below meth c s₁ Bd hml0 hP hK
  obtain ⟨rfl, hZ, hh⟩ := hP
  have X0 : Stand p l e (mR M) s m (cV α b as).toArray below meth c s₁ [] 0 0 := Stand.of_body Bd
  have e0 : s₁.heap = h0 := by rw [← hh, Bd.state]; rfl
  obtain ⟨T', L', c', n', I', fin⟩ := g hlen l Z a0 p e (mR M) s m (cV α b as).toArray below meth c α b n0 h0 (usedC w) (usedS P.2 w) ⟨hw, fa, Bd.exec, hZ, findClass_of_methodNamed Bd.named, Bd.bytes, hml0, Bd.returns, (name_of_methodNamed Bd.named Bd.method).1, rfl, hn0, htop, by rw [hh]⟩ s₁ [] 0 0 ⟨X0, by rw [e0]; exact Rp, by rw [e0]; exact Frm.refl _ _ _, Fr.nil _, by rw [e0]; rfl, by simp, by simp, Nat.zero_le _, Nat.zero_le _, hN⟩
  obtain ⟨X', Rp', Fm', Nl', hs', u1', u2', c1', c2', hN'⟩ := I'
  obtain ⟨fs, hr, hrun, hended, hW, hsame⟩ := X'.leave (v := out.1.map (con α b)) (fun h => by rw [Bd.returns] at h; rw [hret h]; rfl)
  refine ⟨_, _, ?_, hrun, hended, _, _, rfl, ⟨rfl, Nl', Rp', Fm', c', hs', u1'⟩, ⟨_, rfl⟩, hW, hsame.mono c1' c2'⟩
  have q := fin fs hr
  rw [← entry_locals] at q
  exact q
def nr : Value → Bool
  | .ref _ => false
  | _ => true
theorem con_nr {α b : Nat} {v : Value} (h : nr v = true) : con α b v = v := by
  cases v <;> first | rfl | cases h
theorem cV_nr {α b : Nat} {l : List Value} (h : l.all nr = true) : cV α b l = l := by
  have : ∀ x ∈ l, con α b x = x := fun x hx => con_nr (List.all_eq_true.mp h x hx)
  unfold cV
  exact (List.map_congr_left this).trans (List.map_id _)
theorem rep_obj {Z : State} {ci : CI} {α b : Nat} {h : Heap} {i : Nat} (F : RepW Z ci α b w h) (ho : w.2[i]? = some o) : RepW Z ci 0 (b + (cK ci + 1) * i) (none, [o]) h := rep_mk (F.2 i o ho)
theorem rep_back {Z : State} {ci : CI} {α α' b : Nat} {h h' : Heap} {i : Nat} (F : RepW Z ci α b w h) (ho : w.2[i]? = some o) (G : RepW Z ci α' (b + (cK ci + 1) * i) (none, [o']) h') (Fm : Frm (b + (cK ci + 1) * i) (b + (cK ci + 1) * i + (cK ci + 1) * 1) h h') : RepW Z ci α b (w.1, w.2.set i o') h' := by
  refine ⟨fun l hl => ⟨((F.1 l hl).1).frm fun c q => Fm _ _ q (Or.inl ?_), (F.1 l hl).2⟩, fun j oj hj => ?_⟩
  · have := (F.1 l hl).2; exact Nat.lt_of_lt_of_le this (Nat.le_add_right _ _)
  · by_cases e : j = i
    · subst e
      rw [show (w.1, w.2.set j o').2 = w.2.set j o' from rfl, List.getElem?_set_self (get_lt ho)] at hj
      cases hj
      exact rep_one G
    · rw [show (w.1, w.2.set i o').2 = w.2.set i o' from rfl, List.getElem?_set_ne (Ne.symm e)] at hj
      refine (F.2 j oj hj).frm fun x c q1 q2 q3 => Fm _ _ q3 ?_
      rcases Nat.lt_or_gt_of_ne e with q | q
      · have := Nat.mul_le_mul_left (cK ci + 1) q
        rw [Nat.mul_succ] at this; omega
      · have := Nat.mul_le_mul_left (cK ci + 1) q
        rw [Nat.mul_succ] at this; omega
theorem sum_set {A : Type} (f : A → Nat) {a a' : A} : ∀ {l : List A} {i : Nat}, l[i]? = some a → ((l.set i a').map f).sum + f a = (l.map f).sum + f a'
  | [], i, h => by simp at h
  | b :: r, 0, h => by simp at h; subst h; simp; omega
  | b :: r, i + 1, h => by
    simp only [List.getElem?_cons_succ] at h
    have := sum_set f (a' := a') h
    simp only [List.set_cons_succ, List.map_cons, List.sum_cons]; omega
def CQ (ci : CI) (Z : State) (α b n0 : Nat) (h0 : Heap) (N : Nat) (w : W) (out : Option Value × W) (v : Option Value) (hp : Heap) (L : List Loc) : Prop := v = out.1.map (con α b) ∧ Fr n0 L ∧ RepW Z ci α b out.2 hp ∧ Frm b (b + (cK ci + 1) * N) h0 hp ∧ ∃ k, hp.size = h0.size + k ∧ k + usedC w = usedC out.2
/-- what a callee that makes nothing must fit into -/
def Small (M M' : Meth) (rest : List Value) : Prop := (mR M').cells = 0 ∧ (mR M').slots = 0 ∧ mTop M' = false ∧ Nat.ble ((mR M').frames + 1) (mR M).frames = true ∧ Nat.ble ((rest.map fun v => v.category).sum + (mL M' + 11) + (mR M').locals) (mR M).locals = true
theorem ret_st {α b b' : Nat} {r : Option Value} {rest : List Value} (hr : r.all nr = true) : (r.map (con 0 b')).toList ++ cV α b rest = cV α b (r.toList ++ rest) := by
  cases r with
  | none => rfl
  | some v => simp only [Option.map_some, Option.toList_some, cV, List.cons_append, List.nil_append, List.map_cons]; rw [con_nr (show nr v = true from hr), con_nr (show nr v = true from hr)]
theorem inv_obj {l : Launch} {Z : State} {p : Program} {e : Env} {R : Room} {s : State} {m : MethodId} {args : Array Value} {below : List Frame} {meth : Method} {c : Code} {α b n0 : Nat} {h0 : Heap} {uC uS : Nat} {T T2 : State} {locs L2 : List Loc} {cells slots rc rs i : Nat}
    (I : Inv P M l Z p e R s m args below meth c α b n0 h0 uC uS w T locs cells slots) (ho : w.2[i]? = some o) (X2 : Stand p l e R s m args below meth c T2 (locs ++ L2) (cells + rc) (slots + rs))
    (N2 : Fr n0 L2) (R2 : RepW Z P.2 0 (b + (cK P.2 + 1) * i) (none, [o']) T2.heap) (F2 : Frm (b + (cK P.2 + 1) * i) (b + (cK P.2 + 1) * i + (cK P.2 + 1) * 1) T.heap T2.heap) (k2 : ∃ k, T2.heap.size = T.heap.size + k ∧ k + usedC (none, [o]) = usedC (none, [o']))
    (hC : o'.1 = o.1 + rc) (hS : usedS P.2 (none, [o']) = usedS P.2 (none, [o]) + rs) (q1 : cells + rc ≤ R.cells) (q2 : slots + rs ≤ R.slots) : Inv P M l Z p e R s m args below meth c α b n0 h0 uC uS (w.1, w.2.set i o') T2 (locs ++ L2) (cells + rc) (slots + rs) := by
  obtain ⟨X, Rp, Fm, Nl, hs, u1, u2, c1, c2, hN⟩ := I
  obtain ⟨k, k1, k3⟩ := k2
  have hi := get_lt ho
  have a1 := sum_set (fun o : Nat × S => 1 + o.1) (a' := o') ho
  have a2 := sum_set (fun o : Nat × S => cF P.2 + (((cA P.2).take o.1).map fun x => x.2.2.2).sum) (a' := o') ho
  have hle : (cK P.2 + 1) * (i + 1) ≤ (cK P.2 + 1) * mN M := Nat.mul_le_mul_left _ (by omega)
  rw [Nat.mul_succ] at hle
  refine ⟨X2, rep_back Rp ho R2 F2, Fm.trans (F2.wide (Nat.le_add_right _ _) (by omega)), Nl.app N2, ?_, ?_, ?_, q1, q2, by simpa using hN⟩
  · simp only [usedC, List.map_cons, List.map_nil, List.sum_cons, List.sum_nil] at k3; omega
  · simp only [usedC] at u1 ⊢; omega
  · simp only [usedS, List.map_cons, List.map_nil, List.sum_cons, List.sum_nil] at u2 hS ⊢; omega
def LinkV (P : PI) (own : String) (idx : Nat) (M' : Meth) : Prop := Jvm.Cond.methodLink own idx (mY M') ∈ P.1 ∧ Jvm.Cond.declares (mY M') ∈ P.1 ∧ Jvm.Cond.selects (cN P.2) (mY M') (mY M') ∈ P.1 ∧ Jvm.Cond.instanceMethod (mY M') ∈ P.1 ∧ Jvm.Cond.code (mY M') (mB M') (mL M') (mT M') ∈ P.1 ∧ (mY M').cls = cN P.2 ∧ mN M' = 1
def LinkP (P : PI) (own : String) (idx : Nat) (M' : Meth) : Prop := Jvm.Cond.methodLink own idx (mY M') ∈ P.1 ∧ Jvm.Cond.instanceMethod (mY M') ∈ P.1 ∧ Jvm.Cond.privateMethod (mY M') ∈ P.1 ∧ Jvm.Cond.code (mY M') (mB M') (mL M') (mT M') ∈ P.1 ∧ (mY M').cls = cN P.2 ∧ mN M' = 1
def LinkS (P : PI) (own : String) (idx : Nat) (M' : Meth) : Prop := Jvm.Cond.methodLink own idx (mY M') ∈ P.1 ∧ Jvm.Cond.static (mY M') ∈ P.1 ∧ Jvm.Cond.initialized (mY M').cls ∈ P.1 ∧ Jvm.Cond.code (mY M') (mB M') (mL M') (mT M') ∈ P.1 ∧ ((mY M').cls ≠ "java/lang/invoke/MethodHandle" ∧ (mY M').cls ≠ "java/lang/invoke/VarHandle")
def LinkI (P : PI) (own : String) (idx : Nat) (M' : Meth) : Prop := Jvm.Cond.methodLink own idx (mY M') ∈ P.1 ∧ Jvm.Cond.instanceMethod (mY M') ∈ P.1 ∧ Jvm.Cond.code (mY M') (mB M') (mL M') (mT M') ∈ P.1 ∧ (mY M').cls = cN P.2 ∧ mN M' = 1 ∧ mT M' = none ∧ (mY M').name = "<init>"
variable {M' : Meth} {i idx id : Nat} {as rest : List Value} {rv : Option Value} {ps : List FieldType} {rt : Option FieldType}
theorem cV_call {α b : Nat} {jd : Nat} (hnr : as.all nr = true) (hst : st = as.reverse ++ .ref (jd + 1) :: rest) : cV α b st = as.reverse ++ .ref (b + jd) :: cV α b rest := by
  subst hst
  have h1 : cV α b as.reverse = as.reverse := cV_nr (by rw [List.all_reverse]; exact hnr)
  unfold cV at h1 ⊢
  rw [List.map_append, h1]; rfl
theorem go_virt (lk : LinkV P (mY M).cls idx M') (pd : parseMethodDescriptor (mY M').desc = some ⟨ps, rt⟩) (hn : as.length = ps.length) (hid : id = (cK P.2 + 1) * i + 1) (hst : st = as.reverse ++ .ref id :: rest) (hnr : as.all nr = true) (hrr : rv.all nr = true) (ho : w.2[i]? = some o) (hw' : w' = (w.1, w.2.set i o')) (hC : o'.1 = o.1) (sm : Small M M' rest)
    (d : decode (mB M) pc = .ok (.invokevirtual idx, 3)) (cl : Call P M' (.ref 1 :: as) (none, [o]) (rv, (none, [o']))) (g : Go P M (pc + 3) L (rv.toList ++ rest) w' out) : Go P M pc L st w out :=
  go_ch (fun l Z a0 p e R s1 m args below meth c α b n0 h0 uC uS ok hl T locs cells slots I => by
    subst hw' hid
    obtain ⟨hw, fa, hx, hZ, hown, hc, hml, hret, hnm, hR, hn0, htop, hsz⟩ := ok
    obtain ⟨k1, k2, k3, k4, k5, k6, k7⟩ := lk
    obtain ⟨z1, z2, z3, z4, z5⟩ := sm
    have C := cl l Z a0 [] 0 (b + (cK P.2 + 1) * i) n0 T.heap hw fa (Nat.le_trans hn0 (Nat.le_add_right _ _)) (rep_obj I.2.1 ho) (by rw [k7]; exact Nat.le_refl _) (fun q => by rw [z3] at q; cases q)
    have Bk := backOf (Q := CQ P.2 Z 0 (b + (cK P.2 + 1) * i) n0 T.heap (mN M') (none, [o]) (rv, (none, [o']))) (R := R) (p := p) (e := e) (below := below) (s := s1) (args := args) (len := 3) (W := (rest.map fun v => v.category).sum) C hZ (hw _ k5) (by rw [k6]; exact fa.2.1) (by rw [hR]; exact Nat.le_of_ble_eq_true z4) (by rw [hR]; exact Nat.le_of_ble_eq_true z5)
    have E := (I.2.1.2 i o ho).1
    obtain ⟨cB, kB, q1, q2, q3⟩ := isOf (T := T) hZ rfl E
    obtain ⟨v, vm1, ⟨T2, Lx, kx, nx⟩, -, X2, ⟨L2, hQ, l2, y2, n2⟩, stp⟩ := I.1.virtualBack hx (y := mY M') (z := mY M') hown (mvT hZ (hw _ k1)) (mvT hZ (hw _ k2)) (notFace_of_selects (args := #[]) (mvT hZ (hw _ k3))) (mvT hZ (hw _ k3)) (mvT hZ (hw _ k4)) (by rw [k6]; exact fa.2.2.2.2.2.2) Bk q1 q3 (g := mkF m pc (cL α b L) (cV α b st)) rfl (by show (cL α b L).size = c.maxLocals; rw [cL_size, hl, hml]) (Steps.refl _) (argsL := as) (rest := cV α b rest) (lenOf pd hn) (cV_call hnr hst)
      (by show 2 * 0 + _ ≤ _; rw [cV_sum]; exact Nat.le_of_eq (Nat.zero_add _)) (hb hc d) (fun _ _ => ⟨by rw [show (cV 0 (b + (cK P.2 + 1) * i) (.ref 1 :: as)) = .ref (b + (cK P.2 + 1) * i) :: cV 0 (b + (cK P.2 + 1) * i) as from rfl, cV_nr hnr], rfl, by rw [z1]; exact I.2.2.2.2.2.2.2.1, by rw [z2]; exact I.2.2.2.2.2.2.2.2.1⟩)
    dsimp only [Pt.U, Pt.locs, Pt.cells, Pt.slots] at X2 l2 y2 n2 stp hQ
    subst l2 y2 n2
    obtain ⟨rfl, N2, R2, F2, k8⟩ := hQ
    rw [k7] at F2
    refine ⟨T2, _, _, _, inv_obj I ho X2 N2 R2 F2 k8 (by rw [z1]; exact hC) (by rw [z2]; simp [usedS, hC]) (by rw [z1]; exact I.2.2.2.2.2.2.2.1) (by rw [z2]; exact I.2.2.2.2.2.2.2.2.1), fun target r => stp.trans ?_⟩
    rw [← ret_st (b' := b + (cK P.2 + 1) * i) hrr] at r
    exact r) g
theorem go_priv (lk : LinkP P (mY M).cls idx M') (pd : parseMethodDescriptor (mY M').desc = some ⟨ps, rt⟩) (hn : as.length = ps.length) (hid : id = (cK P.2 + 1) * i + 1) (hst : st = as.reverse ++ .ref id :: rest) (hnr : as.all nr = true) (hrr : rv.all nr = true) (ho : w.2[i]? = some o) (hw' : w' = (w.1, w.2.set i o')) (hC : o'.1 = o.1) (sm : Small M M' rest)
    (d : decode (mB M) pc = .ok (.invokevirtual idx, 3)) (cl : Call P M' (.ref 1 :: as) (none, [o]) (rv, (none, [o']))) (g : Go P M (pc + 3) L (rv.toList ++ rest) w' out) : Go P M pc L st w out :=
  go_ch (fun l Z a0 p e R s1 m args below meth c α b n0 h0 uC uS ok hl T locs cells slots I => by
    subst hw' hid
    obtain ⟨hw, fa, hx, hZ, hown, hc, hml, hret, hnm, hR, hn0, htop, hsz⟩ := ok
    obtain ⟨k1, k4, k3, k5, k6, k7⟩ := lk
    obtain ⟨z1, z2, z3, z4, z5⟩ := sm
    have C := cl l Z a0 [] 0 (b + (cK P.2 + 1) * i) n0 T.heap hw fa (Nat.le_trans hn0 (Nat.le_add_right _ _)) (rep_obj I.2.1 ho) (by rw [k7]; exact Nat.le_refl _) (fun q => by rw [z3] at q; cases q)
    have Bk := backOf (Q := CQ P.2 Z 0 (b + (cK P.2 + 1) * i) n0 T.heap (mN M') (none, [o]) (rv, (none, [o']))) (R := R) (p := p) (e := e) (below := below) (s := s1) (args := args) (len := 3) (W := (rest.map fun v => v.category).sum) C hZ (hw _ k5) (by rw [k6]; exact fa.2.1) (by rw [hR]; exact Nat.le_of_ble_eq_true z4) (by rw [hR]; exact Nat.le_of_ble_eq_true z5)
    obtain ⟨cell, q1, q2⟩ := (I.2.1.2 i o ho).1.cell
    have hy : (mY M').cls ≠ "java/lang/invoke/MethodHandle" ∧ (mY M').cls ≠ "java/lang/invoke/VarHandle" := by rw [k6]; exact fa.2.2.2.2.2.2
    have hpriv : s1.PrivateAt (mY M') := Cond.privateMethod_at (mvP hZ (hw _ k3) (args := #[]))
    have hin : (Jvm.Cond.instanceMethod (mY M')).before args s1 = true := mvT hZ (hw _ k4)
    obtain ⟨c2, kk, i1, i2, i3, i4, -⟩ := Cond.instantiable_spec fa.1
    obtain ⟨k', j1, j2⟩ := hZ.alike.2.2 _ _ i2
    have hsel : (Jvm.Cond.selects (mY M').cls (mY M') (mY M')).before args s1 = true := selects_self_of_private (c := c2) (k := k') (by rw [k6, hZ.alike.findClass]; exact i1) j1 (by
      have : kk.isInterface = false := by simp only [Bool.or_eq_false_iff] at i4; exact i4.1
      rw [j2]; exact this) hpriv hin hy
    obtain ⟨v, vm1, ⟨T2, Lx, kx, nx⟩, -, X2, ⟨L2, hQ, l2, y2, n2⟩, stp⟩ := I.1.privateBack hx (y := mY M') hown (mvT hZ (hw _ k1)) hin hsel hpriv (mvT hZ (hw _ k5)) hy Bk (g := mkF m pc (cL α b L) (cV α b st)) rfl (by show (cL α b L).size = c.maxLocals; rw [cL_size, hl, hml]) (Steps.refl _) (a := b + (cK P.2 + 1) * i) q1 q2 (argsL := as) (rest := cV α b rest) (lenOf pd hn) (cV_call hnr hst)
      (by show 2 * 0 + _ ≤ _; rw [cV_sum]; exact Nat.le_of_eq (Nat.zero_add _)) (hb hc d) (fun _ _ => ⟨by rw [show (cV 0 (b + (cK P.2 + 1) * i) (.ref 1 :: as)) = .ref (b + (cK P.2 + 1) * i) :: cV 0 (b + (cK P.2 + 1) * i) as from rfl, cV_nr hnr], rfl, by rw [z1]; exact I.2.2.2.2.2.2.2.1, by rw [z2]; exact I.2.2.2.2.2.2.2.2.1⟩)
    dsimp only [Pt.U, Pt.locs, Pt.cells, Pt.slots] at X2 l2 y2 n2 stp hQ
    subst l2 y2 n2
    obtain ⟨rfl, N2, R2, F2, k8⟩ := hQ
    rw [k7] at F2
    refine ⟨T2, _, _, _, inv_obj I ho X2 N2 R2 F2 k8 (by rw [z1]; exact hC) (by rw [z2]; simp [usedS, hC]) (by rw [z1]; exact I.2.2.2.2.2.2.2.1) (by rw [z2]; exact I.2.2.2.2.2.2.2.2.1), fun target r => stp.trans ?_⟩
    rw [← ret_st (b' := b + (cK P.2 + 1) * i) hrr] at r
    exact r) g
theorem go_stat (lk : LinkS P (mY M).cls idx M') (pd : parseMethodDescriptor (mY M').desc = some ⟨ps, rt⟩) (hn : as.length = ps.length) (hst : st = as.reverse ++ rest) (hN' : mN M' ≤ mN M ∧ w.2.length ≤ mN M') (hu : usedC w' = usedC w ∧ usedS P.2 w' = usedS P.2 w ∧ w'.2.length = w.2.length) (sm : Small M M' rest)
    (d : decode (mB M) pc = .ok (.invokestatic idx, 3)) (cl : Call P M' as w (rv, w')) (g : Go P M (pc + 3) L (rv.toList ++ rest) w' out) : Go P M pc L st w out :=
  go_ch (fun l Z a0 p e R s1 m args below meth c α b n0 h0 uC uS ok hl T locs cells slots I => by
    obtain ⟨hw, fa, hx, hZ, hown, hc, hml, hret, hnm, hR, hn0, htop, hsz⟩ := ok
    obtain ⟨k1, k2, k3, k5, k6⟩ := lk
    obtain ⟨z1, z2, z3, z4, z5⟩ := sm
    have C := cl l Z a0 [] α b n0 T.heap hw fa hn0 I.2.1 hN'.2 (fun q => by rw [z3] at q; cases q)
    have Bk := backOf (Q := CQ P.2 Z α b n0 T.heap (mN M') w (rv, w')) (R := R) (p := p) (e := e) (below := below) (s := s1) (args := args) (len := 3) (W := (rest.map fun v => v.category).sum) C hZ (hw _ k5) (hw _ k3) (by rw [hR]; exact Nat.le_of_ble_eq_true z4) (by rw [hR]; exact Nat.le_of_ble_eq_true z5)
    obtain ⟨v, vm1, ⟨T2, Lx, kx, nx⟩, -, X2, ⟨L2, hQ, l2, y2, n2⟩, stp⟩ := Jvm.LawKit.callS I.1 hx (y := mY M') hown (mvT hZ (hw _ k1)) (mvT hZ (hw _ k2)) (mvT hZ (hw _ k3)) (mvT hZ (hw _ k5)) k6 Bk (g := mkF m pc (cL α b L) (cV α b st)) rfl (by show (cL α b L).size = c.maxLocals; rw [cL_size, hl, hml]) (argsL := cV α b as) (rest := cV α b rest) (lenOf pd (by simpa [cV] using hn)) (by subst hst; simp [cV])
      (by show 2 * 0 + _ ≤ _; rw [cV_sum]; exact Nat.le_of_eq (Nat.zero_add _)) (hb hc d) (fun _ _ => ⟨rfl, rfl, by rw [z1]; exact I.2.2.2.2.2.2.2.1, by rw [z2]; exact I.2.2.2.2.2.2.2.2.1⟩)
    dsimp only [Pt.U, Pt.locs, Pt.cells, Pt.slots] at X2 l2 y2 n2 stp hQ
    subst l2 y2 n2
    obtain ⟨rfl, N2, R2, F2, k, k8, k9⟩ := hQ
    obtain ⟨X, Rp, Fm, Nl, hs, u1, u2, c1, c2, hN⟩ := I
    rw [z1, z2] at X2
    refine ⟨T2, _, _, _, ⟨X2, R2, Fm.trans (F2.wide (Nat.le_refl _) (by have := Nat.mul_le_mul_left (cK P.2 + 1) hN'.1; omega)), Nl.app N2, ?_, ?_, ?_, c1, c2, by rw [hu.2.2]; exact hN⟩, fun target r => stp target ?_⟩
    · rw [k8]; have := hu.1; simp only at k9; omega
    · rw [hu.1]; exact u1
    · rw [hu.2.1]; exact u2
    · have e1 : cV α b (rv.toList ++ rest) = (rv.map (con α b)).toList ++ cV α b rest := by cases rv <;> rfl
      rw [e1] at r; exact r) g
/-- a constructor, by its contract -/
theorem go_init {k2 : Nat} {s2 : S} (lk : LinkI P (mY M).cls idx M') (pd : parseMethodDescriptor (mY M').desc = some ⟨ps, rt⟩) (hn : as.length = ps.length) (hid : id = (cK P.2 + 1) * i + 1) (hst : st = as.reverse ++ .ref id :: rest) (hnr : as.all nr = true) (ho : w.2[i]? = some (k, s)) (hw' : w' = (w.1, w.2.set i (k2, s2)))
    (hC : k2 = k + (mR M').cells) (hS : usedS P.2 (none, [(k2, s2)]) = usedS P.2 (none, [(k, s)]) + (mR M').slots) (htM : mTop M = true) (hR1 : Nat.ble (usedC w + (mR M').cells) ((mR M).cells + mUC M) = true) (hR2 : Nat.ble (usedS P.2 w + (mR M').slots) ((mR M).slots + mUS M) = true)
    (hq : usedC w = (cK P.2 + 1) * i + usedC (none, [(k, s)]) ∧ usedC (none, [(k, s)]) = mUC M' ∧ usedS P.2 (none, [(k, s)]) = mUS M') (sm : Nat.ble ((mR M').frames + 1) (mR M).frames = true ∧ Nat.ble ((rest.map fun v => v.category).sum + (mL M' + 11) + (mR M').locals) (mR M).locals = true)
    (d : decode (mB M) pc = .ok (.invokespecial idx, 3)) (cl : Call P M' (.ref 1 :: as) (none, [(k, s)]) (none, (none, [(k2, s2)]))) (g : Go P M (pc + 3) L rest w' out) : Go P M pc L st w out :=
  go_ch (fun l Z a0 p e R s1 m args below meth c α b n0 h0 uC uS ok hl T locs cells slots I => by
    subst hw' hid
    obtain ⟨hw, fa, hx, hZ, hown, hc, hml, hret, hnm, hR, hn0, htop, hsz⟩ := ok
    obtain ⟨k1, k4, k5, k6, k7, k9, k10⟩ := lk
    obtain ⟨z4, z5⟩ := sm
    obtain ⟨t1, t2, t3⟩ := htop htM
    have Ic := I.2.2.2.2.2.1
    have Is := I.2.2.2.2.2.2.1
    have b1 : cells + (mR M').cells ≤ R.cells := by have := Nat.le_of_ble_eq_true hR1; rw [hR]; omega
    have b2 : slots + (mR M').slots ≤ R.slots := by have := Nat.le_of_ble_eq_true hR2; rw [hR]; omega
    have C := cl l Z a0 [] 0 (b + (cK P.2 + 1) * i) n0 T.heap hw fa (Nat.le_trans hn0 (Nat.le_add_right _ _)) (rep_obj I.2.1 ho) (by rw [k7]; exact Nat.le_refl _) (fun _ => ⟨by rw [I.2.2.2.2.1]; have := hq.1; omega, hq.2.1, hq.2.2⟩)
    have Bk := backOf (Q := CQ P.2 Z 0 (b + (cK P.2 + 1) * i) n0 T.heap (mN M') (none, [(k, s)]) (none, (none, [(k2, s2)]))) (R := R) (p := p) (e := e) (below := below) (s := s1) (args := args) (len := 3) (W := (rest.map fun v => v.category).sum) C hZ (hw _ k5) (by rw [k6]; exact fa.2.1) (by rw [hR]; exact Nat.le_of_ble_eq_true z4) (by rw [hR]; exact Nat.le_of_ble_eq_true z5)
    have hy : (mY M').cls ≠ "java/lang/invoke/MethodHandle" ∧ (mY M').cls ≠ "java/lang/invoke/VarHandle" := by rw [k6]; exact fa.2.2.2.2.2.2
    have hcd := hw _ k5
    rw [k9] at hcd
    obtain ⟨v, vm1, ⟨T2, Lx, kx, nx⟩, -, X2, ⟨L2, hQ, l2, y2, n2⟩, stp⟩ := I.1.specialBack hx (y := mY M') k10 hown (mvT hZ (hw _ k1)) (mvT hZ (hw _ k4)) (mvT hZ hcd) hy Bk (g := mkF m pc (cL α b L) (cV α b st)) rfl (by show (cL α b L).size = c.maxLocals; rw [cL_size, hl, hml]) (Steps.refl _) (a := b + (cK P.2 + 1) * i) (argsL := as) (rest := cV α b rest) (lenOf pd hn) (cV_call hnr hst)
      (by show 2 * 0 + _ ≤ _; rw [cV_sum]; exact Nat.le_of_eq (Nat.zero_add _)) (hb hc d) (fun _ _ => ⟨by rw [show (cV 0 (b + (cK P.2 + 1) * i) (.ref 1 :: as)) = .ref (b + (cK P.2 + 1) * i) :: cV 0 (b + (cK P.2 + 1) * i) as from rfl, cV_nr hnr], rfl, b1, b2⟩)
    dsimp only [Pt.U, Pt.locs, Pt.cells, Pt.slots] at X2 l2 y2 n2 stp hQ
    subst l2 y2 n2
    obtain ⟨rfl, N2, R2, F2, k8⟩ := hQ
    rw [k7] at F2
    exact ⟨T2, _, _, _, inv_obj I ho X2 N2 R2 F2 k8 hC hS b1 b2, fun target r => stp.trans r⟩) g
/-- Object's constructor -/
theorem go_objinit {a : Nat} (k1 : Jvm.Cond.methodLink (mY M).cls idx Lib.objectInit ∈ P.1) (k2 : Jvm.Cond.instanceMethod Lib.objectInit ∈ P.1) (k3 : Jvm.Cond.code Lib.objectInit ⟨#[0xb1]⟩ 1 none ∈ P.1) (z4 : Nat.ble 1 (mR M).frames = true) (z5 : Nat.ble ((rest.map fun v => v.category).sum + 12) (mR M).locals = true)
    (d : decode (mB M) pc = .ok (.invokespecial idx, 3)) (g : Go P M (pc + 3) L rest w out) : Go P M pc L (.ref (a + 1) :: rest) w out :=
  go_ch (fun l Z a0 p e R s1 m args below meth c α b n0 h0 uC uS ok hl T locs cells slots I => by
    obtain ⟨hw, fa, hx, hZ, hown, hc, hml, hret, hnm, hR, hn0, htop, hsz⟩ := ok
    obtain ⟨X, Rp, Fm, Nl, hs, u1, u2, c1, c2, hN⟩ := I
    obtain ⟨T', X', e', stp⟩ := initO X hx hZ hown (hw _ k1) (hw _ k2) (hw _ k3) rfl (g := mkF m pc (cL α b L) (cV α b (.ref (a + 1) :: rest))) rfl (by show (cL α b L).size = c.maxLocals; rw [cL_size, hl, hml]) (a := b + a) (rest := cV α b rest) rfl (hb hc d) (by rw [hR]; exact Nat.le_of_ble_eq_true z4) (W := (rest.map fun v => v.category).sum) (by show 2 * 0 + _ ≤ _; rw [cV_sum]; exact Nat.le_of_eq (Nat.zero_add _)) (by rw [hR]; exact Nat.le_of_ble_eq_true z5)
    exact ⟨T', locs, cells, slots, ⟨X', by rw [e']; exact Rp, by rw [e']; exact Fm, Nl, by rw [e']; exact hs, u1, u2, c1, c2, hN⟩, fun target r => stp target r⟩) g
/-- a new object of the class -/
theorem go_new {n : Nat} (k1 : Jvm.Cond.classLink (mY M).cls idx (cN P.2) ∈ P.1) (htM : mTop M = true) (hn : w.2.length = n) (hq : usedC w = (cK P.2 + 1) * n) (hw' : w' = (w.1, w.2 ++ [(0, s0)])) (hN' : Nat.blt n (mN M) = true) (hR1 : Nat.ble (usedC w + 1) ((mR M).cells + mUC M) = true) (hR2 : Nat.ble (usedS P.2 w + cF P.2) ((mR M).slots + mUS M) = true)
    (d : decode (mB M) pc = .ok (.new idx, 3)) (hid : id = (cK P.2 + 1) * n + 1) (g : Go P M (pc + 3) L (.ref id :: st) w' out) : Go P M pc L st w out :=
  go_ch (fun l Z a0 p e R s1 m args below meth c α b n0 h0 uC uS ok hl T locs cells slots I => by
    subst hw' hid
    obtain ⟨hw, fa, hx, hZ, hown, hc, hml, hret, hnm, hR, hn0, htop, hsz⟩ := ok
    obtain ⟨X, Rp, Fm, Nl, hs, u1, u2, c1, c2, hN⟩ := I
    obtain ⟨t1, t2, t3⟩ := htop htM
    have b1 : cells + 1 ≤ R.cells := by have := Nat.le_of_ble_eq_true hR1; rw [hR]; omega
    have b2 : slots + cF P.2 ≤ R.slots := by have := Nat.le_of_ble_eq_true hR2; rw [hR]; omega
    obtain ⟨T2, h2, X2, e2, E2, A2, D2, -, st2⟩ := newO X hx hZ hown (hw _ k1) fa.1 fa.2.1 rfl (g := mkF m pc (cL α b L) (cV α b st)) rfl (hb hc d) b1 b2
    have ha : T.heap.size = b + (cK P.2 + 1) * n := by rw [hs, t1]; omega
    rw [ha] at A2 D2 st2
    have sz2 : T2.heap.size = T.heap.size + 1 := by
      have q1 := X2.heapSize
      have q2 : b + (cK P.2 + 1) * n < h2.size := A2.lt
      rw [e2] at q1 ⊢
      omega
    refine ⟨T2, locs, _, _, ⟨X2, ?_, by rw [e2]; exact Fm.ext E2, Nl, by rw [sz2, hs]; omega, ?_, ?_, b1, b2, ?_⟩, fun target r => st2 target ?_⟩
    · rw [e2]
      refine ⟨fun l1 h1 => (Rp.ext E2).1 l1 h1, fun j oj hj => ?_⟩
      by_cases q : j < w.2.length
      · rw [show (w.1, w.2 ++ [(0, s0)]).2 = w.2 ++ [(0, s0)] from rfl, List.getElem?_append_left q] at hj
        exact (Rp.ext E2).2 j oj hj
      · have hj' := get_lt hj
        simp at hj'
        have ej : j = n := by omega
        subst ej
        rw [show (w.1, w.2 ++ [(0, s0)]).2 = w.2 ++ [(0, s0)] from rfl, List.getElem?_append_right (by omega)] at hj
        rw [hn] at hj; simp at hj; subst hj
        refine ⟨A2, fun f x hx => ?_, fun q x hx => ?_, fun q x _ hq => absurd hq (Nat.not_lt_zero _)⟩
        · have := D2 (fa.2.2.1 f x hx).1 (fa.2.2.1 f x hx).2
          rw [fa.2.2.2.2.2.1 f x hx] at this
          exact this
        · have := D2 (fa.2.2.2.1 q x hx).1 (fa.2.2.2.1 q x hx).2
          rw [if_neg (Nat.not_lt_zero _)]
          exact this
    · simp [usedC] at u1 ⊢; omega
    · simp [usedS] at u2 ⊢; omega
    · simp; have : n < mN M := by simpa [Nat.blt_eq] using hN'
      omega
    · exact r) g
/-- a new array, laid into its field at once -/
theorem rep_new {Z : State} {a0 : Array Value} {ci : CI} {h h1 h2 : Heap} {b : Nat} {s s' : S} {k : Nat} {nm ds : String} {ty : FieldType} {cap : Nat} {cl : Cell} (fa : Facts Z a0 ci) (F : Rep1 Z ci h b (k, s)) (hf : (cA ci)[k]? = some (nm, ds, ty, cap)) (E : Ext h h1) (A : Arr Z h1 (b + 1 + k) cl ty) (ec : cl.slots = (arV ty s' k).toArray)
    (Wt : Wr h1 h2 b (Jvm.RoadKit.slotOf Z (cN ci) nm ds) (.ref (b + 1 + k))) (ho : ∀ q' x, (cA ci)[q']? = some x → q' ≠ k → arV x.2.2.1 s' q' = arV x.2.2.1 s q') (ha : gI s' = gI s) (hbb : gL s' = gL s) : Rep1 Z ci h2 b (k + 1, s') := by
  obtain ⟨f1, f2, f3, f4⟩ := F
  obtain ⟨-, -, g1, g2, g3, -⟩ := fa
  have lt := get_lt hf
  refine ⟨(f1.ext E).wr Wt, fun f x hx => ?_, fun q x hx => ?_, fun q x hx hq => ?_⟩
  · have e : scV x.2.2 s' f = scV x.2.2 s f := by unfold scV; split <;> simp [ha, hbb]
    have lt' := get_lt hx
    show Fld Z h2 b (cN ci) x.1 x.2.1 (scV x.2.2 s' f)
    rw [e]
    refine ((f2 f x hx).ext E).other Wt (Or.inr ?_)
    refine slot_ne (g1 f x hx).1 (g2 k _ hf).1 ?_ (g1 f x hx).2 (g2 k _ hf).2
    intro en
    have n1 : ((cS ci).map (fun x => x.1) ++ (cA ci).map (fun x => x.1))[f]? = some x.1 := by rw [List.getElem?_append_left (by simpa using lt')]; simp [hx]
    have n2 : ((cS ci).map (fun x => x.1) ++ (cA ci).map (fun x => x.1))[(cS ci).length + k]? = some nm := by rw [List.getElem?_append_right (by simp)]; simp [hf]
    rw [en] at n1
    obtain ⟨i1, j1⟩ := List.getElem?_eq_some_iff.mp n1
    obtain ⟨i2, j2⟩ := List.getElem?_eq_some_iff.mp n2
    have := (List.getElem_inj g3).mp (j1.trans j2.symm)
    omega
  · by_cases e : q = k
    · subst e
      cases hf.symm.trans hx
      rw [if_pos (show q < (q + 1, s').1 from Nat.lt_succ_self q)]
      exact ((f3 q _ hf).ext E).same Wt
    · have lt' := get_lt hx
      have e2 : (if q < (k + 1, s').1 then Value.ref (b + 1 + q) else Value.null) = (if q < (k, s).1 then Value.ref (b + 1 + q) else Value.null) := by
        show (if q < k + 1 then _ else _) = (if q < k then _ else _)
        by_cases q1 : q < k
        · rw [if_pos q1, if_pos (by omega)]
        · rw [if_neg q1, if_neg (by omega)]
      rw [e2]
      refine ((f3 q x hx).ext E).other Wt (Or.inr ?_)
      refine slot_ne (g2 q x hx).1 (g2 k _ hf).1 ?_ (g2 q x hx).2 (g2 k _ hf).2
      intro en
      have n1 : ((cS ci).map (fun x => x.1) ++ (cA ci).map (fun x => x.1))[(cS ci).length + q]? = some x.1 := by rw [List.getElem?_append_right (by simp)]; simp [hx]
      have n2 : ((cS ci).map (fun x => x.1) ++ (cA ci).map (fun x => x.1))[(cS ci).length + k]? = some nm := by rw [List.getElem?_append_right (by simp)]; simp [hf]
      rw [en] at n1
      obtain ⟨i1, j1⟩ := List.getElem?_eq_some_iff.mp n1
      obtain ⟨i2, j2⟩ := List.getElem?_eq_some_iff.mp n2
      have := (List.getElem_inj g3).mp (j1.trans j2.symm)
      omega
  · by_cases e : q = k
    · subst e
      cases hf.symm.trans hx
      exact ⟨cl, A.other Wt (nq (by omega)), ec⟩
    · obtain ⟨c, B, eb⟩ := f4 q x hx (by have : q < k + 1 := hq; show q < k; omega)
      refine ⟨c, (B.ext E).other Wt (nq (by omega)), eb.trans ?_⟩
      rw [ho q x hx e]
theorem go_newV {aty : ArrayType} {ty : FieldType} {nm ds : String} {cap : Nat} {n : Int32} {s' : S} (hty : newarray.typeOf aty = ty) (ha : (cA P.2)[k]? = some (nm, ds, ty, cap)) (k0 : Jvm.Cond.arrayClass ty ∈ P.1) (k1 : Jvm.Cond.fieldLink (cN P.2) idx (cN P.2) nm ds ∈ P.1) (hM : (mY M).cls = cN P.2)
    (hlays : Jvm.Cond.lays (cN P.2) (cN P.2) nm ds ∈ P.1 ∨ (Jvm.Cond.laysFinal (cN P.2) (cN P.2) nm ds ∈ P.1 ∧ (mY M).name = "<init>")) (htM : mTop M = true) (hp : 0 < mN M) (hn : ¬ n < 0) (hcap : Nat.ble n.toNatClampNeg cap = true) (hbig : Nat.ble (cap * 8) 536870912 = true)
    (hR1 : Nat.ble (1 + k + 1) ((mR M).cells + mUC M) = true) (hR2 : Nat.ble (usedS P.2 (none, [(k, s)]) + cap) ((mR M).slots + mUS M) = true)
    (hv : arV ty s' k = List.replicate n.toNatClampNeg (defaultValue ty)) (hoth : ∀ q' x, (cA P.2)[q']? = some x → q' ≠ k → arV x.2.2.1 s' q' = arV x.2.2.1 s q') (hgI : gI s' = gI s) (hgL : gL s' = gL s)
    (d : decode (mB M) pc = .ok (.newarray aty, 2)) (d2 : decode (mB M) (pc + 2) = .ok (.putfield idx, 3)) (g : Go P M (pc + 5) L st (none, [(k + 1, s')]) out) : Go P M pc L (.int n :: .ref 1 :: st) (none, [(k, s)]) out :=
  go_ch (fun l Z a0 p e R s1 m args below meth c α b n0 h0 uC uS ok hl T locs cells slots I => by
    obtain ⟨hw, fa, hx, hZ, hown, hc, hml, hret, hnm, hR, hn0, htop, hsz⟩ := ok
    obtain ⟨X, Rp, Fm, Nl, hs, u1, u2, c1, c2, hN⟩ := I
    obtain ⟨t1, t2, t3⟩ := htop htM
    have u1' : cells + uC = 1 + k := by simpa [usedC] using u1
    have b1 : cells + 1 ≤ R.cells := by have := Nat.le_of_ble_eq_true hR1; rw [hR]; omega
    have b2 : slots + cap ≤ R.slots := by have := Nat.le_of_ble_eq_true hR2; rw [hR]; omega
    subst hty
    obtain ⟨T2, h2, cA2, X2, e2, E2, A2, st2⟩ := newP X hx hZ (hw _ k0) rfl (g := mkF m pc (cL α b L) (.int n :: .ref b :: cV α b st)) rfl (hb hc d) rfl hn (Nat.le_of_ble_eq_true hcap) (Nat.le_of_ble_eq_true hbig) b1 b2
    have hadr : T.heap.size = b + 1 + k := by rw [hs, t1]; omega
    rw [hadr] at A2 st2
    have sz2 : T2.heap.size = T.heap.size + 1 := by
      have q1 := X2.heapSize
      have q2 : b + 1 + k < h2.size := A2.lt
      rw [e2] at q1 ⊢
      omega
    have Rp1 := rep_one Rp
    have Fd := Rp1.2.2.1 k _ ha
    rw [if_neg (show ¬ k < (k, s).1 from Nat.lt_irrefl k)] at Fd
    rw [hM] at hown
    obtain ⟨T3, h3, X3, e3, Wt, st3⟩ := putF X2 hx hZ hown (host := "") (Or.inl (hw _ k1)) Via.refl e2 (Fd.ext E2) (Rp1.1.ext E2) (hlays.imp (fun q => hw _ q) (fun q => ⟨hw _ q.1, rfl, hnm.trans q.2⟩)) fa.1 (fa.2.2.2.1 k _ ha).2 (v := .ref (b + 1 + k)) rfl rfl (g := mkF m (pc + 2) (cL α b L) (.ref (b + 1 + k) :: .ref b :: cV α b st)) rfl rfl (hb hc d2)
    refine ⟨T3, _, _, _, ⟨X3, rep_mk (by rw [e3]; exact rep_new fa Rp1 ha E2 A2 (by rw [hv]; simp [newA]) Wt hoth hgI hgL), by rw [e3]; exact (Fm.ext E2).wr Wt (Nat.le_refl _) (by have := Nat.mul_le_mul_left (cK P.2 + 1) hp; omega), Fr.snoc X3 Nl hn0, by rw [e3, Wt.size, ← e2, sz2, hs]; omega, by simp [usedC]; omega, ?_, b1, b2, hN⟩, fun target r => st2 target (st3 target r)⟩
    have hk := get_lt ha
    simp only [usedS, List.map_cons, List.map_nil, List.sum_cons, List.sum_nil] at u2 ⊢
    rw [List.take_add_one, List.map_append, List.sum_append, ha]
    simp [List.map_take] at u2 ⊢; omega) g
theorem go_newI {aty : ArrayType} {ty : FieldType} {nm ds : String} {cap : Nat} {n : Int32} (hty : newarray.typeOf aty = ty) (hi : ty = .int ∨ ty = .boolean ∨ ty = .byte) (ha : (cA P.2)[k]? = some (nm, ds, ty, cap)) (k0 : Jvm.Cond.arrayClass ty ∈ P.1) (k1 : Jvm.Cond.fieldLink (cN P.2) idx (cN P.2) nm ds ∈ P.1) (hM : (mY M).cls = cN P.2)
    (hlays : Jvm.Cond.lays (cN P.2) (cN P.2) nm ds ∈ P.1 ∨ (Jvm.Cond.laysFinal (cN P.2) (cN P.2) nm ds ∈ P.1 ∧ (mY M).name = "<init>")) (htM : mTop M = true) (hp : 0 < mN M) (hn : ¬ n < 0) (hcap : Nat.ble n.toNatClampNeg cap = true) (hbig : Nat.ble (cap * 8) 536870912 = true)
    (hR1 : Nat.ble (1 + k + 1) ((mR M).cells + mUC M) = true) (hR2 : Nat.ble (usedS P.2 (none, [(k, s)]) + cap) ((mR M).slots + mUS M) = true)
    (d : decode (mB M) pc = .ok (.newarray aty, 2)) (d2 : decode (mB M) (pc + 2) = .ok (.putfield idx, 3)) (g : Go P M (pc + 5) L st (none, [(k + 1, sA s k (rep n.toNatClampNeg 0))]) out) : Go P M pc L (.int n :: .ref 1 :: st) (none, [(k, s)]) out :=
  go_newV hty ha k0 k1 hM hlays htM hp hn hcap hbig hR1 hR2 (by rcases hi with rfl | rfl | rfl <;> simp [arV, gA_sA, defaultValue, rep]) (fun q' x _ h => arV_sA s k _ _ q' h) rfl rfl d d2 g
theorem go_newJ {nm ds : String} {cap : Nat} {n : Int32} (ha : (cA P.2)[k]? = some (nm, ds, .long, cap)) (k0 : Jvm.Cond.arrayClass .long ∈ P.1) (k1 : Jvm.Cond.fieldLink (cN P.2) idx (cN P.2) nm ds ∈ P.1) (hM : (mY M).cls = cN P.2)
    (hlays : Jvm.Cond.lays (cN P.2) (cN P.2) nm ds ∈ P.1 ∨ (Jvm.Cond.laysFinal (cN P.2) (cN P.2) nm ds ∈ P.1 ∧ (mY M).name = "<init>")) (htM : mTop M = true) (hp : 0 < mN M) (hn : ¬ n < 0) (hcap : Nat.ble n.toNatClampNeg cap = true) (hbig : Nat.ble (cap * 8) 536870912 = true)
    (hR1 : Nat.ble (1 + k + 1) ((mR M).cells + mUC M) = true) (hR2 : Nat.ble (usedS P.2 (none, [(k, s)]) + cap) ((mR M).slots + mUS M) = true)
    (d : decode (mB M) pc = .ok (.newarray .long, 2)) (d2 : decode (mB M) (pc + 2) = .ok (.putfield idx, 3)) (g : Go P M (pc + 5) L st (none, [(k + 1, sB s k (rep n.toNatClampNeg 0))]) out) : Go P M pc L (.int n :: .ref 1 :: st) (none, [(k, s)]) out :=
  go_newV (aty := .long) (ty := .long) rfl ha k0 k1 hM hlays htM hp hn hcap hbig hR1 hR2 (by simp [arV, gB_sB, defaultValue, rep]) (fun q' x _ h => arV_sB s k _ _ q' h) rfl rfl d d2 g
end Rules
/-! ## the start -/
theorem tsw_out {x : Int32} {lo hi : Int} (h1 : -2147483648 ≤ lo) (h2 : hi < 2147483648) (ks : List Int32) (hk : ks = ((List.range (hi - lo + 1).toNat).map fun (j : Nat) => Int32.ofInt (lo + (j : Int)))) (hx : ∀ k ∈ ks, x ≠ k) : x.toInt < lo ∨ x.toInt > hi := by
  by_cases q1 : x.toInt < lo
  · exact Or.inl q1
  by_cases q2 : x.toInt > hi
  · exact Or.inr q2
  refine absurd rfl (hx x ?_)
  rw [hk, List.mem_map]
  refine ⟨(x.toInt - lo).toNat, List.mem_range.mpr (by omega), ?_⟩
  rw [show lo + (((x.toInt - lo).toNat : Nat) : Int) = x.toInt by omega]
  exact Int32.ofInt_toInt x
theorem list_of_array {V : Type} (a : Array V) (f : Nat → V) (h : ∀ j, j < a.size → a[j]? = some (f j)) : a = ((List.range a.size).map f).toArray := by
  apply Array.ext'
  apply List.ext_getElem?
  intro j
  by_cases q : j < a.size
  · simpa [q] using h j q
  · simp [q]
theorem small_len {n : Nat} {k : Int32} (h : n < 2 ^ 31) (q : n.toInt32 ≤ k) : (n : Int) ≤ k.toInt := by
  have e : (Int32.ofNat n).toInt = n := Int32.toInt_ofNat_of_lt h
  have := Int32.le_iff_toInt_le.mp q
  rwa [show n.toInt32.toInt = n from e] at this
theorem script_of {s : State} {args : Array Value} {t : Term} {k : Int32} (hf : Fit s) (h1 : (Cond.arrayOf t .int).value args s none s [] = some true) (h2 : (Cond.le (.length t) (.int k)).value args s none s [] = some true) :
    ∃ (a : Nat) (l : List Int32), t.eval args s none [] s = some (.ref a) ∧ Ar s s.heap a .int (l.map .int) ∧ a < s.heap.size ∧ (l.length : Int) ≤ k.toInt := by
  obtain ⟨a, ev⟩ := arr_v h1
  obtain ⟨c, A⟩ := Arr.start ev h1
  obtain ⟨x, y, ex, ey, -, -⟩ := cmp_v (Or.inr (Or.inr h2))
  obtain ⟨b, cell, e1, e2, e3, ev2⟩ := Jvm.Lib.length_spec ex
  have ea : b = a := by rw [ev] at e1; cases e1; rfl
  have ec : cell = c := by
    have := Arr.fin (Vm.Alike.refl _) A
    rw [ea, this] at e2; cases e2; rfl
  subst ea ec ev2
  obtain ⟨n, en, S⟩ := Scr.start hf A e3
  have hle : cell.slots.size.toInt32 ≤ k := by
    have ek : (Term.int k).eval args s none [] s = some (.int k) := rfl
    simp only [Cond.value, ex, ek] at h2
    simpa using h2
  refine ⟨b, (List.range cell.slots.size).map fun j => atv cell (Int32.ofNat j), ev, ⟨cell, A, ?_⟩, A.lt, ?_⟩
  · rw [List.map_map]
    refine list_of_array cell.slots _ fun j hj => ?_
    have e4 : (Int32.ofNat j).toNatClampNeg = j := by
      have : (Int32.ofNat j).toInt = j := Int32.toInt_ofNat_of_lt (by omega)
      simp [Int32.toNatClampNeg, this]
    have e5 : ¬ (Int32.ofNat j < 0) := by
      rw [Int32.lt_iff_toInt_lt, Int32.toInt_ofNat_of_lt (by omega)]; simp
    have := S.2.2.2 (Int32.ofNat j) (by rw [e4]; rintro (q | q); exact e5 q; omega)
    rw [e4] at this
    exact this
  · simpa using small_len e3 hle
theorem repW_none (Z : State) (ci : CI) (α b : Nat) (h : Heap) : RepW Z ci α b (none, []) h := ⟨fun l hl => (by cases hl), fun i o ho => (by simp at ho)⟩
theorem repW_some {Z : State} {ci : CI} {α b : Nat} {h : Heap} {l : List Int32} (A : Ar Z h α .int (l.map .int)) (q : α < b) : RepW Z ci α b (some l, []) h := ⟨fun l' hl => by cases hl; exact ⟨A, q⟩, fun i o ho => by simp at ho⟩
end Jvm.AM
/-! ## plain lemmas on ints, arrays and updates -/
namespace Jvm.PL
open Jvm.AM
theorem ofNat_toInt {k : Nat} (h : k < 2147483648) : (Int32.ofNat k).toInt = k := Int32.toInt_ofNat_of_lt h
theorem ofNat_lt {k m : Nat} (hk : k < 2147483648) (hm : m < 2147483648) : Int32.ofNat k < Int32.ofNat m ↔ k < m := by
  rw [Int32.lt_iff_toInt_lt, ofNat_toInt hk, ofNat_toInt hm]; omega
theorem lt_lit {k m : Nat} (hk : k < 2147483648) (hm : m < 2147483648 := by decide) : Int32.ofNat k < (OfNat.ofNat m : Int32) ↔ k < m := ofNat_lt hk hm
theorem ofNat_succ (k : Nat) : Int32.ofNat k + 1 = Int32.ofNat (k + 1) := by
  rw [Int32.ofNat_add]; rfl
theorem ofNat_nonneg {k : Nat} (hk : k < 2147483648) : ¬ Int32.ofNat k < 0 := by rw [Int32.lt_iff_toInt_lt, ofNat_toInt hk]; simp
theorem ofNat_clamp {k : Nat} (hk : k < 2147483648) : (Int32.ofNat k).toNatClampNeg = k := by simp [Int32.toNatClampNeg, ofNat_toInt hk]
theorem ix_ofNat {A : Type} (l : List A) {k : Nat} (hk : k < 2147483648) : ix l (Int32.ofNat k) = l[k]? := by
  unfold ix; rw [if_neg (ofNat_nonneg hk), ofNat_clamp hk]
theorem st_ofNat {A : Type} (l : List A) (x : A) {k : Nat} (hk : k < 2147483648) (hl : k < l.length) : Jvm.AM.st l (Int32.ofNat k) x = some (l.set k x) := by
  unfold Jvm.AM.st; rw [if_neg (ofNat_nonneg hk), ofNat_clamp hk, if_pos hl]
theorem toInt_clamp {v : Int32} (h : ¬ v < 0) : (v.toNatClampNeg : Int) = v.toInt := by
  rw [Int32.lt_iff_toInt_lt] at h
  simp only [Int32.toNatClampNeg]
  have : (0 : Int32).toInt = 0 := rfl
  omega
theorem eq_ofNat {v : Int32} (h : ¬ v < 0) : v = Int32.ofNat v.toNatClampNeg ∧ v.toNatClampNeg < 2147483648 := by
  have h1 := toInt_clamp h
  have h2 := v.toInt_lt
  have h3 : v.toNatClampNeg < 2147483648 := by omega
  refine ⟨Int32.toInt_inj.mp ?_, h3⟩
  rw [ofNat_toInt h3]; exact h1.symm
theorem ix_rep {A : Type} {v : Int32} {n : Nat} {x : A} (h0 : ¬ v < 0) (h1 : v < Int32.ofNat n) (hn : n < 2147483648) : ix (rep n x) v = some x := by
  obtain ⟨e, hl⟩ := eq_ofNat h0
  rw [e] at h1 ⊢
  have h2 := (ofNat_lt hl hn).mp h1
  rw [ix_ofNat _ hl, rep_get, if_pos h2]
theorem ix_nat {A : Type} (l : List A) {v : Int32} (h0 : ¬ v < 0) : ix l v = l[v.toNatClampNeg]? := by unfold ix; rw [if_neg h0]
theorem st_nat {A : Type} (l : List A) {v : Int32} {x : A} (h0 : ¬ v < 0) (hl : v.toNatClampNeg < l.length) : Jvm.AM.st l v x = some (l.set v.toNatClampNeg x) := by
  unfold Jvm.AM.st; rw [if_neg h0, if_pos hl]
theorem clamp_lt {v : Int32} {n : Nat} (h0 : ¬ v < 0) (h1 : v < Int32.ofNat n) (hn : n < 2147483648) : v.toNatClampNeg < n := by
  obtain ⟨e, hl⟩ := eq_ofNat h0
  rw [e] at h1
  exact (ofNat_lt hl hn).mp h1
theorem clamp_inj {v w : Int32} (h0 : ¬ v < 0) (h1 : ¬ w < 0) : v.toNatClampNeg = w.toNatClampNeg ↔ v = w := by
  constructor
  · intro h
    have a := toInt_clamp h0
    have b := toInt_clamp h1
    exact Int32.toInt_inj.mp (by omega)
  · intro h; rw [h]
end Jvm.PL
namespace Jvm.PL
open Jvm.AM
/-- all but the named fields and arrays is as it was -/
def Fx (I L A B : List Nat) (s s' : S) : Prop := (∀ f, f ∉ I → gI s' f = gI s f) ∧ (∀ f, f ∉ L → gL s' f = gL s f) ∧ (∀ f, f ∉ A → gA s' f = gA s f) ∧ (∀ f, f ∉ B → gB s' f = gB s f)
theorem Fx.refl (I L A B : List Nat) (s : S) : Fx I L A B s s := ⟨fun _ _ => rfl, fun _ _ => rfl, fun _ _ => rfl, fun _ _ => rfl⟩
theorem Fx.trans {I L A B : List Nat} {s t u : S} (h : Fx I L A B s t) (k : Fx I L A B t u) : Fx I L A B s u :=
  ⟨fun f q => (k.1 f q).trans (h.1 f q), fun f q => (k.2.1 f q).trans (h.2.1 f q), fun f q => (k.2.2.1 f q).trans (h.2.2.1 f q), fun f q => (k.2.2.2 f q).trans (h.2.2.2 f q)⟩
theorem Fx.mono {I L A B I' L' A' B' : List Nat} {s t : S} (h : Fx I L A B s t) (a : ∀ f ∈ I, f ∈ I') (b : ∀ f ∈ L, f ∈ L') (c : ∀ f ∈ A, f ∈ A') (d : ∀ f ∈ B, f ∈ B') : Fx I' L' A' B' s t :=
  ⟨fun f q => h.1 f fun x => q (a f x), fun f q => h.2.1 f fun x => q (b f x), fun f q => h.2.2.1 f fun x => q (c f x), fun f q => h.2.2.2 f fun x => q (d f x)⟩
theorem Fx.sA {I L A B : List Nat} {s t : S} {f : Nat} {l : List Int32} (h : Fx I L A B s t) (hf : f ∈ A) : Fx I L A B s (Jvm.AM.sA t f l) :=
  ⟨fun g q => (gI_sA _ _ _ _).trans (h.1 g q), fun g q => (gL_sA _ _ _ _).trans (h.2.1 g q), fun g q => by rw [gA_sA, if_neg (fun e : g = f => q (e ▸ hf))]; exact h.2.2.1 g q, fun g q => (gB_sA _ _ _ _).trans (h.2.2.2 g q)⟩
theorem Fx.sI {I L A B : List Nat} {s t : S} {f : Nat} {l : Int32} (h : Fx I L A B s t) (hf : f ∈ I) : Fx I L A B s (Jvm.AM.sI t f l) :=
  ⟨fun g q => by rw [gI_sI, if_neg (fun e : g = f => q (e ▸ hf))]; exact h.1 g q, fun g q => (gL_sI _ _ _ _).trans (h.2.1 g q), fun g q => (gA_sI _ _ _ _).trans (h.2.2.1 g q), fun g q => (gB_sI _ _ _ _).trans (h.2.2.2 g q)⟩
theorem Fx.sL {I L A B : List Nat} {s t : S} {f : Nat} {l : Int64} (h : Fx I L A B s t) (hf : f ∈ L) : Fx I L A B s (Jvm.AM.sL t f l) :=
  ⟨fun g q => (gI_sL _ _ _ _).trans (h.1 g q), fun g q => by rw [gL_sL, if_neg (fun e : g = f => q (e ▸ hf))]; exact h.2.1 g q, fun g q => (gA_sL _ _ _ _).trans (h.2.2.1 g q), fun g q => (gB_sL _ _ _ _).trans (h.2.2.2 g q)⟩
theorem Fx.sB {I L A B : List Nat} {s t : S} {f : Nat} {l : List Int64} (h : Fx I L A B s t) (hf : f ∈ B) : Fx I L A B s (Jvm.AM.sB t f l) :=
  ⟨fun g q => (gI_sB _ _ _ _).trans (h.1 g q), fun g q => (gL_sB _ _ _ _).trans (h.2.1 g q), fun g q => (gA_sB _ _ _ _).trans (h.2.2.1 g q), fun g q => by rw [gB_sB, if_neg (fun e : g = f => q (e ▸ hf))]; exact h.2.2.2 g q⟩
theorem ofNat_add' (a b : Nat) : Int32.ofNat a + Int32.ofNat b = Int32.ofNat (a + b) := (Int32.ofNat_add a b).symm
/-- the first k entries are x -/
def Upto {A : Type} (l : List A) (k : Nat) (x : A) : Prop := ∀ i, i < k → l[i]? = some x
theorem Upto.zero {A : Type} (l : List A) (x : A) : Upto l 0 x := fun _ h => absurd h (Nat.not_lt_zero _)
theorem Upto.set {A : Type} {l : List A} {k : Nat} {x : A} (h : Upto l k x) (hk : k < l.length) : Upto (l.set k x) (k + 1) x := fun i hi => by
  by_cases e : i = k
  · subst e; simp [hk]
  · rw [List.getElem?_set_ne (Ne.symm e)]; exact h i (by omega)
theorem Upto.all {A : Type} {l : List A} {k : Nat} {x : A} (h : Upto l k x) (hk : l.length = k) : l = rep k x := by
  apply List.ext_getElem?
  intro i
  rw [rep_get]
  by_cases q : i < k
  · rw [if_pos q]; exact h i q
  · rw [if_neg q, List.getElem?_eq_none (by omega)]
end Jvm.PL
namespace Jvm.PL
open Jvm.AM
/-- a loop by its invariant; m: the turns that are left -/
theorem run_loop {A B : Type} (L : Nat → A → B) (F : A → B) (I : Nat → A → Prop) (h : ∀ n m a, I (m + 1) a → ∃ a', L (n + 1) a = L n a' ∧ I m a') (h0 : ∀ n a, I 0 a → L (n + 1) a = F a) : ∀ m n a, m < n → I m a → ∃ a', L n a = F a' ∧ I 0 a'
  | 0, n + 1, a, _, i => ⟨a, h0 n a i, i⟩
  | m + 1, n + 1, a, q, i => by
    obtain ⟨a', e, i'⟩ := h n m a i
    obtain ⟨a'', e', i''⟩ := run_loop L F I h h0 m n a' (by omega) i'
    exact ⟨a'', e.trans e', i''⟩
/-- 'for k in 0 .. N' -/
theorem run_for {B : Type} (L : Nat → Int32 → S → B) (F : S → B) (N : Nat) (I : Nat → S → Prop) (h : ∀ n k s, k < N → I k s → ∃ s', L (n + 1) (Int32.ofNat k) s = L n (Int32.ofNat (k + 1)) s' ∧ I (k + 1) s') (h0 : ∀ n s, I N s → L (n + 1) (Int32.ofNat N) s = F s) (n : Nat) (s : S) (hn : N < n) (i : I 0 s) :
    ∃ s', L n (Int32.ofNat 0) s = F s' ∧ I N s' := by
  obtain ⟨a, e, k, hk, ea, ia⟩ := run_loop (fun n (a : Int32 × S) => L n a.1 a.2) (fun a => F a.2) (fun m a => ∃ k, k + m = N ∧ a.1 = Int32.ofNat k ∧ I k a.2)
    (fun n m a ⟨k, h1, h2, h3⟩ => by
      obtain ⟨s', e, i'⟩ := h n k a.2 (by omega) h3
      exact ⟨(Int32.ofNat (k + 1), s'), by show L (n + 1) a.1 a.2 = _; rw [h2]; exact e, k + 1, by omega, rfl, i'⟩)
    (fun n a ⟨k, h1, h2, h3⟩ => by
      have : k = N := by omega
      subst this
      show L (n + 1) a.1 a.2 = _; rw [h2]; exact h0 n a.2 h3) N n (Int32.ofNat 0, s) hn ⟨0, by omega, rfl, i⟩
  have : k = N := by omega
  subst this
  exact ⟨a.2, e, ia⟩
end Jvm.PL
namespace Jvm.PL
open Jvm.AM
/-- the end test of a loop over a script -/
theorem len_lt {n k c : Nat} (hn : n ≤ 100000) (hk : k ≤ 100000) (hc : c ≤ 100000) : (n.toInt32 - Int32.ofNat c) < Int32.ofNat k ↔ n < k + c := by
  rw [Int32.lt_iff_toInt_lt, Int32.toInt_sub, show n.toInt32 = Int32.ofNat n from rfl, ofNat_toInt (by omega), ofNat_toInt (by omega), ofNat_toInt (by omega)]
  have : ((n : Int) - c).bmod (2 ^ 32) = n - c := by
    rw [Int.bmod_eq_of_le] <;> omega
  rw [this]; omega
/-- a loop over a script, c entries a turn: it ends in what every way out says -/
theorem run_script {A B : Type} (L : Nat → Int32 → A → B) (c len : Nat) (hc : 0 < c) (P : B → Prop) (I : Nat → A → Prop) (h : ∀ n k a, k + c ≤ len → I k a → P (L (n + 1) (Int32.ofNat k) a) ∨ ∃ a', L (n + 1) (Int32.ofNat k) a = L n (Int32.ofNat (k + c)) a' ∧ I (k + c) a') (h0 : ∀ n k a, k ≤ len → len < k + c → I k a → P (L (n + 1) (Int32.ofNat k) a)) : ∀ n k a, len < n + k → k ≤ len → I k a → P (L n (Int32.ofNat k) a)
  | 0, k, a, hn, hk, i => by omega
  | n + 1, k, a, hn, hk, i => by
    by_cases q : k + c ≤ len
    · rcases h n k a q i with p | ⟨a', e, i'⟩
      · exact p
      · rw [e]; exact run_script L c len hc P I h h0 n (k + c) a' (by omega) q i'
    · exact h0 n k a hk (by omega) i
theorem ix_some {A : Type} (l : List A) {k : Nat} (hk : k < 2147483648) (hl : k < l.length) : ∃ x, ix l (Int32.ofNat k) = some x := ⟨l[k], by rw [ix_ofNat _ hk, List.getElem?_eq_getElem hl]⟩
theorem ofNat_lit (a b : Nat) : Int32.ofNat a + (OfNat.ofNat b : Int32) = Int32.ofNat (a + b) := ofNat_add' a b
end Jvm.PL
namespace Jvm.PL
open Jvm.AM
theorem upd_same {A : Type} (g : Nat → A) (f : Nat) (a b : A) : upd (upd g f a) f b = upd g f b := by
  funext x; unfold upd; by_cases q : x = f <;> simp [q]
theorem upd_comm {A : Type} (g : Nat → A) {f h : Nat} (n : f ≠ h) (a b : A) : upd (upd g f a) h b = upd (upd g h b) f a := by
  funext x; unfold upd
  by_cases q : x = f
  · have : ¬ f = h := n
    simp [q, this]
  · by_cases r : x = h
    · rw [if_pos r, if_neg q, if_pos r]
    · rw [if_neg r, if_neg q, if_neg q, if_neg r]
theorem sA_same (s : S) (f : Nat) (a b : List Int32) : Jvm.AM.sA (Jvm.AM.sA s f a) f b = Jvm.AM.sA s f b := by
  unfold Jvm.AM.sA; simp only [upd_same]
theorem sA_comm (s : S) {f h : Nat} (n : f ≠ h) (a b : List Int32) : Jvm.AM.sA (Jvm.AM.sA s f a) h b = Jvm.AM.sA (Jvm.AM.sA s h b) f a := by
  unfold Jvm.AM.sA; simp only; rw [upd_comm _ n]
end Jvm.PL
/-! ## rows of bits -/
namespace Jvm.PL
open Jvm.AM Jvm.Free
def bt (w : Int32) (y : Nat) : Bool := w.toBitVec.getLsbD y
theorem bt_zero (y : Nat) : bt 0 y = false := by simp [bt]
theorem bt_or (a b : Int32) (y : Nat) : bt (a ||| b) y = (bt a y || bt b y) := by simp [bt]
theorem bt_and (a b : Int32) (y : Nat) : bt (a &&& b) y = (bt a y && bt b y) := by simp [bt]
theorem bt_ge (w : Int32) {y : Nat} (h : 32 ≤ y) : bt w y = false := by unfold bt; exact BitVec.getLsbD_of_ge _ _ h
theorem bt_m1 {y : Nat} (h : y < 32) : bt (-1) y = true := by
  unfold bt
  rw [show (-1 : Int32).toBitVec = BitVec.allOnes 32 from rfl, BitVec.getLsbD_allOnes]
  simp [h]
theorem bt_not (a : Int32) {y : Nat} (h : y < 32) : bt (a ^^^ (-1)) y = !bt a y := by
  have := bt_m1 h
  unfold bt at *
  rw [Int32.toBitVec_xor, BitVec.getLsbD_xor, this]; simp
theorem bt_andn (a b : Int32) (y : Nat) : bt (a &&& (b ^^^ (-1))) y = (bt a y && !bt b y) := by
  rw [bt_and]
  by_cases h : y < 32
  · rw [bt_not b h]
  · rw [bt_ge a (by omega)]; simp
theorem bt_ext {a b : Int32} (h : ∀ y, y < 32 → bt a y = bt b y) : a = b := by
  apply Int32.toBitVec_inj.mp
  apply BitVec.eq_of_getLsbD_eq
  intro i hi
  exact h i hi
theorem bt_eq0 {w : Int32} : w = 0 ↔ ∀ y, y < 32 → bt w y = false := by
  constructor
  · rintro rfl y _; exact bt_zero y
  · intro h; exact bt_ext fun y hy => by rw [h y hy, bt_zero]
theorem ushr_bit (w : Int32) {y : Nat} (hy : y < 32) : (XT.ushr w (Int32.ofNat y)).toBitVec = w.toBitVec >>> y := by
  unfold XT.ushr
  have h1 : ((Int32.ofNat y &&& 31).toUInt32.toBitVec).toNat = y := by
    show ((Int32.ofNat y &&& 31).toBitVec).toNat = y
    rw [Int32.toBitVec_and, BitVec.toNat_and]
    have e1 : (Int32.ofNat y).toBitVec.toNat = y := by
      show (BitVec.ofNat 32 y).toNat = y
      rw [BitVec.toNat_ofNat]; omega
    have e2 : (31 : Int32).toBitVec.toNat = 31 := rfl
    rw [e1, e2, show 31 = 2 ^ 5 - 1 from rfl, Nat.and_two_pow_sub_one_eq_mod]; omega
  show (w.toUInt32 >>> (Int32.ofNat y &&& 31).toUInt32).toBitVec = _
  rw [UInt32.toBitVec_shiftRight]
  show w.toBitVec >>> ((Int32.ofNat y &&& 31).toUInt32.toBitVec % 32) = _
  rw [BitVec.ushiftRight_eq']
  congr 1
  rw [BitVec.toNat_umod, h1]
  show y % 32 = y
  omega
theorem and1 (w : Int32) : (w &&& 1 = 0) ↔ bt w 0 = false := by
  constructor
  · intro h
    have : bt (w &&& 1) 0 = false := by rw [h, bt_zero]
    rw [bt_and] at this
    simpa [show bt 1 0 = true from rfl] using this
  · intro h
    refine bt_ext fun y hy => ?_
    rw [bt_and, bt_zero]
    cases y with
    | zero => rw [h]; rfl
    | succ y =>
      have : bt 1 (y + 1) = false := by
        unfold bt
        show (1#32).getLsbD (y + 1) = false
        simp [BitVec.getLsbD_one]
      rw [this]; simp
theorem test_bit (w : Int32) {y : Nat} (hy : y < 32) : (XT.ushr w (Int32.ofNat y) &&& 1 = 0) ↔ bt w y = false := by
  rw [and1]
  unfold bt
  rw [ushr_bit w hy]; simp
theorem shl_bit {b : Nat} (hb : b < 32) (y : Nat) : bt ((1 : Int32) <<< (Int32.ofNat b &&& 31)) y = decide (y = b) := by
  have h1 : (Int32.ofNat b &&& 31) = Int32.ofNat b := by
    apply Int32.toBitVec_inj.mp
    rw [Int32.toBitVec_and]
    apply BitVec.eq_of_toNat_eq
    rw [BitVec.toNat_and]
    have e1 : (Int32.ofNat b).toBitVec.toNat = b := by
      show (BitVec.ofNat 32 b).toNat = b
      rw [BitVec.toNat_ofNat]; omega
    have e2 : (31 : Int32).toBitVec.toNat = 31 := rfl
    rw [e1, e2, show 31 = 2 ^ 5 - 1 from rfl, Nat.and_two_pow_sub_one_eq_mod]; omega
  rw [h1]
  unfold bt
  have e : ((1 : Int32) <<< Int32.ofNat b).toBitVec = (1#32) <<< b := by
    rw [Int32.toBitVec_shiftLeft]
    show (1#32) <<< ((Int32.ofNat b).toBitVec.smod 32) = _
    have : (Int32.ofNat b).toBitVec.smod 32 = BitVec.ofNat 32 b := by
      have hz : ∀ b : Fin 32, (Int32.ofNat b.val).toBitVec.smod 32 = BitVec.ofNat 32 b.val := by decide
      exact hz ⟨b, hb⟩
    rw [this, BitVec.shiftLeft_eq']
    congr 1
    rw [BitVec.toNat_ofNat]; omega
  rw [e]
  simp only [BitVec.getLsbD_shiftLeft, BitVec.getLsbD_one]
  by_cases h : y = b
  · subst h; simp [hb]
  · simp [h]; omega
end Jvm.PL
namespace Jvm.Pilot.@@N@@
open Jvm Jvm.ClassFile Sem Op Lib Jvm.Free Jvm.Stand Jvm.LawKit Jvm.RoadKit Jvm.AM Jvm.PL Jvm.Pilot.@@N@@.Jvm.D
def ci1 : CI := ("DeferredCountY", 20, [("heapCells", "I", .int), ("fieldsPer", "I", .int), ("rootCap", "I", .int), ("tableCap", "I", .int), ("liveTotal", "I", .int), ("rootDepth", "I", .int), ("tableLen", "I", .int), ("workTop", "I", .int), ("runs", "I", .int)], [("live", "[Z", .boolean, 64), ("cellFields", "[I", .int, 256), ("refs", "[I", .int, 64), ("rootStack", "[I", .int, 16), ("tableIds", "[I", .int, 64), ("tablePos", "[I", .int, 64), ("survivor", "[Z", .boolean, 64), ("rootHeld", "[Z", .boolean, 64), ("queued", "[Z", .boolean, 64), ("holders", "[I", .int, 64), ("work", "[I", .int, 64)])
def PP : PI := (tables_1, ci1)
def BIG : Nat := 1000000
def m0 : Meth := (⟨"DeferredCountY", "clamp", "(III)I"⟩, prog_1_method_58_code, 3, (some .int), { frames := 0, cells := 0, slots := 0, locals := 0 }, 1, false, 0, 0)
def m1 : Meth := (⟨"DeferredCountY", "clearCellFields", "(I)V"⟩, prog_1_method_42_code, 4, none, { frames := 0, cells := 0, slots := 0, locals := 0 }, 1, false, 0, 0)
def m2 : Meth := (⟨"DeferredCountY", "resetHeap", "()V"⟩, prog_1_method_54_code, 2, none, { frames := 1, cells := 0, slots := 0, locals := 15 }, 1, false, 0, 0)
def m3 : Meth := (⟨"DeferredCountY", "resetRoots", "()V"⟩, prog_1_method_55_code, 2, none, { frames := 0, cells := 0, slots := 0, locals := 0 }, 1, false, 0, 0)
def m4 : Meth := (⟨"DeferredCountY", "resetTable", "()V"⟩, prog_1_method_56_code, 2, none, { frames := 0, cells := 0, slots := 0, locals := 0 }, 1, false, 0, 0)
def m5 : Meth := (⟨"DeferredCountY", "resetScratch", "()V"⟩, prog_1_method_57_code, 2, none, { frames := 0, cells := 0, slots := 0, locals := 0 }, 1, false, 0, 0)
def m6 : Meth := (⟨"DeferredCountY", "<init>", "(IIII)V"⟩, prog_1_method_1_code, 6, none, { frames := 2, cells := 11, slots := 848, locals := 28 }, 1, true, 1, 20)
def m7 : Meth := (⟨"DeferredCountY", "rootsFull", "()Z"⟩, prog_1_method_47_code, 1, (some .boolean), { frames := 0, cells := 0, slots := 0, locals := 0 }, 1, false, 0, 0)
def m8 : Meth := (⟨"DeferredCountY", "hasFreeCell", "()Z"⟩, prog_1_method_38_code, 1, (some .boolean), { frames := 0, cells := 0, slots := 0, locals := 0 }, 1, false, 0, 0)
def m9 : Meth := (⟨"DeferredCountY", "tableIsFull", "()Z"⟩, prog_1_method_52_code, 1, (some .boolean), { frames := 0, cells := 0, slots := 0, locals := 0 }, 1, false, 0, 0)
def m10 : Meth := (⟨"DeferredCountY", "allocNeedsReconcile", "()Z"⟩, prog_1_method_20_code, 1, (some .boolean), { frames := 1, cells := 0, slots := 0, locals := 12 }, 1, false, 0, 0)
def m11 : Meth := (⟨"DeferredCountY", "lowestFreeCell", "()I"⟩, prog_1_method_39_code, 2, (some .int), { frames := 0, cells := 0, slots := 0, locals := 0 }, 1, false, 0, 0)
def m12 : Meth := (⟨"DeferredCountY", "isObjectId", "(I)Z"⟩, prog_1_method_59_code, 2, (some .boolean), { frames := 0, cells := 0, slots := 0, locals := 0 }, 1, false, 0, 0)
def m13 : Meth := (⟨"DeferredCountY", "bringToLife", "(I)V"⟩, prog_1_method_40_code, 2, none, { frames := 1, cells := 0, slots := 0, locals := 15 }, 1, false, 0, 0)
def m14 : Meth := (⟨"DeferredCountY", "tableInsert", "(I)Z"⟩, prog_1_method_53_code, 2, (some .boolean), { frames := 1, cells := 0, slots := 0, locals := 13 }, 1, false, 0, 0)
def m15 : Meth := (⟨"DeferredCountY", "rootPush", "(I)V"⟩, prog_1_method_48_code, 2, none, { frames := 0, cells := 0, slots := 0, locals := 0 }, 1, false, 0, 0)
def m16 : Meth := (⟨"DeferredCountY", "placeNewObject", "(I)V"⟩, prog_1_method_21_code, 2, none, { frames := 2, cells := 0, slots := 0, locals := 28 }, 1, false, 0, 0)
def m17 : Meth := (⟨"DeferredCountY", "alloc", "()I"⟩, prog_1_method_2_code, 2, (some .int), { frames := 3, cells := 0, slots := 0, locals := 41 }, 1, false, 0, 0)
def m18 : Meth := (⟨"DeferredCountY", "isRootSlot", "(I)Z"⟩, prog_1_method_62_code, 2, (some .boolean), { frames := 0, cells := 0, slots := 0, locals := 0 }, 1, false, 0, 0)
def m19 : Meth := (⟨"DeferredCountY", "isFieldNo", "(I)Z"⟩, prog_1_method_61_code, 2, (some .boolean), { frames := 0, cells := 0, slots := 0, locals := 0 }, 1, false, 0, 0)
def m20 : Meth := (⟨"DeferredCountY", "isValueSlot", "(I)Z"⟩, prog_1_method_63_code, 2, (some .boolean), { frames := 1, cells := 0, slots := 0, locals := 13 }, 1, false, 0, 0)
def m21 : Meth := (⟨"DeferredCountY", "isLiveId", "(I)Z"⟩, prog_1_method_60_code, 2, (some .boolean), { frames := 1, cells := 0, slots := 0, locals := 13 }, 1, false, 0, 0)
def m22 : Meth := (⟨"DeferredCountY", "storeCheck", "(III)I"⟩, prog_1_method_18_code, 4, (some .int), { frames := 2, cells := 0, slots := 0, locals := 26 }, 1, false, 0, 0)
def m23 : Meth := (⟨"DeferredCountY", "valueOfSlot", "(I)I"⟩, prog_1_method_50_code, 2, (some .int), { frames := 1, cells := 0, slots := 0, locals := 13 }, 1, false, 0, 0)
def m24 : Meth := (⟨"DeferredCountY", "readField", "(II)I"⟩, prog_1_method_43_code, 3, (some .int), { frames := 1, cells := 0, slots := 0, locals := 13 }, 1, false, 0, 0)
def m25 : Meth := (⟨"DeferredCountY", "storeNeedsReconcile", "(II)Z"⟩, prog_1_method_22_code, 3, (some .boolean), { frames := 1, cells := 0, slots := 0, locals := 13 }, 1, false, 0, 0)
def m26 : Meth := (⟨"DeferredCountY", "refDec", "(I)V"⟩, prog_1_method_46_code, 2, none, { frames := 1, cells := 0, slots := 0, locals := 13 }, 1, false, 0, 0)
def m27 : Meth := (⟨"DeferredCountY", "refInc", "(I)V"⟩, prog_1_method_45_code, 2, none, { frames := 1, cells := 0, slots := 0, locals := 13 }, 1, false, 0, 0)
def m28 : Meth := (⟨"DeferredCountY", "writeFieldRaw", "(III)V"⟩, prog_1_method_44_code, 4, none, { frames := 1, cells := 0, slots := 0, locals := 13 }, 1, false, 0, 0)
def m29 : Meth := (⟨"DeferredCountY", "assignField", "(III)V"⟩, prog_1_method_23_code, 5, none, { frames := 2, cells := 0, slots := 0, locals := 28 }, 1, false, 0, 0)
def m30 : Meth := (⟨"DeferredCountY", "noteZeroCount", "(I)V"⟩, prog_1_method_24_code, 2, none, { frames := 1, cells := 0, slots := 0, locals := 13 }, 1, false, 0, 0)
def m31 : Meth := (⟨"DeferredCountY", "store", "(III)I"⟩, prog_1_method_4_code, 8, (some .int), { frames := 3, cells := 0, slots := 0, locals := 44 }, 1, false, 0, 0)
def m32 : Meth := (⟨"DeferredCountY", "field", "(II)I"⟩, prog_1_method_11_code, 3, (some .int), { frames := 2, cells := 0, slots := 0, locals := 27 }, 1, false, 0, 0)
def m33 : Meth := (⟨"DeferredCountY", "count", "(I)I"⟩, prog_1_method_12_code, 2, (some .int), { frames := 2, cells := 0, slots := 0, locals := 26 }, 1, false, 0, 0)
def m34 : Meth := (⟨"DeferredCountY", "tableSize", "()I"⟩, prog_1_method_14_code, 1, (some .int), { frames := 0, cells := 0, slots := 0, locals := 0 }, 1, false, 0, 0)
def m35 : Meth := (⟨"DeferredCountY", "reconciliations", "()I"⟩, prog_1_method_16_code, 1, (some .int), { frames := 0, cells := 0, slots := 0, locals := 0 }, 1, false, 0, 0)
def m36 : Meth := (⟨"DeferredCountY", "depth", "()I"⟩, prog_1_method_8_code, 1, (some .int), { frames := 0, cells := 0, slots := 0, locals := 0 }, 1, false, 0, 0)
def m37 : Meth := (x, code, maxLocals, ret, room_1, 1, true, 0, 0)
theorem ar_0 : (cA PP.2)[0]? = some ("live", "[Z", .boolean, 64) := rfl
theorem ar_1 : (cA PP.2)[1]? = some ("cellFields", "[I", .int, 256) := rfl
theorem ar_2 : (cA PP.2)[2]? = some ("refs", "[I", .int, 64) := rfl
theorem ar_3 : (cA PP.2)[3]? = some ("rootStack", "[I", .int, 16) := rfl
theorem ar_4 : (cA PP.2)[4]? = some ("tableIds", "[I", .int, 64) := rfl
theorem ar_5 : (cA PP.2)[5]? = some ("tablePos", "[I", .int, 64) := rfl
theorem ar_6 : (cA PP.2)[6]? = some ("survivor", "[Z", .boolean, 64) := rfl
theorem ar_7 : (cA PP.2)[7]? = some ("rootHeld", "[Z", .boolean, 64) := rfl
theorem ar_8 : (cA PP.2)[8]? = some ("queued", "[Z", .boolean, 64) := rfl
theorem ar_9 : (cA PP.2)[9]? = some ("holders", "[I", .int, 64) := rfl
theorem ar_10 : (cA PP.2)[10]? = some ("work", "[I", .int, 64) := rfl
theorem fa_7 : FldA PP 7 0 .boolean := ⟨_, _, _, rfl, List.mem_of_getElem? (i := 10) rfl⟩
theorem fa_13 : FldA PP 13 1 .int := ⟨_, _, _, rfl, List.mem_of_getElem? (i := 13) rfl⟩
theorem fa_17 : FldA PP 17 2 .int := ⟨_, _, _, rfl, List.mem_of_getElem? (i := 15) rfl⟩
theorem fa_20 : FldA PP 20 3 .int := ⟨_, _, _, rfl, List.mem_of_getElem? (i := 17) rfl⟩
theorem fa_23 : FldA PP 23 4 .int := ⟨_, _, _, rfl, List.mem_of_getElem? (i := 19) rfl⟩
theorem fa_26 : FldA PP 26 5 .int := ⟨_, _, _, rfl, List.mem_of_getElem? (i := 21) rfl⟩
theorem fa_29 : FldA PP 29 6 .boolean := ⟨_, _, _, rfl, List.mem_of_getElem? (i := 23) rfl⟩
theorem fa_32 : FldA PP 32 7 .boolean := ⟨_, _, _, rfl, List.mem_of_getElem? (i := 25) rfl⟩
theorem fa_35 : FldA PP 35 8 .boolean := ⟨_, _, _, rfl, List.mem_of_getElem? (i := 27) rfl⟩
theorem fa_38 : FldA PP 38 9 .int := ⟨_, _, _, rfl, List.mem_of_getElem? (i := 29) rfl⟩
theorem fa_41 : FldA PP 41 10 .int := ⟨_, _, _, rfl, List.mem_of_getElem? (i := 31) rfl⟩
theorem fs_48 : FldS PP 48 0 .int := ⟨_, _, rfl, List.mem_of_getElem? (i := 36) rfl⟩
theorem fs_52 : FldS PP 52 1 .int := ⟨_, _, rfl, List.mem_of_getElem? (i := 38) rfl⟩
theorem fs_55 : FldS PP 55 2 .int := ⟨_, _, rfl, List.mem_of_getElem? (i := 40) rfl⟩
theorem fs_58 : FldS PP 58 3 .int := ⟨_, _, rfl, List.mem_of_getElem? (i := 42) rfl⟩
theorem fs_73 : FldS PP 73 8 .int := ⟨_, _, rfl, List.mem_of_getElem? (i := 72) rfl⟩
theorem fs_125 : FldS PP 125 5 .int := ⟨_, _, rfl, List.mem_of_getElem? (i := 58) rfl⟩
theorem fs_144 : FldS PP 144 6 .int := ⟨_, _, rfl, List.mem_of_getElem? (i := 64) rfl⟩
theorem fs_147 : FldS PP 147 4 .int := ⟨_, _, rfl, List.mem_of_getElem? (i := 52) rfl⟩
theorem fs_201 : FldS PP 201 7 .int := ⟨_, _, rfl, List.mem_of_getElem? (i := 70) rfl⟩
theorem wr_0 (M : Meth) : Wrt PP M 0 := ⟨_, _, _, rfl, Or.inl (List.mem_of_getElem? (i := 37) rfl)⟩
theorem wr_1 (M : Meth) : Wrt PP M 1 := ⟨_, _, _, rfl, Or.inl (List.mem_of_getElem? (i := 39) rfl)⟩
theorem wr_2 (M : Meth) : Wrt PP M 2 := ⟨_, _, _, rfl, Or.inl (List.mem_of_getElem? (i := 41) rfl)⟩
theorem wr_3 (M : Meth) : Wrt PP M 3 := ⟨_, _, _, rfl, Or.inl (List.mem_of_getElem? (i := 43) rfl)⟩
theorem wr_4 (M : Meth) : Wrt PP M 4 := ⟨_, _, _, rfl, Or.inl (List.mem_of_getElem? (i := 53) rfl)⟩
theorem wr_5 (M : Meth) : Wrt PP M 5 := ⟨_, _, _, rfl, Or.inl (List.mem_of_getElem? (i := 59) rfl)⟩
theorem wr_6 (M : Meth) : Wrt PP M 6 := ⟨_, _, _, rfl, Or.inl (List.mem_of_getElem? (i := 65) rfl)⟩
theorem wr_7 (M : Meth) : Wrt PP M 7 := ⟨_, _, _, rfl, Or.inl (List.mem_of_getElem? (i := 71) rfl)⟩
theorem wr_8 (M : Meth) : Wrt PP M 8 := ⟨_, _, _, rfl, Or.inl (List.mem_of_getElem? (i := 73) rfl)⟩
theorem oid_0 : 1 = (cK PP.2 + 1) * 0 + 1 := rfl
theorem pl_0 : plainName "DeferredCountY" = true := by first | (simp [plainName, overriddenIn]; done) | decide +kernel
theorem pl_1 : plainName "DeferredCountYL2" = true := by first | (simp [plainName, overriddenIn]; done) | decide +kernel
theorem hm_0 : (mY m0).cls = cN PP.2 := rfl
theorem hn_0 : 0 < mN m0 := by decide
theorem pd_0 : parseMethodDescriptor (mY m0).desc = some ⟨[.int, .int, .int], (some .int)⟩ := by decide +kernel
theorem hm_1 : (mY m1).cls = cN PP.2 := rfl
theorem hn_1 : 0 < mN m1 := by decide
theorem pd_1 : parseMethodDescriptor (mY m1).desc = some ⟨[.int], none⟩ := by decide +kernel
theorem hm_2 : (mY m2).cls = cN PP.2 := rfl
theorem hn_2 : 0 < mN m2 := by decide
theorem pd_2 : parseMethodDescriptor (mY m2).desc = some ⟨[], none⟩ := by decide +kernel
theorem hm_3 : (mY m3).cls = cN PP.2 := rfl
theorem hn_3 : 0 < mN m3 := by decide
theorem pd_3 : parseMethodDescriptor (mY m3).desc = some ⟨[], none⟩ := by decide +kernel
theorem hm_4 : (mY m4).cls = cN PP.2 := rfl
theorem hn_4 : 0 < mN m4 := by decide
theorem pd_4 : parseMethodDescriptor (mY m4).desc = some ⟨[], none⟩ := by decide +kernel
theorem hm_5 : (mY m5).cls = cN PP.2 := rfl
theorem hn_5 : 0 < mN m5 := by decide
theorem pd_5 : parseMethodDescriptor (mY m5).desc = some ⟨[], none⟩ := by decide +kernel
theorem hm_6 : (mY m6).cls = cN PP.2 := rfl
theorem hn_6 : 0 < mN m6 := by decide
theorem pd_6 : parseMethodDescriptor (mY m6).desc = some ⟨[.int, .int, .int, .int], none⟩ := by decide +kernel
theorem hm_7 : (mY m7).cls = cN PP.2 := rfl
theorem hn_7 : 0 < mN m7 := by decide
theorem pd_7 : parseMethodDescriptor (mY m7).desc = some ⟨[], (some .boolean)⟩ := by decide +kernel
theorem hm_8 : (mY m8).cls = cN PP.2 := rfl
theorem hn_8 : 0 < mN m8 := by decide
theorem pd_8 : parseMethodDescriptor (mY m8).desc = some ⟨[], (some .boolean)⟩ := by decide +kernel
theorem hm_9 : (mY m9).cls = cN PP.2 := rfl
theorem hn_9 : 0 < mN m9 := by decide
theorem pd_9 : parseMethodDescriptor (mY m9).desc = some ⟨[], (some .boolean)⟩ := by decide +kernel
theorem hm_10 : (mY m10).cls = cN PP.2 := rfl
theorem hn_10 : 0 < mN m10 := by decide
theorem pd_10 : parseMethodDescriptor (mY m10).desc = some ⟨[], (some .boolean)⟩ := by decide +kernel
theorem hm_11 : (mY m11).cls = cN PP.2 := rfl
theorem hn_11 : 0 < mN m11 := by decide
theorem pd_11 : parseMethodDescriptor (mY m11).desc = some ⟨[], (some .int)⟩ := by decide +kernel
theorem hm_12 : (mY m12).cls = cN PP.2 := rfl
theorem hn_12 : 0 < mN m12 := by decide
theorem pd_12 : parseMethodDescriptor (mY m12).desc = some ⟨[.int], (some .boolean)⟩ := by decide +kernel
theorem hm_13 : (mY m13).cls = cN PP.2 := rfl
theorem hn_13 : 0 < mN m13 := by decide
theorem pd_13 : parseMethodDescriptor (mY m13).desc = some ⟨[.int], none⟩ := by decide +kernel
theorem hm_14 : (mY m14).cls = cN PP.2 := rfl
theorem hn_14 : 0 < mN m14 := by decide
theorem pd_14 : parseMethodDescriptor (mY m14).desc = some ⟨[.int], (some .boolean)⟩ := by decide +kernel
theorem hm_15 : (mY m15).cls = cN PP.2 := rfl
theorem hn_15 : 0 < mN m15 := by decide
theorem pd_15 : parseMethodDescriptor (mY m15).desc = some ⟨[.int], none⟩ := by decide +kernel
theorem hm_16 : (mY m16).cls = cN PP.2 := rfl
theorem hn_16 : 0 < mN m16 := by decide
theorem pd_16 : parseMethodDescriptor (mY m16).desc = some ⟨[.int], none⟩ := by decide +kernel
theorem hm_17 : (mY m17).cls = cN PP.2 := rfl
theorem hn_17 : 0 < mN m17 := by decide
theorem pd_17 : parseMethodDescriptor (mY m17).desc = some ⟨[], (some .int)⟩ := by decide +kernel
theorem hm_18 : (mY m18).cls = cN PP.2 := rfl
theorem hn_18 : 0 < mN m18 := by decide
theorem pd_18 : parseMethodDescriptor (mY m18).desc = some ⟨[.int], (some .boolean)⟩ := by decide +kernel
theorem hm_19 : (mY m19).cls = cN PP.2 := rfl
theorem hn_19 : 0 < mN m19 := by decide
theorem pd_19 : parseMethodDescriptor (mY m19).desc = some ⟨[.int], (some .boolean)⟩ := by decide +kernel
theorem hm_20 : (mY m20).cls = cN PP.2 := rfl
theorem hn_20 : 0 < mN m20 := by decide
theorem pd_20 : parseMethodDescriptor (mY m20).desc = some ⟨[.int], (some .boolean)⟩ := by decide +kernel
theorem hm_21 : (mY m21).cls = cN PP.2 := rfl
theorem hn_21 : 0 < mN m21 := by decide
theorem pd_21 : parseMethodDescriptor (mY m21).desc = some ⟨[.int], (some .boolean)⟩ := by decide +kernel
theorem hm_22 : (mY m22).cls = cN PP.2 := rfl
theorem hn_22 : 0 < mN m22 := by decide
theorem pd_22 : parseMethodDescriptor (mY m22).desc = some ⟨[.int, .int, .int], (some .int)⟩ := by decide +kernel
theorem hm_23 : (mY m23).cls = cN PP.2 := rfl
theorem hn_23 : 0 < mN m23 := by decide
theorem pd_23 : parseMethodDescriptor (mY m23).desc = some ⟨[.int], (some .int)⟩ := by decide +kernel
theorem hm_24 : (mY m24).cls = cN PP.2 := rfl
theorem hn_24 : 0 < mN m24 := by decide
theorem pd_24 : parseMethodDescriptor (mY m24).desc = some ⟨[.int, .int], (some .int)⟩ := by decide +kernel
theorem hm_25 : (mY m25).cls = cN PP.2 := rfl
theorem hn_25 : 0 < mN m25 := by decide
theorem pd_25 : parseMethodDescriptor (mY m25).desc = some ⟨[.int, .int], (some .boolean)⟩ := by decide +kernel
theorem hm_26 : (mY m26).cls = cN PP.2 := rfl
theorem hn_26 : 0 < mN m26 := by decide
theorem pd_26 : parseMethodDescriptor (mY m26).desc = some ⟨[.int], none⟩ := by decide +kernel
theorem hm_27 : (mY m27).cls = cN PP.2 := rfl
theorem hn_27 : 0 < mN m27 := by decide
theorem pd_27 : parseMethodDescriptor (mY m27).desc = some ⟨[.int], none⟩ := by decide +kernel
theorem hm_28 : (mY m28).cls = cN PP.2 := rfl
theorem hn_28 : 0 < mN m28 := by decide
theorem pd_28 : parseMethodDescriptor (mY m28).desc = some ⟨[.int, .int, .int], none⟩ := by decide +kernel
theorem hm_29 : (mY m29).cls = cN PP.2 := rfl
theorem hn_29 : 0 < mN m29 := by decide
theorem pd_29 : parseMethodDescriptor (mY m29).desc = some ⟨[.int, .int, .int], none⟩ := by decide +kernel
theorem hm_30 : (mY m30).cls = cN PP.2 := rfl
theorem hn_30 : 0 < mN m30 := by decide
theorem pd_30 : parseMethodDescriptor (mY m30).desc = some ⟨[.int], none⟩ := by decide +kernel
theorem hm_31 : (mY m31).cls = cN PP.2 := rfl
theorem hn_31 : 0 < mN m31 := by decide
theorem pd_31 : parseMethodDescriptor (mY m31).desc = some ⟨[.int, .int, .int], (some .int)⟩ := by decide +kernel
theorem hm_32 : (mY m32).cls = cN PP.2 := rfl
theorem hn_32 : 0 < mN m32 := by decide
theorem pd_32 : parseMethodDescriptor (mY m32).desc = some ⟨[.int, .int], (some .int)⟩ := by decide +kernel
theorem hm_33 : (mY m33).cls = cN PP.2 := rfl
theorem hn_33 : 0 < mN m33 := by decide
theorem pd_33 : parseMethodDescriptor (mY m33).desc = some ⟨[.int], (some .int)⟩ := by decide +kernel
theorem hm_34 : (mY m34).cls = cN PP.2 := rfl
theorem hn_34 : 0 < mN m34 := by decide
theorem pd_34 : parseMethodDescriptor (mY m34).desc = some ⟨[], (some .int)⟩ := by decide +kernel
theorem hm_35 : (mY m35).cls = cN PP.2 := rfl
theorem hn_35 : 0 < mN m35 := by decide
theorem pd_35 : parseMethodDescriptor (mY m35).desc = some ⟨[], (some .int)⟩ := by decide +kernel
theorem hm_36 : (mY m36).cls = cN PP.2 := rfl
theorem hn_36 : 0 < mN m36 := by decide
theorem pd_36 : parseMethodDescriptor (mY m36).desc = some ⟨[], (some .int)⟩ := by decide +kernel
theorem hn_37 : 0 < mN m37 := by decide
theorem d0_0 : decode (mB m0) 0 = .ok (.iload_n 0, 1) := by decide +kernel
theorem d0_1 : decode (mB m0) 1 = .ok (.iload_n 1, 1) := by decide +kernel
theorem d0_2 : decode (mB m0) 2 = .ok (.if_icmp .ge 5, 3) := by decide +kernel
theorem d0_5 : decode (mB m0) 5 = .ok (.iload_n 1, 1) := by decide +kernel
theorem d0_6 : decode (mB m0) 6 = .ok (.ireturn, 1) := by decide +kernel
theorem d0_7 : decode (mB m0) 7 = .ok (.iload_n 0, 1) := by decide +kernel
theorem d0_8 : decode (mB m0) 8 = .ok (.iload_n 2, 1) := by decide +kernel
theorem d0_9 : decode (mB m0) 9 = .ok (.if_icmp .le 5, 3) := by decide +kernel
theorem d0_12 : decode (mB m0) 12 = .ok (.iload_n 2, 1) := by decide +kernel
theorem d0_13 : decode (mB m0) 13 = .ok (.ireturn, 1) := by decide +kernel
theorem d0_14 : decode (mB m0) 14 = .ok (.iload_n 0, 1) := by decide +kernel
theorem d0_15 : decode (mB m0) 15 = .ok (.ireturn, 1) := by decide +kernel
theorem d1_0 : decode (mB m1) 0 = .ok (.iload_n 1, 1) := by decide +kernel
theorem d1_1 : decode (mB m1) 1 = .ok (.ifCond .lt 9, 3) := by decide +kernel
theorem d1_4 : decode (mB m1) 4 = .ok (.iload_n 1, 1) := by decide +kernel
theorem d1_5 : decode (mB m1) 5 = .ok (.bipush 64, 2) := by decide +kernel
theorem d1_7 : decode (mB m1) 7 = .ok (.if_icmp .lt 4, 3) := by decide +kernel
theorem d1_10 : decode (mB m1) 10 = .ok (.return_, 1) := by decide +kernel
theorem d1_11 : decode (mB m1) 11 = .ok (.iload_n 1, 1) := by decide +kernel
theorem d1_12 : decode (mB m1) 12 = .ok (.iconst 4, 1) := by decide +kernel
theorem d1_13 : decode (mB m1) 13 = .ok (.imul, 1) := by decide +kernel
theorem d1_14 : decode (mB m1) 14 = .ok (.istore_n 2, 1) := by decide +kernel
theorem d1_15 : decode (mB m1) 15 = .ok (.iconst 0, 1) := by decide +kernel
theorem d1_16 : decode (mB m1) 16 = .ok (.istore_n 3, 1) := by decide +kernel
theorem d1_17 : decode (mB m1) 17 = .ok (.iload_n 3, 1) := by decide +kernel
theorem d1_18 : decode (mB m1) 18 = .ok (.iconst 4, 1) := by decide +kernel
theorem d1_19 : decode (mB m1) 19 = .ok (.if_icmp .ge 18, 3) := by decide +kernel
theorem d1_22 : decode (mB m1) 22 = .ok (.aload_n 0, 1) := by decide +kernel
theorem d1_23 : decode (mB m1) 23 = .ok (.getfield 13, 3) := by decide +kernel
theorem d1_26 : decode (mB m1) 26 = .ok (.iload_n 2, 1) := by decide +kernel
theorem d1_27 : decode (mB m1) 27 = .ok (.iload_n 3, 1) := by decide +kernel
theorem d1_28 : decode (mB m1) 28 = .ok (.iadd, 1) := by decide +kernel
theorem d1_29 : decode (mB m1) 29 = .ok (.iconst (-1), 1) := by decide +kernel
theorem d1_30 : decode (mB m1) 30 = .ok (.iastore, 1) := by decide +kernel
theorem d1_31 : decode (mB m1) 31 = .ok (.iinc 3 1, 3) := by decide +kernel
theorem d1_34 : decode (mB m1) 34 = .ok (.goto (-17), 3) := by decide +kernel
theorem d1_37 : decode (mB m1) 37 = .ok (.return_, 1) := by decide +kernel
theorem d2_0 : decode (mB m2) 0 = .ok (.iconst 0, 1) := by decide +kernel
theorem d2_1 : decode (mB m2) 1 = .ok (.istore_n 1, 1) := by decide +kernel
theorem d2_2 : decode (mB m2) 2 = .ok (.iload_n 1, 1) := by decide +kernel
theorem d2_3 : decode (mB m2) 3 = .ok (.bipush 64, 2) := by decide +kernel
theorem d2_5 : decode (mB m2) 5 = .ok (.if_icmp .ge 28, 3) := by decide +kernel
theorem d2_8 : decode (mB m2) 8 = .ok (.aload_n 0, 1) := by decide +kernel
theorem d2_9 : decode (mB m2) 9 = .ok (.getfield 7, 3) := by decide +kernel
theorem d2_12 : decode (mB m2) 12 = .ok (.iload_n 1, 1) := by decide +kernel
theorem d2_13 : decode (mB m2) 13 = .ok (.iconst 0, 1) := by decide +kernel
theorem d2_14 : decode (mB m2) 14 = .ok (.bastore, 1) := by decide +kernel
theorem d2_15 : decode (mB m2) 15 = .ok (.aload_n 0, 1) := by decide +kernel
theorem d2_16 : decode (mB m2) 16 = .ok (.getfield 17, 3) := by decide +kernel
theorem d2_19 : decode (mB m2) 19 = .ok (.iload_n 1, 1) := by decide +kernel
theorem d2_20 : decode (mB m2) 20 = .ok (.iconst 0, 1) := by decide +kernel
theorem d2_21 : decode (mB m2) 21 = .ok (.iastore, 1) := by decide +kernel
theorem d2_22 : decode (mB m2) 22 = .ok (.aload_n 0, 1) := by decide +kernel
theorem d2_23 : decode (mB m2) 23 = .ok (.iload_n 1, 1) := by decide +kernel
theorem d2_24 : decode (mB m2) 24 = .ok (.invokevirtual 219, 3) := by decide +kernel
theorem d2_27 : decode (mB m2) 27 = .ok (.iinc 1 1, 3) := by decide +kernel
theorem d2_30 : decode (mB m2) 30 = .ok (.goto (-28), 3) := by decide +kernel
theorem d2_33 : decode (mB m2) 33 = .ok (.aload_n 0, 1) := by decide +kernel
theorem d2_34 : decode (mB m2) 34 = .ok (.iconst 0, 1) := by decide +kernel
theorem d2_35 : decode (mB m2) 35 = .ok (.putfield 147, 3) := by decide +kernel
theorem d2_38 : decode (mB m2) 38 = .ok (.return_, 1) := by decide +kernel
theorem d3_0 : decode (mB m3) 0 = .ok (.iconst 0, 1) := by decide +kernel
theorem d3_1 : decode (mB m3) 1 = .ok (.istore_n 1, 1) := by decide +kernel
theorem d3_2 : decode (mB m3) 2 = .ok (.iload_n 1, 1) := by decide +kernel
theorem d3_3 : decode (mB m3) 3 = .ok (.bipush 16, 2) := by decide +kernel
theorem d3_5 : decode (mB m3) 5 = .ok (.if_icmp .ge 16, 3) := by decide +kernel
theorem d3_8 : decode (mB m3) 8 = .ok (.aload_n 0, 1) := by decide +kernel
theorem d3_9 : decode (mB m3) 9 = .ok (.getfield 20, 3) := by decide +kernel
theorem d3_12 : decode (mB m3) 12 = .ok (.iload_n 1, 1) := by decide +kernel
theorem d3_13 : decode (mB m3) 13 = .ok (.iconst (-1), 1) := by decide +kernel
theorem d3_14 : decode (mB m3) 14 = .ok (.iastore, 1) := by decide +kernel
theorem d3_15 : decode (mB m3) 15 = .ok (.iinc 1 1, 3) := by decide +kernel
theorem d3_18 : decode (mB m3) 18 = .ok (.goto (-16), 3) := by decide +kernel
theorem d3_21 : decode (mB m3) 21 = .ok (.aload_n 0, 1) := by decide +kernel
theorem d3_22 : decode (mB m3) 22 = .ok (.iconst 0, 1) := by decide +kernel
theorem d3_23 : decode (mB m3) 23 = .ok (.putfield 125, 3) := by decide +kernel
theorem d3_26 : decode (mB m3) 26 = .ok (.return_, 1) := by decide +kernel
theorem d4_0 : decode (mB m4) 0 = .ok (.iconst 0, 1) := by decide +kernel
theorem d4_1 : decode (mB m4) 1 = .ok (.istore_n 1, 1) := by decide +kernel
theorem d4_2 : decode (mB m4) 2 = .ok (.iload_n 1, 1) := by decide +kernel
theorem d4_3 : decode (mB m4) 3 = .ok (.bipush 64, 2) := by decide +kernel
theorem d4_5 : decode (mB m4) 5 = .ok (.if_icmp .ge 16, 3) := by decide +kernel
theorem d4_8 : decode (mB m4) 8 = .ok (.aload_n 0, 1) := by decide +kernel
theorem d4_9 : decode (mB m4) 9 = .ok (.getfield 23, 3) := by decide +kernel
theorem d4_12 : decode (mB m4) 12 = .ok (.iload_n 1, 1) := by decide +kernel
theorem d4_13 : decode (mB m4) 13 = .ok (.iconst (-1), 1) := by decide +kernel
theorem d4_14 : decode (mB m4) 14 = .ok (.iastore, 1) := by decide +kernel
theorem d4_15 : decode (mB m4) 15 = .ok (.iinc 1 1, 3) := by decide +kernel
theorem d4_18 : decode (mB m4) 18 = .ok (.goto (-16), 3) := by decide +kernel
theorem d4_21 : decode (mB m4) 21 = .ok (.iconst 0, 1) := by decide +kernel
theorem d4_22 : decode (mB m4) 22 = .ok (.istore_n 1, 1) := by decide +kernel
theorem d4_23 : decode (mB m4) 23 = .ok (.iload_n 1, 1) := by decide +kernel
theorem d4_24 : decode (mB m4) 24 = .ok (.bipush 64, 2) := by decide +kernel
theorem d4_26 : decode (mB m4) 26 = .ok (.if_icmp .ge 16, 3) := by decide +kernel
theorem d4_29 : decode (mB m4) 29 = .ok (.aload_n 0, 1) := by decide +kernel
theorem d4_30 : decode (mB m4) 30 = .ok (.getfield 26, 3) := by decide +kernel
theorem d4_33 : decode (mB m4) 33 = .ok (.iload_n 1, 1) := by decide +kernel
theorem d4_34 : decode (mB m4) 34 = .ok (.iconst (-1), 1) := by decide +kernel
theorem d4_35 : decode (mB m4) 35 = .ok (.iastore, 1) := by decide +kernel
theorem d4_36 : decode (mB m4) 36 = .ok (.iinc 1 1, 3) := by decide +kernel
theorem d4_39 : decode (mB m4) 39 = .ok (.goto (-16), 3) := by decide +kernel
theorem d4_42 : decode (mB m4) 42 = .ok (.aload_n 0, 1) := by decide +kernel
theorem d4_43 : decode (mB m4) 43 = .ok (.iconst 0, 1) := by decide +kernel
theorem d4_44 : decode (mB m4) 44 = .ok (.putfield 144, 3) := by decide +kernel
theorem d4_47 : decode (mB m4) 47 = .ok (.return_, 1) := by decide +kernel
theorem d5_0 : decode (mB m5) 0 = .ok (.iconst 0, 1) := by decide +kernel
theorem d5_1 : decode (mB m5) 1 = .ok (.istore_n 1, 1) := by decide +kernel
theorem d5_2 : decode (mB m5) 2 = .ok (.iload_n 1, 1) := by decide +kernel
theorem d5_3 : decode (mB m5) 3 = .ok (.bipush 64, 2) := by decide +kernel
theorem d5_5 : decode (mB m5) 5 = .ok (.if_icmp .ge 44, 3) := by decide +kernel
theorem d5_8 : decode (mB m5) 8 = .ok (.aload_n 0, 1) := by decide +kernel
theorem d5_9 : decode (mB m5) 9 = .ok (.getfield 29, 3) := by decide +kernel
theorem d5_12 : decode (mB m5) 12 = .ok (.iload_n 1, 1) := by decide +kernel
theorem d5_13 : decode (mB m5) 13 = .ok (.iconst 0, 1) := by decide +kernel
theorem d5_14 : decode (mB m5) 14 = .ok (.bastore, 1) := by decide +kernel
theorem d5_15 : decode (mB m5) 15 = .ok (.aload_n 0, 1) := by decide +kernel
theorem d5_16 : decode (mB m5) 16 = .ok (.getfield 32, 3) := by decide +kernel
theorem d5_19 : decode (mB m5) 19 = .ok (.iload_n 1, 1) := by decide +kernel
theorem d5_20 : decode (mB m5) 20 = .ok (.iconst 0, 1) := by decide +kernel
theorem d5_21 : decode (mB m5) 21 = .ok (.bastore, 1) := by decide +kernel
theorem d5_22 : decode (mB m5) 22 = .ok (.aload_n 0, 1) := by decide +kernel
theorem d5_23 : decode (mB m5) 23 = .ok (.getfield 35, 3) := by decide +kernel
theorem d5_26 : decode (mB m5) 26 = .ok (.iload_n 1, 1) := by decide +kernel
theorem d5_27 : decode (mB m5) 27 = .ok (.iconst 0, 1) := by decide +kernel
theorem d5_28 : decode (mB m5) 28 = .ok (.bastore, 1) := by decide +kernel
theorem d5_29 : decode (mB m5) 29 = .ok (.aload_n 0, 1) := by decide +kernel
theorem d5_30 : decode (mB m5) 30 = .ok (.getfield 38, 3) := by decide +kernel
theorem d5_33 : decode (mB m5) 33 = .ok (.iload_n 1, 1) := by decide +kernel
theorem d5_34 : decode (mB m5) 34 = .ok (.iconst 0, 1) := by decide +kernel
theorem d5_35 : decode (mB m5) 35 = .ok (.iastore, 1) := by decide +kernel
theorem d5_36 : decode (mB m5) 36 = .ok (.aload_n 0, 1) := by decide +kernel
theorem d5_37 : decode (mB m5) 37 = .ok (.getfield 41, 3) := by decide +kernel
theorem d5_40 : decode (mB m5) 40 = .ok (.iload_n 1, 1) := by decide +kernel
theorem d5_41 : decode (mB m5) 41 = .ok (.iconst (-1), 1) := by decide +kernel
theorem d5_42 : decode (mB m5) 42 = .ok (.iastore, 1) := by decide +kernel
theorem d5_43 : decode (mB m5) 43 = .ok (.iinc 1 1, 3) := by decide +kernel
theorem d5_46 : decode (mB m5) 46 = .ok (.goto (-44), 3) := by decide +kernel
theorem d5_49 : decode (mB m5) 49 = .ok (.aload_n 0, 1) := by decide +kernel
theorem d5_50 : decode (mB m5) 50 = .ok (.iconst 0, 1) := by decide +kernel
theorem d5_51 : decode (mB m5) 51 = .ok (.putfield 201, 3) := by decide +kernel
theorem d5_54 : decode (mB m5) 54 = .ok (.return_, 1) := by decide +kernel
theorem d6_0 : decode (mB m6) 0 = .ok (.aload_n 0, 1) := by decide +kernel
theorem d6_1 : decode (mB m6) 1 = .ok (.invokespecial 1, 3) := by decide +kernel
theorem d6_4 : decode (mB m6) 4 = .ok (.aload_n 0, 1) := by decide +kernel
theorem d6_5 : decode (mB m6) 5 = .ok (.bipush 64, 2) := by decide +kernel
theorem d6_7 : decode (mB m6) 7 = .ok (.newarray .boolean, 2) := by decide +kernel
theorem d6_9 : decode (mB m6) 9 = .ok (.putfield 7, 3) := by decide +kernel
theorem d6_12 : decode (mB m6) 12 = .ok (.aload_n 0, 1) := by decide +kernel
theorem d6_13 : decode (mB m6) 13 = .ok (.sipush 256, 3) := by decide +kernel
theorem d6_16 : decode (mB m6) 16 = .ok (.newarray .int, 2) := by decide +kernel
theorem d6_18 : decode (mB m6) 18 = .ok (.putfield 13, 3) := by decide +kernel
theorem d6_21 : decode (mB m6) 21 = .ok (.aload_n 0, 1) := by decide +kernel
theorem d6_22 : decode (mB m6) 22 = .ok (.bipush 64, 2) := by decide +kernel
theorem d6_24 : decode (mB m6) 24 = .ok (.newarray .int, 2) := by decide +kernel
theorem d6_26 : decode (mB m6) 26 = .ok (.putfield 17, 3) := by decide +kernel
theorem d6_29 : decode (mB m6) 29 = .ok (.aload_n 0, 1) := by decide +kernel
theorem d6_30 : decode (mB m6) 30 = .ok (.bipush 16, 2) := by decide +kernel
theorem d6_32 : decode (mB m6) 32 = .ok (.newarray .int, 2) := by decide +kernel
theorem d6_34 : decode (mB m6) 34 = .ok (.putfield 20, 3) := by decide +kernel
theorem d6_37 : decode (mB m6) 37 = .ok (.aload_n 0, 1) := by decide +kernel
theorem d6_38 : decode (mB m6) 38 = .ok (.bipush 64, 2) := by decide +kernel
theorem d6_40 : decode (mB m6) 40 = .ok (.newarray .int, 2) := by decide +kernel
theorem d6_42 : decode (mB m6) 42 = .ok (.putfield 23, 3) := by decide +kernel
theorem d6_45 : decode (mB m6) 45 = .ok (.aload_n 0, 1) := by decide +kernel
theorem d6_46 : decode (mB m6) 46 = .ok (.bipush 64, 2) := by decide +kernel
theorem d6_48 : decode (mB m6) 48 = .ok (.newarray .int, 2) := by decide +kernel
theorem d6_50 : decode (mB m6) 50 = .ok (.putfield 26, 3) := by decide +kernel
theorem d6_53 : decode (mB m6) 53 = .ok (.aload_n 0, 1) := by decide +kernel
theorem d6_54 : decode (mB m6) 54 = .ok (.bipush 64, 2) := by decide +kernel
theorem d6_56 : decode (mB m6) 56 = .ok (.newarray .boolean, 2) := by decide +kernel
theorem d6_58 : decode (mB m6) 58 = .ok (.putfield 29, 3) := by decide +kernel
theorem d6_61 : decode (mB m6) 61 = .ok (.aload_n 0, 1) := by decide +kernel
theorem d6_62 : decode (mB m6) 62 = .ok (.bipush 64, 2) := by decide +kernel
theorem d6_64 : decode (mB m6) 64 = .ok (.newarray .boolean, 2) := by decide +kernel
theorem d6_66 : decode (mB m6) 66 = .ok (.putfield 32, 3) := by decide +kernel
theorem d6_69 : decode (mB m6) 69 = .ok (.aload_n 0, 1) := by decide +kernel
theorem d6_70 : decode (mB m6) 70 = .ok (.bipush 64, 2) := by decide +kernel
theorem d6_72 : decode (mB m6) 72 = .ok (.newarray .boolean, 2) := by decide +kernel
theorem d6_74 : decode (mB m6) 74 = .ok (.putfield 35, 3) := by decide +kernel
theorem d6_77 : decode (mB m6) 77 = .ok (.aload_n 0, 1) := by decide +kernel
theorem d6_78 : decode (mB m6) 78 = .ok (.bipush 64, 2) := by decide +kernel
theorem d6_80 : decode (mB m6) 80 = .ok (.newarray .int, 2) := by decide +kernel
theorem d6_82 : decode (mB m6) 82 = .ok (.putfield 38, 3) := by decide +kernel
theorem d6_85 : decode (mB m6) 85 = .ok (.aload_n 0, 1) := by decide +kernel
theorem d6_86 : decode (mB m6) 86 = .ok (.bipush 64, 2) := by decide +kernel
theorem d6_88 : decode (mB m6) 88 = .ok (.newarray .int, 2) := by decide +kernel
theorem d6_90 : decode (mB m6) 90 = .ok (.putfield 41, 3) := by decide +kernel
theorem d6_93 : decode (mB m6) 93 = .ok (.aload_n 0, 1) := by decide +kernel
theorem d6_94 : decode (mB m6) 94 = .ok (.iload_n 1, 1) := by decide +kernel
theorem d6_95 : decode (mB m6) 95 = .ok (.iconst 4, 1) := by decide +kernel
theorem d6_96 : decode (mB m6) 96 = .ok (.bipush 64, 2) := by decide +kernel
theorem d6_98 : decode (mB m6) 98 = .ok (.invokestatic 44, 3) := by decide +kernel
theorem d6_101 : decode (mB m6) 101 = .ok (.putfield 48, 3) := by decide +kernel
theorem d6_104 : decode (mB m6) 104 = .ok (.aload_n 0, 1) := by decide +kernel
theorem d6_105 : decode (mB m6) 105 = .ok (.iload_n 2, 1) := by decide +kernel
theorem d6_106 : decode (mB m6) 106 = .ok (.iconst 1, 1) := by decide +kernel
theorem d6_107 : decode (mB m6) 107 = .ok (.iconst 4, 1) := by decide +kernel
theorem d6_108 : decode (mB m6) 108 = .ok (.invokestatic 44, 3) := by decide +kernel
theorem d6_111 : decode (mB m6) 111 = .ok (.putfield 52, 3) := by decide +kernel
theorem d6_114 : decode (mB m6) 114 = .ok (.aload_n 0, 1) := by decide +kernel
theorem d6_115 : decode (mB m6) 115 = .ok (.iload_n 3, 1) := by decide +kernel
theorem d6_116 : decode (mB m6) 116 = .ok (.iconst 1, 1) := by decide +kernel
theorem d6_117 : decode (mB m6) 117 = .ok (.bipush 16, 2) := by decide +kernel
theorem d6_119 : decode (mB m6) 119 = .ok (.invokestatic 44, 3) := by decide +kernel
theorem d6_122 : decode (mB m6) 122 = .ok (.putfield 55, 3) := by decide +kernel
theorem d6_125 : decode (mB m6) 125 = .ok (.aload_n 0, 1) := by decide +kernel
theorem d6_126 : decode (mB m6) 126 = .ok (.getfield 55, 3) := by decide +kernel
theorem d6_129 : decode (mB m6) 129 = .ok (.iconst 1, 1) := by decide +kernel
theorem d6_130 : decode (mB m6) 130 = .ok (.iadd, 1) := by decide +kernel
theorem d6_131 : decode (mB m6) 131 = .ok (.istore 5, 2) := by decide +kernel
theorem d6_133 : decode (mB m6) 133 = .ok (.aload_n 0, 1) := by decide +kernel
theorem d6_134 : decode (mB m6) 134 = .ok (.iload 4, 2) := by decide +kernel
theorem d6_136 : decode (mB m6) 136 = .ok (.iload 5, 2) := by decide +kernel
theorem d6_138 : decode (mB m6) 138 = .ok (.bipush 64, 2) := by decide +kernel
theorem d6_140 : decode (mB m6) 140 = .ok (.invokestatic 44, 3) := by decide +kernel
theorem d6_143 : decode (mB m6) 143 = .ok (.putfield 58, 3) := by decide +kernel
theorem d6_146 : decode (mB m6) 146 = .ok (.aload_n 0, 1) := by decide +kernel
theorem d6_147 : decode (mB m6) 147 = .ok (.invokevirtual 61, 3) := by decide +kernel
theorem d6_150 : decode (mB m6) 150 = .ok (.aload_n 0, 1) := by decide +kernel
theorem d6_151 : decode (mB m6) 151 = .ok (.invokevirtual 64, 3) := by decide +kernel
theorem d6_154 : decode (mB m6) 154 = .ok (.aload_n 0, 1) := by decide +kernel
theorem d6_155 : decode (mB m6) 155 = .ok (.invokevirtual 67, 3) := by decide +kernel
theorem d6_158 : decode (mB m6) 158 = .ok (.aload_n 0, 1) := by decide +kernel
theorem d6_159 : decode (mB m6) 159 = .ok (.invokevirtual 70, 3) := by decide +kernel
theorem d6_162 : decode (mB m6) 162 = .ok (.aload_n 0, 1) := by decide +kernel
theorem d6_163 : decode (mB m6) 163 = .ok (.iconst 0, 1) := by decide +kernel
theorem d6_164 : decode (mB m6) 164 = .ok (.putfield 73, 3) := by decide +kernel
theorem d6_167 : decode (mB m6) 167 = .ok (.return_, 1) := by decide +kernel
theorem d7_0 : decode (mB m7) 0 = .ok (.aload_n 0, 1) := by decide +kernel
theorem d7_1 : decode (mB m7) 1 = .ok (.getfield 125, 3) := by decide +kernel
theorem d7_4 : decode (mB m7) 4 = .ok (.aload_n 0, 1) := by decide +kernel
theorem d7_5 : decode (mB m7) 5 = .ok (.getfield 55, 3) := by decide +kernel
theorem d7_8 : decode (mB m7) 8 = .ok (.if_icmp .lt 7, 3) := by decide +kernel
theorem d7_11 : decode (mB m7) 11 = .ok (.iconst 1, 1) := by decide +kernel
theorem d7_12 : decode (mB m7) 12 = .ok (.goto 4, 3) := by decide +kernel
theorem d7_15 : decode (mB m7) 15 = .ok (.iconst 0, 1) := by decide +kernel
theorem d7_16 : decode (mB m7) 16 = .ok (.ireturn, 1) := by decide +kernel
theorem d8_0 : decode (mB m8) 0 = .ok (.aload_n 0, 1) := by decide +kernel
theorem d8_1 : decode (mB m8) 1 = .ok (.getfield 147, 3) := by decide +kernel
theorem d8_4 : decode (mB m8) 4 = .ok (.aload_n 0, 1) := by decide +kernel
theorem d8_5 : decode (mB m8) 5 = .ok (.getfield 48, 3) := by decide +kernel
theorem d8_8 : decode (mB m8) 8 = .ok (.if_icmp .ge 7, 3) := by decide +kernel
theorem d8_11 : decode (mB m8) 11 = .ok (.iconst 1, 1) := by decide +kernel
theorem d8_12 : decode (mB m8) 12 = .ok (.goto 4, 3) := by decide +kernel
theorem d8_15 : decode (mB m8) 15 = .ok (.iconst 0, 1) := by decide +kernel
theorem d8_16 : decode (mB m8) 16 = .ok (.ireturn, 1) := by decide +kernel
theorem d9_0 : decode (mB m9) 0 = .ok (.aload_n 0, 1) := by decide +kernel
theorem d9_1 : decode (mB m9) 1 = .ok (.getfield 144, 3) := by decide +kernel
theorem d9_4 : decode (mB m9) 4 = .ok (.aload_n 0, 1) := by decide +kernel
theorem d9_5 : decode (mB m9) 5 = .ok (.getfield 58, 3) := by decide +kernel
theorem d9_8 : decode (mB m9) 8 = .ok (.if_icmp .lt 7, 3) := by decide +kernel
theorem d9_11 : decode (mB m9) 11 = .ok (.iconst 1, 1) := by decide +kernel
theorem d9_12 : decode (mB m9) 12 = .ok (.goto 4, 3) := by decide +kernel
theorem d9_15 : decode (mB m9) 15 = .ok (.iconst 0, 1) := by decide +kernel
theorem d9_16 : decode (mB m9) 16 = .ok (.ireturn, 1) := by decide +kernel
theorem d10_0 : decode (mB m10) 0 = .ok (.aload_n 0, 1) := by decide +kernel
theorem d10_1 : decode (mB m10) 1 = .ok (.invokevirtual 153, 3) := by decide +kernel
theorem d10_4 : decode (mB m10) 4 = .ok (.ifCond .ne 5, 3) := by decide +kernel
theorem d10_7 : decode (mB m10) 7 = .ok (.iconst 1, 1) := by decide +kernel
theorem d10_8 : decode (mB m10) 8 = .ok (.ireturn, 1) := by decide +kernel
theorem d10_9 : decode (mB m10) 9 = .ok (.aload_n 0, 1) := by decide +kernel
theorem d10_10 : decode (mB m10) 10 = .ok (.invokevirtual 156, 3) := by decide +kernel
theorem d10_13 : decode (mB m10) 13 = .ok (.ireturn, 1) := by decide +kernel
theorem d11_0 : decode (mB m11) 0 = .ok (.iconst 0, 1) := by decide +kernel
theorem d11_1 : decode (mB m11) 1 = .ok (.istore_n 1, 1) := by decide +kernel
theorem d11_2 : decode (mB m11) 2 = .ok (.iload_n 1, 1) := by decide +kernel
theorem d11_3 : decode (mB m11) 3 = .ok (.aload_n 0, 1) := by decide +kernel
theorem d11_4 : decode (mB m11) 4 = .ok (.getfield 48, 3) := by decide +kernel
theorem d11_7 : decode (mB m11) 7 = .ok (.if_icmp .ge 20, 3) := by decide +kernel
theorem d11_10 : decode (mB m11) 10 = .ok (.aload_n 0, 1) := by decide +kernel
theorem d11_11 : decode (mB m11) 11 = .ok (.getfield 7, 3) := by decide +kernel
theorem d11_14 : decode (mB m11) 14 = .ok (.iload_n 1, 1) := by decide +kernel
theorem d11_15 : decode (mB m11) 15 = .ok (.baload, 1) := by decide +kernel
theorem d11_16 : decode (mB m11) 16 = .ok (.ifCond .ne 5, 3) := by decide +kernel
theorem d11_19 : decode (mB m11) 19 = .ok (.iload_n 1, 1) := by decide +kernel
theorem d11_20 : decode (mB m11) 20 = .ok (.ireturn, 1) := by decide +kernel
theorem d11_21 : decode (mB m11) 21 = .ok (.iinc 1 1, 3) := by decide +kernel
theorem d11_24 : decode (mB m11) 24 = .ok (.goto (-22), 3) := by decide +kernel
theorem d11_27 : decode (mB m11) 27 = .ok (.iconst (-1), 1) := by decide +kernel
theorem d11_28 : decode (mB m11) 28 = .ok (.ireturn, 1) := by decide +kernel
theorem d12_0 : decode (mB m12) 0 = .ok (.iload_n 1, 1) := by decide +kernel
theorem d12_1 : decode (mB m12) 1 = .ok (.ifCond .lt 15, 3) := by decide +kernel
theorem d12_4 : decode (mB m12) 4 = .ok (.iload_n 1, 1) := by decide +kernel
theorem d12_5 : decode (mB m12) 5 = .ok (.aload_n 0, 1) := by decide +kernel
theorem d12_6 : decode (mB m12) 6 = .ok (.getfield 48, 3) := by decide +kernel
theorem d12_9 : decode (mB m12) 9 = .ok (.if_icmp .ge 7, 3) := by decide +kernel
theorem d12_12 : decode (mB m12) 12 = .ok (.iconst 1, 1) := by decide +kernel
theorem d12_13 : decode (mB m12) 13 = .ok (.goto 4, 3) := by decide +kernel
theorem d12_16 : decode (mB m12) 16 = .ok (.iconst 0, 1) := by decide +kernel
theorem d12_17 : decode (mB m12) 17 = .ok (.ireturn, 1) := by decide +kernel
theorem d13_0 : decode (mB m13) 0 = .ok (.aload_n 0, 1) := by decide +kernel
theorem d13_1 : decode (mB m13) 1 = .ok (.iload_n 1, 1) := by decide +kernel
theorem d13_2 : decode (mB m13) 2 = .ok (.invokevirtual 165, 3) := by decide +kernel
theorem d13_5 : decode (mB m13) 5 = .ok (.ifCond .ne 4, 3) := by decide +kernel
theorem d13_8 : decode (mB m13) 8 = .ok (.return_, 1) := by decide +kernel
theorem d13_9 : decode (mB m13) 9 = .ok (.aload_n 0, 1) := by decide +kernel
theorem d13_10 : decode (mB m13) 10 = .ok (.getfield 7, 3) := by decide +kernel
theorem d13_13 : decode (mB m13) 13 = .ok (.iload_n 1, 1) := by decide +kernel
theorem d13_14 : decode (mB m13) 14 = .ok (.baload, 1) := by decide +kernel
theorem d13_15 : decode (mB m13) 15 = .ok (.ifCond .eq 4, 3) := by decide +kernel
theorem d13_18 : decode (mB m13) 18 = .ok (.return_, 1) := by decide +kernel
theorem d13_19 : decode (mB m13) 19 = .ok (.aload_n 0, 1) := by decide +kernel
theorem d13_20 : decode (mB m13) 20 = .ok (.getfield 7, 3) := by decide +kernel
theorem d13_23 : decode (mB m13) 23 = .ok (.iload_n 1, 1) := by decide +kernel
theorem d13_24 : decode (mB m13) 24 = .ok (.iconst 1, 1) := by decide +kernel
theorem d13_25 : decode (mB m13) 25 = .ok (.bastore, 1) := by decide +kernel
theorem d13_26 : decode (mB m13) 26 = .ok (.aload_n 0, 1) := by decide +kernel
theorem d13_27 : decode (mB m13) 27 = .ok (.iload_n 1, 1) := by decide +kernel
theorem d13_28 : decode (mB m13) 28 = .ok (.invokevirtual 219, 3) := by decide +kernel
theorem d13_31 : decode (mB m13) 31 = .ok (.aload_n 0, 1) := by decide +kernel
theorem d13_32 : decode (mB m13) 32 = .ok (.getfield 17, 3) := by decide +kernel
theorem d13_35 : decode (mB m13) 35 = .ok (.iload_n 1, 1) := by decide +kernel
theorem d13_36 : decode (mB m13) 36 = .ok (.iconst 0, 1) := by decide +kernel
theorem d13_37 : decode (mB m13) 37 = .ok (.iastore, 1) := by decide +kernel
theorem d13_38 : decode (mB m13) 38 = .ok (.aload_n 0, 1) := by decide +kernel
theorem d13_39 : decode (mB m13) 39 = .ok (.aload_n 0, 1) := by decide +kernel
theorem d13_40 : decode (mB m13) 40 = .ok (.getfield 147, 3) := by decide +kernel
theorem d13_43 : decode (mB m13) 43 = .ok (.iconst 1, 1) := by decide +kernel
theorem d13_44 : decode (mB m13) 44 = .ok (.iadd, 1) := by decide +kernel
theorem d13_45 : decode (mB m13) 45 = .ok (.putfield 147, 3) := by decide +kernel
theorem d13_48 : decode (mB m13) 48 = .ok (.return_, 1) := by decide +kernel
theorem d14_0 : decode (mB m14) 0 = .ok (.aload_n 0, 1) := by decide +kernel
theorem d14_1 : decode (mB m14) 1 = .ok (.iload_n 1, 1) := by decide +kernel
theorem d14_2 : decode (mB m14) 2 = .ok (.invokevirtual 165, 3) := by decide +kernel
theorem d14_5 : decode (mB m14) 5 = .ok (.ifCond .ne 5, 3) := by decide +kernel
theorem d14_8 : decode (mB m14) 8 = .ok (.iconst 0, 1) := by decide +kernel
theorem d14_9 : decode (mB m14) 9 = .ok (.ireturn, 1) := by decide +kernel
theorem d14_10 : decode (mB m14) 10 = .ok (.aload_n 0, 1) := by decide +kernel
theorem d14_11 : decode (mB m14) 11 = .ok (.getfield 26, 3) := by decide +kernel
theorem d14_14 : decode (mB m14) 14 = .ok (.iload_n 1, 1) := by decide +kernel
theorem d14_15 : decode (mB m14) 15 = .ok (.iaload, 1) := by decide +kernel
theorem d14_16 : decode (mB m14) 16 = .ok (.iconst (-1), 1) := by decide +kernel
theorem d14_17 : decode (mB m14) 17 = .ok (.if_icmp .eq 5, 3) := by decide +kernel
theorem d14_20 : decode (mB m14) 20 = .ok (.iconst 0, 1) := by decide +kernel
theorem d14_21 : decode (mB m14) 21 = .ok (.ireturn, 1) := by decide +kernel
theorem d14_22 : decode (mB m14) 22 = .ok (.aload_n 0, 1) := by decide +kernel
theorem d14_23 : decode (mB m14) 23 = .ok (.getfield 144, 3) := by decide +kernel
theorem d14_26 : decode (mB m14) 26 = .ok (.aload_n 0, 1) := by decide +kernel
theorem d14_27 : decode (mB m14) 27 = .ok (.getfield 58, 3) := by decide +kernel
theorem d14_30 : decode (mB m14) 30 = .ok (.if_icmp .ge 12, 3) := by decide +kernel
theorem d14_33 : decode (mB m14) 33 = .ok (.aload_n 0, 1) := by decide +kernel
theorem d14_34 : decode (mB m14) 34 = .ok (.getfield 144, 3) := by decide +kernel
theorem d14_37 : decode (mB m14) 37 = .ok (.bipush 64, 2) := by decide +kernel
theorem d14_39 : decode (mB m14) 39 = .ok (.if_icmp .lt 5, 3) := by decide +kernel
theorem d14_42 : decode (mB m14) 42 = .ok (.iconst 0, 1) := by decide +kernel
theorem d14_43 : decode (mB m14) 43 = .ok (.ireturn, 1) := by decide +kernel
theorem d14_44 : decode (mB m14) 44 = .ok (.aload_n 0, 1) := by decide +kernel
theorem d14_45 : decode (mB m14) 45 = .ok (.getfield 23, 3) := by decide +kernel
theorem d14_48 : decode (mB m14) 48 = .ok (.aload_n 0, 1) := by decide +kernel
theorem d14_49 : decode (mB m14) 49 = .ok (.getfield 144, 3) := by decide +kernel
theorem d14_52 : decode (mB m14) 52 = .ok (.iload_n 1, 1) := by decide +kernel
theorem d14_53 : decode (mB m14) 53 = .ok (.iastore, 1) := by decide +kernel
theorem d14_54 : decode (mB m14) 54 = .ok (.aload_n 0, 1) := by decide +kernel
theorem d14_55 : decode (mB m14) 55 = .ok (.getfield 26, 3) := by decide +kernel
theorem d14_58 : decode (mB m14) 58 = .ok (.iload_n 1, 1) := by decide +kernel
theorem d14_59 : decode (mB m14) 59 = .ok (.aload_n 0, 1) := by decide +kernel
theorem d14_60 : decode (mB m14) 60 = .ok (.getfield 144, 3) := by decide +kernel
theorem d14_63 : decode (mB m14) 63 = .ok (.iastore, 1) := by decide +kernel
theorem d14_64 : decode (mB m14) 64 = .ok (.aload_n 0, 1) := by decide +kernel
theorem d14_65 : decode (mB m14) 65 = .ok (.aload_n 0, 1) := by decide +kernel
theorem d14_66 : decode (mB m14) 66 = .ok (.getfield 144, 3) := by decide +kernel
theorem d14_69 : decode (mB m14) 69 = .ok (.iconst 1, 1) := by decide +kernel
theorem d14_70 : decode (mB m14) 70 = .ok (.iadd, 1) := by decide +kernel
theorem d14_71 : decode (mB m14) 71 = .ok (.putfield 144, 3) := by decide +kernel
theorem d14_74 : decode (mB m14) 74 = .ok (.iconst 1, 1) := by decide +kernel
theorem d14_75 : decode (mB m14) 75 = .ok (.ireturn, 1) := by decide +kernel
theorem d15_0 : decode (mB m15) 0 = .ok (.aload_n 0, 1) := by decide +kernel
theorem d15_1 : decode (mB m15) 1 = .ok (.getfield 125, 3) := by decide +kernel
theorem d15_4 : decode (mB m15) 4 = .ok (.aload_n 0, 1) := by decide +kernel
theorem d15_5 : decode (mB m15) 5 = .ok (.getfield 55, 3) := by decide +kernel
theorem d15_8 : decode (mB m15) 8 = .ok (.if_icmp .ge 12, 3) := by decide +kernel
theorem d15_11 : decode (mB m15) 11 = .ok (.aload_n 0, 1) := by decide +kernel
theorem d15_12 : decode (mB m15) 12 = .ok (.getfield 125, 3) := by decide +kernel
theorem d15_15 : decode (mB m15) 15 = .ok (.bipush 16, 2) := by decide +kernel
theorem d15_17 : decode (mB m15) 17 = .ok (.if_icmp .lt 4, 3) := by decide +kernel
theorem d15_20 : decode (mB m15) 20 = .ok (.return_, 1) := by decide +kernel
theorem d15_21 : decode (mB m15) 21 = .ok (.aload_n 0, 1) := by decide +kernel
theorem d15_22 : decode (mB m15) 22 = .ok (.getfield 20, 3) := by decide +kernel
theorem d15_25 : decode (mB m15) 25 = .ok (.aload_n 0, 1) := by decide +kernel
theorem d15_26 : decode (mB m15) 26 = .ok (.getfield 125, 3) := by decide +kernel
theorem d15_29 : decode (mB m15) 29 = .ok (.iload_n 1, 1) := by decide +kernel
theorem d15_30 : decode (mB m15) 30 = .ok (.iastore, 1) := by decide +kernel
theorem d15_31 : decode (mB m15) 31 = .ok (.aload_n 0, 1) := by decide +kernel
theorem d15_32 : decode (mB m15) 32 = .ok (.aload_n 0, 1) := by decide +kernel
theorem d15_33 : decode (mB m15) 33 = .ok (.getfield 125, 3) := by decide +kernel
theorem d15_36 : decode (mB m15) 36 = .ok (.iconst 1, 1) := by decide +kernel
theorem d15_37 : decode (mB m15) 37 = .ok (.iadd, 1) := by decide +kernel
theorem d15_38 : decode (mB m15) 38 = .ok (.putfield 125, 3) := by decide +kernel
theorem d15_41 : decode (mB m15) 41 = .ok (.return_, 1) := by decide +kernel
theorem d16_0 : decode (mB m16) 0 = .ok (.aload_n 0, 1) := by decide +kernel
theorem d16_1 : decode (mB m16) 1 = .ok (.iload_n 1, 1) := by decide +kernel
theorem d16_2 : decode (mB m16) 2 = .ok (.invokevirtual 159, 3) := by decide +kernel
theorem d16_5 : decode (mB m16) 5 = .ok (.aload_n 0, 1) := by decide +kernel
theorem d16_6 : decode (mB m16) 6 = .ok (.iload_n 1, 1) := by decide +kernel
theorem d16_7 : decode (mB m16) 7 = .ok (.invokevirtual 162, 3) := by decide +kernel
theorem d16_10 : decode (mB m16) 10 = .ok (.pop, 1) := by decide +kernel
theorem d16_11 : decode (mB m16) 11 = .ok (.aload_n 0, 1) := by decide +kernel
theorem d16_12 : decode (mB m16) 12 = .ok (.iload_n 1, 1) := by decide +kernel
theorem d16_13 : decode (mB m16) 13 = .ok (.invokevirtual 101, 3) := by decide +kernel
theorem d16_16 : decode (mB m16) 16 = .ok (.return_, 1) := by decide +kernel
theorem d17_0 : decode (mB m17) 0 = .ok (.aload_n 0, 1) := by decide +kernel
theorem d17_1 : decode (mB m17) 1 = .ok (.invokevirtual 76, 3) := by decide +kernel
theorem d17_4 : decode (mB m17) 4 = .ok (.ifCond .eq 6, 3) := by decide +kernel
theorem d17_7 : decode (mB m17) 7 = .ok (.bipush (-2), 2) := by decide +kernel
theorem d17_9 : decode (mB m17) 9 = .ok (.ireturn, 1) := by decide +kernel
theorem d17_10 : decode (mB m17) 10 = .ok (.aload_n 0, 1) := by decide +kernel
theorem d17_11 : decode (mB m17) 11 = .ok (.invokevirtual 80, 3) := by decide +kernel
theorem d17_14 : decode (mB m17) 14 = .ok (.ifCond .eq 8, 3) := by decide +kernel
theorem d17_17 : decode (mB m17) 17 = .ok (.aload_n 0, 1) := by decide +kernel
theorem d17_22 : decode (mB m17) 22 = .ok (.aload_n 0, 1) := by decide +kernel
theorem d17_23 : decode (mB m17) 23 = .ok (.invokevirtual 87, 3) := by decide +kernel
theorem d17_26 : decode (mB m17) 26 = .ok (.istore_n 1, 1) := by decide +kernel
theorem d17_27 : decode (mB m17) 27 = .ok (.iload_n 1, 1) := by decide +kernel
theorem d17_28 : decode (mB m17) 28 = .ok (.iconst (-1), 1) := by decide +kernel
theorem d17_29 : decode (mB m17) 29 = .ok (.if_icmp .ne 6, 3) := by decide +kernel
theorem d17_32 : decode (mB m17) 32 = .ok (.bipush (-4), 2) := by decide +kernel
theorem d17_34 : decode (mB m17) 34 = .ok (.ireturn, 1) := by decide +kernel
theorem d17_35 : decode (mB m17) 35 = .ok (.aload_n 0, 1) := by decide +kernel
theorem d17_36 : decode (mB m17) 36 = .ok (.iload_n 1, 1) := by decide +kernel
theorem d17_37 : decode (mB m17) 37 = .ok (.invokevirtual 90, 3) := by decide +kernel
theorem d17_40 : decode (mB m17) 40 = .ok (.iload_n 1, 1) := by decide +kernel
theorem d17_41 : decode (mB m17) 41 = .ok (.ireturn, 1) := by decide +kernel
theorem d18_0 : decode (mB m18) 0 = .ok (.iload_n 1, 1) := by decide +kernel
theorem d18_1 : decode (mB m18) 1 = .ok (.ifCond .lt 15, 3) := by decide +kernel
theorem d18_4 : decode (mB m18) 4 = .ok (.iload_n 1, 1) := by decide +kernel
theorem d18_5 : decode (mB m18) 5 = .ok (.aload_n 0, 1) := by decide +kernel
theorem d18_6 : decode (mB m18) 6 = .ok (.getfield 125, 3) := by decide +kernel
theorem d18_9 : decode (mB m18) 9 = .ok (.if_icmp .ge 7, 3) := by decide +kernel
theorem d18_12 : decode (mB m18) 12 = .ok (.iconst 1, 1) := by decide +kernel
theorem d18_13 : decode (mB m18) 13 = .ok (.goto 4, 3) := by decide +kernel
theorem d18_16 : decode (mB m18) 16 = .ok (.iconst 0, 1) := by decide +kernel
theorem d18_17 : decode (mB m18) 17 = .ok (.ireturn, 1) := by decide +kernel
theorem d19_0 : decode (mB m19) 0 = .ok (.iload_n 1, 1) := by decide +kernel
theorem d19_1 : decode (mB m19) 1 = .ok (.ifCond .lt 15, 3) := by decide +kernel
theorem d19_4 : decode (mB m19) 4 = .ok (.iload_n 1, 1) := by decide +kernel
theorem d19_5 : decode (mB m19) 5 = .ok (.aload_n 0, 1) := by decide +kernel
theorem d19_6 : decode (mB m19) 6 = .ok (.getfield 52, 3) := by decide +kernel
theorem d19_9 : decode (mB m19) 9 = .ok (.if_icmp .ge 7, 3) := by decide +kernel
theorem d19_12 : decode (mB m19) 12 = .ok (.iconst 1, 1) := by decide +kernel
theorem d19_13 : decode (mB m19) 13 = .ok (.goto 4, 3) := by decide +kernel
theorem d19_16 : decode (mB m19) 16 = .ok (.iconst 0, 1) := by decide +kernel
theorem d19_17 : decode (mB m19) 17 = .ok (.ireturn, 1) := by decide +kernel
theorem d20_0 : decode (mB m20) 0 = .ok (.iload_n 1, 1) := by decide +kernel
theorem d20_1 : decode (mB m20) 1 = .ok (.iconst (-1), 1) := by decide +kernel
theorem d20_2 : decode (mB m20) 2 = .ok (.if_icmp .ne 5, 3) := by decide +kernel
theorem d20_5 : decode (mB m20) 5 = .ok (.iconst 1, 1) := by decide +kernel
theorem d20_6 : decode (mB m20) 6 = .ok (.ireturn, 1) := by decide +kernel
theorem d20_7 : decode (mB m20) 7 = .ok (.aload_n 0, 1) := by decide +kernel
theorem d20_8 : decode (mB m20) 8 = .ok (.iload_n 1, 1) := by decide +kernel
theorem d20_9 : decode (mB m20) 9 = .ok (.invokevirtual 131, 3) := by decide +kernel
theorem d20_12 : decode (mB m20) 12 = .ok (.ireturn, 1) := by decide +kernel
theorem d21_0 : decode (mB m21) 0 = .ok (.aload_n 0, 1) := by decide +kernel
theorem d21_1 : decode (mB m21) 1 = .ok (.iload_n 1, 1) := by decide +kernel
theorem d21_2 : decode (mB m21) 2 = .ok (.invokevirtual 165, 3) := by decide +kernel
theorem d21_5 : decode (mB m21) 5 = .ok (.ifCond .eq 16, 3) := by decide +kernel
theorem d21_8 : decode (mB m21) 8 = .ok (.aload_n 0, 1) := by decide +kernel
theorem d21_9 : decode (mB m21) 9 = .ok (.getfield 7, 3) := by decide +kernel
theorem d21_12 : decode (mB m21) 12 = .ok (.iload_n 1, 1) := by decide +kernel
theorem d21_13 : decode (mB m21) 13 = .ok (.baload, 1) := by decide +kernel
theorem d21_14 : decode (mB m21) 14 = .ok (.ifCond .eq 7, 3) := by decide +kernel
theorem d21_17 : decode (mB m21) 17 = .ok (.iconst 1, 1) := by decide +kernel
theorem d21_18 : decode (mB m21) 18 = .ok (.goto 4, 3) := by decide +kernel
theorem d21_21 : decode (mB m21) 21 = .ok (.iconst 0, 1) := by decide +kernel
theorem d21_22 : decode (mB m21) 22 = .ok (.ireturn, 1) := by decide +kernel
theorem d22_0 : decode (mB m22) 0 = .ok (.aload_n 0, 1) := by decide +kernel
theorem d22_1 : decode (mB m22) 1 = .ok (.iload_n 1, 1) := by decide +kernel
theorem d22_2 : decode (mB m22) 2 = .ok (.invokevirtual 131, 3) := by decide +kernel
theorem d22_5 : decode (mB m22) 5 = .ok (.ifCond .ne 6, 3) := by decide +kernel
theorem d22_8 : decode (mB m22) 8 = .ok (.bipush (-5), 2) := by decide +kernel
theorem d22_10 : decode (mB m22) 10 = .ok (.ireturn, 1) := by decide +kernel
theorem d22_11 : decode (mB m22) 11 = .ok (.aload_n 0, 1) := by decide +kernel
theorem d22_12 : decode (mB m22) 12 = .ok (.iload_n 2, 1) := by decide +kernel
theorem d22_13 : decode (mB m22) 13 = .ok (.invokevirtual 138, 3) := by decide +kernel
theorem d22_16 : decode (mB m22) 16 = .ok (.ifCond .ne 6, 3) := by decide +kernel
theorem d22_19 : decode (mB m22) 19 = .ok (.bipush (-6), 2) := by decide +kernel
theorem d22_21 : decode (mB m22) 21 = .ok (.ireturn, 1) := by decide +kernel
theorem d22_22 : decode (mB m22) 22 = .ok (.aload_n 0, 1) := by decide +kernel
theorem d22_23 : decode (mB m22) 23 = .ok (.iload_n 3, 1) := by decide +kernel
theorem d22_24 : decode (mB m22) 24 = .ok (.invokevirtual 150, 3) := by decide +kernel
theorem d22_27 : decode (mB m22) 27 = .ok (.ifCond .ne 6, 3) := by decide +kernel
theorem d22_30 : decode (mB m22) 30 = .ok (.bipush (-5), 2) := by decide +kernel
theorem d22_32 : decode (mB m22) 32 = .ok (.ireturn, 1) := by decide +kernel
theorem d22_33 : decode (mB m22) 33 = .ok (.aload_n 0, 1) := by decide +kernel
theorem d22_34 : decode (mB m22) 34 = .ok (.getfield 20, 3) := by decide +kernel
theorem d22_37 : decode (mB m22) 37 = .ok (.iload_n 1, 1) := by decide +kernel
theorem d22_38 : decode (mB m22) 38 = .ok (.iaload, 1) := by decide +kernel
theorem d22_39 : decode (mB m22) 39 = .ok (.iconst (-1), 1) := by decide +kernel
theorem d22_40 : decode (mB m22) 40 = .ok (.if_icmp .ne 6, 3) := by decide +kernel
theorem d22_43 : decode (mB m22) 43 = .ok (.bipush (-7), 2) := by decide +kernel
theorem d22_45 : decode (mB m22) 45 = .ok (.ireturn, 1) := by decide +kernel
theorem d22_46 : decode (mB m22) 46 = .ok (.aload_n 0, 1) := by decide +kernel
theorem d22_47 : decode (mB m22) 47 = .ok (.aload_n 0, 1) := by decide +kernel
theorem d22_48 : decode (mB m22) 48 = .ok (.getfield 20, 3) := by decide +kernel
theorem d22_51 : decode (mB m22) 51 = .ok (.iload_n 1, 1) := by decide +kernel
theorem d22_52 : decode (mB m22) 52 = .ok (.iaload, 1) := by decide +kernel
theorem d22_53 : decode (mB m22) 53 = .ok (.invokevirtual 135, 3) := by decide +kernel
theorem d22_56 : decode (mB m22) 56 = .ok (.ifCond .ne 6, 3) := by decide +kernel
theorem d22_59 : decode (mB m22) 59 = .ok (.bipush (-7), 2) := by decide +kernel
theorem d22_61 : decode (mB m22) 61 = .ok (.ireturn, 1) := by decide +kernel
theorem d22_62 : decode (mB m22) 62 = .ok (.iconst 0, 1) := by decide +kernel
theorem d22_63 : decode (mB m22) 63 = .ok (.ireturn, 1) := by decide +kernel
theorem d23_0 : decode (mB m23) 0 = .ok (.iload_n 1, 1) := by decide +kernel
theorem d23_1 : decode (mB m23) 1 = .ok (.iconst (-1), 1) := by decide +kernel
theorem d23_2 : decode (mB m23) 2 = .ok (.if_icmp .ne 5, 3) := by decide +kernel
theorem d23_5 : decode (mB m23) 5 = .ok (.iconst (-1), 1) := by decide +kernel
theorem d23_6 : decode (mB m23) 6 = .ok (.ireturn, 1) := by decide +kernel
theorem d23_7 : decode (mB m23) 7 = .ok (.aload_n 0, 1) := by decide +kernel
theorem d23_8 : decode (mB m23) 8 = .ok (.iload_n 1, 1) := by decide +kernel
theorem d23_9 : decode (mB m23) 9 = .ok (.invokevirtual 131, 3) := by decide +kernel
theorem d23_12 : decode (mB m23) 12 = .ok (.ifCond .ne 5, 3) := by decide +kernel
theorem d23_15 : decode (mB m23) 15 = .ok (.iconst (-1), 1) := by decide +kernel
theorem d23_16 : decode (mB m23) 16 = .ok (.ireturn, 1) := by decide +kernel
theorem d23_17 : decode (mB m23) 17 = .ok (.aload_n 0, 1) := by decide +kernel
theorem d23_18 : decode (mB m23) 18 = .ok (.getfield 20, 3) := by decide +kernel
theorem d23_21 : decode (mB m23) 21 = .ok (.iload_n 1, 1) := by decide +kernel
theorem d23_22 : decode (mB m23) 22 = .ok (.iaload, 1) := by decide +kernel
theorem d23_23 : decode (mB m23) 23 = .ok (.ireturn, 1) := by decide +kernel
theorem d24_0 : decode (mB m24) 0 = .ok (.aload_n 0, 1) := by decide +kernel
theorem d24_1 : decode (mB m24) 1 = .ok (.iload_n 1, 1) := by decide +kernel
theorem d24_2 : decode (mB m24) 2 = .ok (.invokevirtual 165, 3) := by decide +kernel
theorem d24_5 : decode (mB m24) 5 = .ok (.ifCond .ne 5, 3) := by decide +kernel
theorem d24_8 : decode (mB m24) 8 = .ok (.iconst (-1), 1) := by decide +kernel
theorem d24_9 : decode (mB m24) 9 = .ok (.ireturn, 1) := by decide +kernel
theorem d24_10 : decode (mB m24) 10 = .ok (.aload_n 0, 1) := by decide +kernel
theorem d24_11 : decode (mB m24) 11 = .ok (.iload_n 2, 1) := by decide +kernel
theorem d24_12 : decode (mB m24) 12 = .ok (.invokevirtual 138, 3) := by decide +kernel
theorem d24_15 : decode (mB m24) 15 = .ok (.ifCond .ne 5, 3) := by decide +kernel
theorem d24_18 : decode (mB m24) 18 = .ok (.iconst (-1), 1) := by decide +kernel
theorem d24_19 : decode (mB m24) 19 = .ok (.ireturn, 1) := by decide +kernel
theorem d24_20 : decode (mB m24) 20 = .ok (.aload_n 0, 1) := by decide +kernel
theorem d24_21 : decode (mB m24) 21 = .ok (.getfield 13, 3) := by decide +kernel
theorem d24_24 : decode (mB m24) 24 = .ok (.iload_n 1, 1) := by decide +kernel
theorem d24_25 : decode (mB m24) 25 = .ok (.iconst 4, 1) := by decide +kernel
theorem d24_26 : decode (mB m24) 26 = .ok (.imul, 1) := by decide +kernel
theorem d24_27 : decode (mB m24) 27 = .ok (.iload_n 2, 1) := by decide +kernel
theorem d24_28 : decode (mB m24) 28 = .ok (.iadd, 1) := by decide +kernel
theorem d24_29 : decode (mB m24) 29 = .ok (.iaload, 1) := by decide +kernel
theorem d24_30 : decode (mB m24) 30 = .ok (.ireturn, 1) := by decide +kernel
theorem d25_0 : decode (mB m25) 0 = .ok (.iload_n 1, 1) := by decide +kernel
theorem d25_1 : decode (mB m25) 1 = .ok (.iconst (-1), 1) := by decide +kernel
theorem d25_2 : decode (mB m25) 2 = .ok (.if_icmp .ne 5, 3) := by decide +kernel
theorem d25_5 : decode (mB m25) 5 = .ok (.iconst 0, 1) := by decide +kernel
theorem d25_6 : decode (mB m25) 6 = .ok (.ireturn, 1) := by decide +kernel
theorem d25_7 : decode (mB m25) 7 = .ok (.iload_n 1, 1) := by decide +kernel
theorem d25_8 : decode (mB m25) 8 = .ok (.iload_n 2, 1) := by decide +kernel
theorem d25_9 : decode (mB m25) 9 = .ok (.if_icmp .ne 5, 3) := by decide +kernel
theorem d25_12 : decode (mB m25) 12 = .ok (.iconst 0, 1) := by decide +kernel
theorem d25_13 : decode (mB m25) 13 = .ok (.ireturn, 1) := by decide +kernel
theorem d25_14 : decode (mB m25) 14 = .ok (.aload_n 0, 1) := by decide +kernel
theorem d25_15 : decode (mB m25) 15 = .ok (.iload_n 1, 1) := by decide +kernel
theorem d25_16 : decode (mB m25) 16 = .ok (.invokevirtual 165, 3) := by decide +kernel
theorem d25_19 : decode (mB m25) 19 = .ok (.ifCond .ne 5, 3) := by decide +kernel
theorem d25_22 : decode (mB m25) 22 = .ok (.iconst 0, 1) := by decide +kernel
theorem d25_23 : decode (mB m25) 23 = .ok (.ireturn, 1) := by decide +kernel
theorem d25_24 : decode (mB m25) 24 = .ok (.aload_n 0, 1) := by decide +kernel
theorem d25_25 : decode (mB m25) 25 = .ok (.getfield 17, 3) := by decide +kernel
theorem d25_28 : decode (mB m25) 28 = .ok (.iload_n 1, 1) := by decide +kernel
theorem d25_29 : decode (mB m25) 29 = .ok (.iaload, 1) := by decide +kernel
theorem d25_30 : decode (mB m25) 30 = .ok (.iconst 1, 1) := by decide +kernel
theorem d25_31 : decode (mB m25) 31 = .ok (.if_icmp .eq 5, 3) := by decide +kernel
theorem d25_34 : decode (mB m25) 34 = .ok (.iconst 0, 1) := by decide +kernel
theorem d25_35 : decode (mB m25) 35 = .ok (.ireturn, 1) := by decide +kernel
theorem d25_36 : decode (mB m25) 36 = .ok (.aload_n 0, 1) := by decide +kernel
theorem d25_37 : decode (mB m25) 37 = .ok (.iload_n 1, 1) := by decide +kernel
theorem d26_0 : decode (mB m26) 0 = .ok (.aload_n 0, 1) := by decide +kernel
theorem d26_1 : decode (mB m26) 1 = .ok (.iload_n 1, 1) := by decide +kernel
theorem d26_2 : decode (mB m26) 2 = .ok (.invokevirtual 165, 3) := by decide +kernel
theorem d26_5 : decode (mB m26) 5 = .ok (.ifCond .eq 26, 3) := by decide +kernel
theorem d26_8 : decode (mB m26) 8 = .ok (.aload_n 0, 1) := by decide +kernel
theorem d26_9 : decode (mB m26) 9 = .ok (.getfield 17, 3) := by decide +kernel
theorem d26_12 : decode (mB m26) 12 = .ok (.iload_n 1, 1) := by decide +kernel
theorem d26_13 : decode (mB m26) 13 = .ok (.iaload, 1) := by decide +kernel
theorem d26_14 : decode (mB m26) 14 = .ok (.ifCond .le 17, 3) := by decide +kernel
theorem d26_17 : decode (mB m26) 17 = .ok (.aload_n 0, 1) := by decide +kernel
theorem d26_18 : decode (mB m26) 18 = .ok (.getfield 17, 3) := by decide +kernel
theorem d26_21 : decode (mB m26) 21 = .ok (.iload_n 1, 1) := by decide +kernel
theorem d26_22 : decode (mB m26) 22 = .ok (.aload_n 0, 1) := by decide +kernel
theorem d26_23 : decode (mB m26) 23 = .ok (.getfield 17, 3) := by decide +kernel
theorem d26_26 : decode (mB m26) 26 = .ok (.iload_n 1, 1) := by decide +kernel
theorem d26_27 : decode (mB m26) 27 = .ok (.iaload, 1) := by decide +kernel
theorem d26_28 : decode (mB m26) 28 = .ok (.iconst 1, 1) := by decide +kernel
theorem d26_29 : decode (mB m26) 29 = .ok (.isub, 1) := by decide +kernel
theorem d26_30 : decode (mB m26) 30 = .ok (.iastore, 1) := by decide +kernel
theorem d26_31 : decode (mB m26) 31 = .ok (.return_, 1) := by decide +kernel
theorem d27_0 : decode (mB m27) 0 = .ok (.aload_n 0, 1) := by decide +kernel
theorem d27_1 : decode (mB m27) 1 = .ok (.iload_n 1, 1) := by decide +kernel
theorem d27_2 : decode (mB m27) 2 = .ok (.invokevirtual 165, 3) := by decide +kernel
theorem d27_5 : decode (mB m27) 5 = .ok (.ifCond .eq 17, 3) := by decide +kernel
theorem d27_8 : decode (mB m27) 8 = .ok (.aload_n 0, 1) := by decide +kernel
theorem d27_9 : decode (mB m27) 9 = .ok (.getfield 17, 3) := by decide +kernel
theorem d27_12 : decode (mB m27) 12 = .ok (.iload_n 1, 1) := by decide +kernel
theorem d27_13 : decode (mB m27) 13 = .ok (.aload_n 0, 1) := by decide +kernel
theorem d27_14 : decode (mB m27) 14 = .ok (.getfield 17, 3) := by decide +kernel
theorem d27_17 : decode (mB m27) 17 = .ok (.iload_n 1, 1) := by decide +kernel
theorem d27_18 : decode (mB m27) 18 = .ok (.iaload, 1) := by decide +kernel
theorem d27_19 : decode (mB m27) 19 = .ok (.iconst 1, 1) := by decide +kernel
theorem d27_20 : decode (mB m27) 20 = .ok (.iadd, 1) := by decide +kernel
theorem d27_21 : decode (mB m27) 21 = .ok (.iastore, 1) := by decide +kernel
theorem d27_22 : decode (mB m27) 22 = .ok (.return_, 1) := by decide +kernel
theorem d28_0 : decode (mB m28) 0 = .ok (.aload_n 0, 1) := by decide +kernel
theorem d28_1 : decode (mB m28) 1 = .ok (.iload_n 1, 1) := by decide +kernel
theorem d28_2 : decode (mB m28) 2 = .ok (.invokevirtual 165, 3) := by decide +kernel
theorem d28_5 : decode (mB m28) 5 = .ok (.ifCond .ne 4, 3) := by decide +kernel
theorem d28_8 : decode (mB m28) 8 = .ok (.return_, 1) := by decide +kernel
theorem d28_9 : decode (mB m28) 9 = .ok (.aload_n 0, 1) := by decide +kernel
theorem d28_10 : decode (mB m28) 10 = .ok (.iload_n 2, 1) := by decide +kernel
theorem d28_11 : decode (mB m28) 11 = .ok (.invokevirtual 138, 3) := by decide +kernel
theorem d28_14 : decode (mB m28) 14 = .ok (.ifCond .ne 4, 3) := by decide +kernel
theorem d28_17 : decode (mB m28) 17 = .ok (.return_, 1) := by decide +kernel
theorem d28_18 : decode (mB m28) 18 = .ok (.aload_n 0, 1) := by decide +kernel
theorem d28_19 : decode (mB m28) 19 = .ok (.getfield 13, 3) := by decide +kernel
theorem d28_22 : decode (mB m28) 22 = .ok (.iload_n 1, 1) := by decide +kernel
theorem d28_23 : decode (mB m28) 23 = .ok (.iconst 4, 1) := by decide +kernel
theorem d28_24 : decode (mB m28) 24 = .ok (.imul, 1) := by decide +kernel
theorem d28_25 : decode (mB m28) 25 = .ok (.iload_n 2, 1) := by decide +kernel
theorem d28_26 : decode (mB m28) 26 = .ok (.iadd, 1) := by decide +kernel
theorem d28_27 : decode (mB m28) 27 = .ok (.iload_n 3, 1) := by decide +kernel
theorem d28_28 : decode (mB m28) 28 = .ok (.iastore, 1) := by decide +kernel
theorem d28_29 : decode (mB m28) 29 = .ok (.return_, 1) := by decide +kernel
theorem d29_0 : decode (mB m29) 0 = .ok (.aload_n 0, 1) := by decide +kernel
theorem d29_1 : decode (mB m29) 1 = .ok (.iload_n 1, 1) := by decide +kernel
theorem d29_2 : decode (mB m29) 2 = .ok (.iload_n 2, 1) := by decide +kernel
theorem d29_3 : decode (mB m29) 3 = .ok (.invokevirtual 98, 3) := by decide +kernel
theorem d29_6 : decode (mB m29) 6 = .ok (.istore 4, 2) := by decide +kernel
theorem d29_8 : decode (mB m29) 8 = .ok (.aload_n 0, 1) := by decide +kernel
theorem d29_9 : decode (mB m29) 9 = .ok (.iload 4, 2) := by decide +kernel
theorem d29_11 : decode (mB m29) 11 = .ok (.invokevirtual 168, 3) := by decide +kernel
theorem d29_14 : decode (mB m29) 14 = .ok (.aload_n 0, 1) := by decide +kernel
theorem d29_15 : decode (mB m29) 15 = .ok (.iload_n 3, 1) := by decide +kernel
theorem d29_16 : decode (mB m29) 16 = .ok (.invokevirtual 171, 3) := by decide +kernel
theorem d29_19 : decode (mB m29) 19 = .ok (.aload_n 0, 1) := by decide +kernel
theorem d29_20 : decode (mB m29) 20 = .ok (.iload_n 1, 1) := by decide +kernel
theorem d29_21 : decode (mB m29) 21 = .ok (.iload_n 2, 1) := by decide +kernel
theorem d29_22 : decode (mB m29) 22 = .ok (.iload_n 3, 1) := by decide +kernel
theorem d29_23 : decode (mB m29) 23 = .ok (.invokevirtual 174, 3) := by decide +kernel
theorem d29_26 : decode (mB m29) 26 = .ok (.return_, 1) := by decide +kernel
theorem d30_0 : decode (mB m30) 0 = .ok (.iload_n 1, 1) := by decide +kernel
theorem d30_1 : decode (mB m30) 1 = .ok (.iconst (-1), 1) := by decide +kernel
theorem d30_2 : decode (mB m30) 2 = .ok (.if_icmp .ne 4, 3) := by decide +kernel
theorem d30_5 : decode (mB m30) 5 = .ok (.return_, 1) := by decide +kernel
theorem d30_6 : decode (mB m30) 6 = .ok (.aload_n 0, 1) := by decide +kernel
theorem d30_7 : decode (mB m30) 7 = .ok (.iload_n 1, 1) := by decide +kernel
theorem d30_8 : decode (mB m30) 8 = .ok (.invokevirtual 165, 3) := by decide +kernel
theorem d30_11 : decode (mB m30) 11 = .ok (.ifCond .ne 4, 3) := by decide +kernel
theorem d30_14 : decode (mB m30) 14 = .ok (.return_, 1) := by decide +kernel
theorem d30_15 : decode (mB m30) 15 = .ok (.aload_n 0, 1) := by decide +kernel
theorem d30_16 : decode (mB m30) 16 = .ok (.getfield 17, 3) := by decide +kernel
theorem d30_19 : decode (mB m30) 19 = .ok (.iload_n 1, 1) := by decide +kernel
theorem d30_20 : decode (mB m30) 20 = .ok (.iaload, 1) := by decide +kernel
theorem d30_21 : decode (mB m30) 21 = .ok (.ifCond .eq 4, 3) := by decide +kernel
theorem d30_24 : decode (mB m30) 24 = .ok (.return_, 1) := by decide +kernel
theorem d30_25 : decode (mB m30) 25 = .ok (.aload_n 0, 1) := by decide +kernel
theorem d30_26 : decode (mB m30) 26 = .ok (.iload_n 1, 1) := by decide +kernel
theorem d31_0 : decode (mB m31) 0 = .ok (.aload_n 0, 1) := by decide +kernel
theorem d31_1 : decode (mB m31) 1 = .ok (.iload_n 1, 1) := by decide +kernel
theorem d31_2 : decode (mB m31) 2 = .ok (.iload_n 2, 1) := by decide +kernel
theorem d31_3 : decode (mB m31) 3 = .ok (.iload_n 3, 1) := by decide +kernel
theorem d31_4 : decode (mB m31) 4 = .ok (.invokevirtual 104, 3) := by decide +kernel
theorem d31_7 : decode (mB m31) 7 = .ok (.istore 4, 2) := by decide +kernel
theorem d31_9 : decode (mB m31) 9 = .ok (.iload 4, 2) := by decide +kernel
theorem d31_11 : decode (mB m31) 11 = .ok (.ifCond .eq 6, 3) := by decide +kernel
theorem d31_14 : decode (mB m31) 14 = .ok (.iload 4, 2) := by decide +kernel
theorem d31_16 : decode (mB m31) 16 = .ok (.ireturn, 1) := by decide +kernel
theorem d31_17 : decode (mB m31) 17 = .ok (.aload_n 0, 1) := by decide +kernel
theorem d31_18 : decode (mB m31) 18 = .ok (.getfield 20, 3) := by decide +kernel
theorem d31_21 : decode (mB m31) 21 = .ok (.iload_n 1, 1) := by decide +kernel
theorem d31_22 : decode (mB m31) 22 = .ok (.iaload, 1) := by decide +kernel
theorem d31_23 : decode (mB m31) 23 = .ok (.istore 5, 2) := by decide +kernel
theorem d31_25 : decode (mB m31) 25 = .ok (.aload_n 0, 1) := by decide +kernel
theorem d31_26 : decode (mB m31) 26 = .ok (.iload_n 3, 1) := by decide +kernel
theorem d31_27 : decode (mB m31) 27 = .ok (.invokevirtual 107, 3) := by decide +kernel
theorem d31_30 : decode (mB m31) 30 = .ok (.istore 6, 2) := by decide +kernel
theorem d31_32 : decode (mB m31) 32 = .ok (.aload_n 0, 1) := by decide +kernel
theorem d31_33 : decode (mB m31) 33 = .ok (.iload 5, 2) := by decide +kernel
theorem d31_35 : decode (mB m31) 35 = .ok (.iload_n 2, 1) := by decide +kernel
theorem d31_36 : decode (mB m31) 36 = .ok (.invokevirtual 98, 3) := by decide +kernel
theorem d31_39 : decode (mB m31) 39 = .ok (.istore 7, 2) := by decide +kernel
theorem d31_41 : decode (mB m31) 41 = .ok (.aload_n 0, 1) := by decide +kernel
theorem d31_42 : decode (mB m31) 42 = .ok (.iload 7, 2) := by decide +kernel
theorem d31_44 : decode (mB m31) 44 = .ok (.iload 6, 2) := by decide +kernel
theorem d31_46 : decode (mB m31) 46 = .ok (.invokevirtual 111, 3) := by decide +kernel
theorem d31_49 : decode (mB m31) 49 = .ok (.ifCond .eq 8, 3) := by decide +kernel
theorem d31_52 : decode (mB m31) 52 = .ok (.aload_n 0, 1) := by decide +kernel
theorem d31_57 : decode (mB m31) 57 = .ok (.aload_n 0, 1) := by decide +kernel
theorem d31_58 : decode (mB m31) 58 = .ok (.iload 5, 2) := by decide +kernel
theorem d31_60 : decode (mB m31) 60 = .ok (.iload_n 2, 1) := by decide +kernel
theorem d31_61 : decode (mB m31) 61 = .ok (.iload 6, 2) := by decide +kernel
theorem d31_63 : decode (mB m31) 63 = .ok (.invokevirtual 115, 3) := by decide +kernel
theorem d31_66 : decode (mB m31) 66 = .ok (.aload_n 0, 1) := by decide +kernel
theorem d31_67 : decode (mB m31) 67 = .ok (.iload 7, 2) := by decide +kernel
theorem d31_69 : decode (mB m31) 69 = .ok (.invokevirtual 119, 3) := by decide +kernel
theorem d31_72 : decode (mB m31) 72 = .ok (.iconst 0, 1) := by decide +kernel
theorem d31_73 : decode (mB m31) 73 = .ok (.ireturn, 1) := by decide +kernel
theorem d32_0 : decode (mB m32) 0 = .ok (.aload_n 0, 1) := by decide +kernel
theorem d32_1 : decode (mB m32) 1 = .ok (.iload_n 1, 1) := by decide +kernel
theorem d32_2 : decode (mB m32) 2 = .ok (.invokevirtual 135, 3) := by decide +kernel
theorem d32_5 : decode (mB m32) 5 = .ok (.ifCond .ne 6, 3) := by decide +kernel
theorem d32_8 : decode (mB m32) 8 = .ok (.bipush (-8), 2) := by decide +kernel
theorem d32_10 : decode (mB m32) 10 = .ok (.ireturn, 1) := by decide +kernel
theorem d32_11 : decode (mB m32) 11 = .ok (.aload_n 0, 1) := by decide +kernel
theorem d32_12 : decode (mB m32) 12 = .ok (.iload_n 2, 1) := by decide +kernel
theorem d32_13 : decode (mB m32) 13 = .ok (.invokevirtual 138, 3) := by decide +kernel
theorem d32_16 : decode (mB m32) 16 = .ok (.ifCond .ne 6, 3) := by decide +kernel
theorem d32_19 : decode (mB m32) 19 = .ok (.bipush (-6), 2) := by decide +kernel
theorem d32_21 : decode (mB m32) 21 = .ok (.ireturn, 1) := by decide +kernel
theorem d32_22 : decode (mB m32) 22 = .ok (.aload_n 0, 1) := by decide +kernel
theorem d32_23 : decode (mB m32) 23 = .ok (.iload_n 1, 1) := by decide +kernel
theorem d32_24 : decode (mB m32) 24 = .ok (.iload_n 2, 1) := by decide +kernel
theorem d32_25 : decode (mB m32) 25 = .ok (.invokevirtual 98, 3) := by decide +kernel
theorem d32_28 : decode (mB m32) 28 = .ok (.ireturn, 1) := by decide +kernel
theorem d33_0 : decode (mB m33) 0 = .ok (.aload_n 0, 1) := by decide +kernel
theorem d33_1 : decode (mB m33) 1 = .ok (.iload_n 1, 1) := by decide +kernel
theorem d33_2 : decode (mB m33) 2 = .ok (.invokevirtual 135, 3) := by decide +kernel
theorem d33_5 : decode (mB m33) 5 = .ok (.ifCond .ne 6, 3) := by decide +kernel
theorem d33_8 : decode (mB m33) 8 = .ok (.bipush (-8), 2) := by decide +kernel
theorem d33_10 : decode (mB m33) 10 = .ok (.ireturn, 1) := by decide +kernel
theorem d33_11 : decode (mB m33) 11 = .ok (.aload_n 0, 1) := by decide +kernel
theorem d33_12 : decode (mB m33) 12 = .ok (.getfield 17, 3) := by decide +kernel
theorem d33_15 : decode (mB m33) 15 = .ok (.iload_n 1, 1) := by decide +kernel
theorem d33_16 : decode (mB m33) 16 = .ok (.iaload, 1) := by decide +kernel
theorem d33_17 : decode (mB m33) 17 = .ok (.ireturn, 1) := by decide +kernel
theorem d34_0 : decode (mB m34) 0 = .ok (.aload_n 0, 1) := by decide +kernel
theorem d34_1 : decode (mB m34) 1 = .ok (.getfield 144, 3) := by decide +kernel
theorem d34_4 : decode (mB m34) 4 = .ok (.ireturn, 1) := by decide +kernel
theorem d35_0 : decode (mB m35) 0 = .ok (.aload_n 0, 1) := by decide +kernel
theorem d35_1 : decode (mB m35) 1 = .ok (.getfield 73, 3) := by decide +kernel
theorem d35_4 : decode (mB m35) 4 = .ok (.ireturn, 1) := by decide +kernel
theorem d36_0 : decode (mB m36) 0 = .ok (.aload_n 0, 1) := by decide +kernel
theorem d36_1 : decode (mB m36) 1 = .ok (.getfield 125, 3) := by decide +kernel
theorem d36_4 : decode (mB m36) 4 = .ok (.ireturn, 1) := by decide +kernel
theorem d37_0 : decode (mB m37) 0 = .ok (.new 7, 3) := by decide +kernel
theorem d37_3 : decode (mB m37) 3 = .ok (.dup, 1) := by decide +kernel
theorem d37_4 : decode (mB m37) 4 = .ok (.bipush 8, 2) := by decide +kernel
theorem d37_6 : decode (mB m37) 6 = .ok (.iload_n 0, 1) := by decide +kernel
theorem d37_7 : decode (mB m37) 7 = .ok (.iconst 4, 1) := by decide +kernel
theorem d37_8 : decode (mB m37) 8 = .ok (.bipush 16, 2) := by decide +kernel
theorem d37_10 : decode (mB m37) 10 = .ok (.invokespecial 9, 3) := by decide +kernel
theorem d37_13 : decode (mB m37) 13 = .ok (.astore 4, 2) := by decide +kernel
theorem d37_15 : decode (mB m37) 15 = .ok (.aload 4, 2) := by decide +kernel
theorem d37_17 : decode (mB m37) 17 = .ok (.invokevirtual 12, 3) := by decide +kernel
theorem d37_20 : decode (mB m37) 20 = .ok (.istore 5, 2) := by decide +kernel
theorem d37_22 : decode (mB m37) 22 = .ok (.aload 4, 2) := by decide +kernel
theorem d37_24 : decode (mB m37) 24 = .ok (.invokevirtual 12, 3) := by decide +kernel
theorem d37_27 : decode (mB m37) 27 = .ok (.istore 6, 2) := by decide +kernel
theorem d37_29 : decode (mB m37) 29 = .ok (.aload 4, 2) := by decide +kernel
theorem d37_31 : decode (mB m37) 31 = .ok (.iload_n 1, 1) := by decide +kernel
theorem d37_32 : decode (mB m37) 32 = .ok (.iload_n 2, 1) := by decide +kernel
theorem d37_33 : decode (mB m37) 33 = .ok (.iload_n 3, 1) := by decide +kernel
theorem d37_34 : decode (mB m37) 34 = .ok (.invokevirtual 16, 3) := by decide +kernel
theorem d37_37 : decode (mB m37) 37 = .ok (.istore 7, 2) := by decide +kernel
theorem d37_39 : decode (mB m37) 39 = .ok (.iload_n 0, 1) := by decide +kernel
theorem d37_40 : decode (mB m37) 40 = .ok (.iconst 1, 1) := by decide +kernel
theorem d37_41 : decode (mB m37) 41 = .ok (.if_icmp .ge 7, 3) := by decide +kernel
theorem d37_44 : decode (mB m37) 44 = .ok (.iconst 1, 1) := by decide +kernel
theorem d37_45 : decode (mB m37) 45 = .ok (.goto 13, 3) := by decide +kernel
theorem d37_48 : decode (mB m37) 48 = .ok (.iload_n 0, 1) := by decide +kernel
theorem d37_49 : decode (mB m37) 49 = .ok (.iconst 4, 1) := by decide +kernel
theorem d37_50 : decode (mB m37) 50 = .ok (.if_icmp .le 7, 3) := by decide +kernel
theorem d37_53 : decode (mB m37) 53 = .ok (.iconst 4, 1) := by decide +kernel
theorem d37_54 : decode (mB m37) 54 = .ok (.goto 4, 3) := by decide +kernel
theorem d37_57 : decode (mB m37) 57 = .ok (.iload_n 0, 1) := by decide +kernel
theorem d37_58 : decode (mB m37) 58 = .ok (.istore 8, 2) := by decide +kernel
theorem d37_60 : decode (mB m37) 60 = .ok (.iload_n 1, 1) := by decide +kernel
theorem d37_61 : decode (mB m37) 61 = .ok (.ifCond .eq 8, 3) := by decide +kernel
theorem d37_64 : decode (mB m37) 64 = .ok (.iload_n 1, 1) := by decide +kernel
theorem d37_65 : decode (mB m37) 65 = .ok (.iconst 1, 1) := by decide +kernel
theorem d37_66 : decode (mB m37) 66 = .ok (.if_icmp .ne 7, 3) := by decide +kernel
theorem d37_69 : decode (mB m37) 69 = .ok (.iconst 1, 1) := by decide +kernel
theorem d37_70 : decode (mB m37) 70 = .ok (.goto 4, 3) := by decide +kernel
theorem d37_73 : decode (mB m37) 73 = .ok (.iconst 0, 1) := by decide +kernel
theorem d37_74 : decode (mB m37) 74 = .ok (.istore 9, 2) := by decide +kernel
theorem d37_76 : decode (mB m37) 76 = .ok (.iload_n 2, 1) := by decide +kernel
theorem d37_77 : decode (mB m37) 77 = .ok (.ifCond .lt 13, 3) := by decide +kernel
theorem d37_80 : decode (mB m37) 80 = .ok (.iload_n 2, 1) := by decide +kernel
theorem d37_81 : decode (mB m37) 81 = .ok (.iload 8, 2) := by decide +kernel
theorem d37_83 : decode (mB m37) 83 = .ok (.if_icmp .ge 7, 3) := by decide +kernel
theorem d37_86 : decode (mB m37) 86 = .ok (.iconst 1, 1) := by decide +kernel
theorem d37_87 : decode (mB m37) 87 = .ok (.goto 4, 3) := by decide +kernel
theorem d37_90 : decode (mB m37) 90 = .ok (.iconst 0, 1) := by decide +kernel
theorem d37_91 : decode (mB m37) 91 = .ok (.istore 10, 2) := by decide +kernel
theorem d37_93 : decode (mB m37) 93 = .ok (.iload_n 3, 1) := by decide +kernel
theorem d37_94 : decode (mB m37) 94 = .ok (.iconst (-1), 1) := by decide +kernel
theorem d37_95 : decode (mB m37) 95 = .ok (.if_icmp .lt 12, 3) := by decide +kernel
theorem d37_98 : decode (mB m37) 98 = .ok (.iload_n 3, 1) := by decide +kernel
theorem d37_99 : decode (mB m37) 99 = .ok (.iconst 1, 1) := by decide +kernel
theorem d37_100 : decode (mB m37) 100 = .ok (.if_icmp .gt 7, 3) := by decide +kernel
theorem d37_103 : decode (mB m37) 103 = .ok (.iconst 1, 1) := by decide +kernel
theorem d37_104 : decode (mB m37) 104 = .ok (.goto 4, 3) := by decide +kernel
theorem d37_107 : decode (mB m37) 107 = .ok (.iconst 0, 1) := by decide +kernel
theorem d37_108 : decode (mB m37) 108 = .ok (.istore 11, 2) := by decide +kernel
theorem d37_110 : decode (mB m37) 110 = .ok (.iload 9, 2) := by decide +kernel
theorem d37_112 : decode (mB m37) 112 = .ok (.ifCond .ne 8, 3) := by decide +kernel
theorem d37_115 : decode (mB m37) 115 = .ok (.bipush (-5), 2) := by decide +kernel
theorem d37_117 : decode (mB m37) 117 = .ok (.goto 24, 3) := by decide +kernel
theorem d37_120 : decode (mB m37) 120 = .ok (.iload 10, 2) := by decide +kernel
theorem d37_122 : decode (mB m37) 122 = .ok (.ifCond .ne 8, 3) := by decide +kernel
theorem d37_125 : decode (mB m37) 125 = .ok (.bipush (-6), 2) := by decide +kernel
theorem d37_127 : decode (mB m37) 127 = .ok (.goto 14, 3) := by decide +kernel
theorem d37_130 : decode (mB m37) 130 = .ok (.iload 11, 2) := by decide +kernel
theorem d37_132 : decode (mB m37) 132 = .ok (.ifCond .ne 8, 3) := by decide +kernel
theorem d37_135 : decode (mB m37) 135 = .ok (.bipush (-5), 2) := by decide +kernel
theorem d37_137 : decode (mB m37) 137 = .ok (.goto 4, 3) := by decide +kernel
theorem d37_140 : decode (mB m37) 140 = .ok (.iconst 0, 1) := by decide +kernel
theorem d37_141 : decode (mB m37) 141 = .ok (.istore 12, 2) := by decide +kernel
theorem d37_143 : decode (mB m37) 143 = .ok (.iload 12, 2) := by decide +kernel
theorem d37_145 : decode (mB m37) 145 = .ok (.ifCond .ne 7, 3) := by decide +kernel
theorem d37_148 : decode (mB m37) 148 = .ok (.iconst 1, 1) := by decide +kernel
theorem d37_149 : decode (mB m37) 149 = .ok (.goto 4, 3) := by decide +kernel
theorem d37_152 : decode (mB m37) 152 = .ok (.iconst 0, 1) := by decide +kernel
theorem d37_153 : decode (mB m37) 153 = .ok (.istore 13, 2) := by decide +kernel
theorem d37_155 : decode (mB m37) 155 = .ok (.aload 4, 2) := by decide +kernel
theorem d37_157 : decode (mB m37) 157 = .ok (.iconst 0, 1) := by decide +kernel
theorem d37_158 : decode (mB m37) 158 = .ok (.iload_n 2, 1) := by decide +kernel
theorem d37_159 : decode (mB m37) 159 = .ok (.invokevirtual 20, 3) := by decide +kernel
theorem d37_162 : decode (mB m37) 162 = .ok (.istore 14, 2) := by decide +kernel
theorem d37_164 : decode (mB m37) 164 = .ok (.aload 4, 2) := by decide +kernel
theorem d37_166 : decode (mB m37) 166 = .ok (.iconst 1, 1) := by decide +kernel
theorem d37_167 : decode (mB m37) 167 = .ok (.iload_n 2, 1) := by decide +kernel
theorem d37_168 : decode (mB m37) 168 = .ok (.invokevirtual 20, 3) := by decide +kernel
theorem d37_171 : decode (mB m37) 171 = .ok (.istore 15, 2) := by decide +kernel
theorem d37_173 : decode (mB m37) 173 = .ok (.iload 10, 2) := by decide +kernel
theorem d37_175 : decode (mB m37) 175 = .ok (.ifCond .ne 8, 3) := by decide +kernel
theorem d37_178 : decode (mB m37) 178 = .ok (.bipush (-6), 2) := by decide +kernel
theorem d37_180 : decode (mB m37) 180 = .ok (.goto 17, 3) := by decide +kernel
theorem d37_183 : decode (mB m37) 183 = .ok (.iload 13, 2) := by decide +kernel
theorem d37_185 : decode (mB m37) 185 = .ok (.ifCond .eq 11, 3) := by decide +kernel
theorem d37_188 : decode (mB m37) 188 = .ok (.iload_n 1, 1) := by decide +kernel
theorem d37_189 : decode (mB m37) 189 = .ok (.ifCond .ne 7, 3) := by decide +kernel
theorem d37_192 : decode (mB m37) 192 = .ok (.iload_n 3, 1) := by decide +kernel
theorem d37_193 : decode (mB m37) 193 = .ok (.goto 4, 3) := by decide +kernel
theorem d37_196 : decode (mB m37) 196 = .ok (.iconst (-1), 1) := by decide +kernel
theorem d37_197 : decode (mB m37) 197 = .ok (.istore 16, 2) := by decide +kernel
theorem d37_199 : decode (mB m37) 199 = .ok (.iload 10, 2) := by decide +kernel
theorem d37_201 : decode (mB m37) 201 = .ok (.ifCond .ne 8, 3) := by decide +kernel
theorem d37_204 : decode (mB m37) 204 = .ok (.bipush (-6), 2) := by decide +kernel
theorem d37_206 : decode (mB m37) 206 = .ok (.goto 18, 3) := by decide +kernel
theorem d37_209 : decode (mB m37) 209 = .ok (.iload 13, 2) := by decide +kernel
theorem d37_211 : decode (mB m37) 211 = .ok (.ifCond .eq 12, 3) := by decide +kernel
theorem d37_214 : decode (mB m37) 214 = .ok (.iload_n 1, 1) := by decide +kernel
theorem d37_215 : decode (mB m37) 215 = .ok (.iconst 1, 1) := by decide +kernel
theorem d37_216 : decode (mB m37) 216 = .ok (.if_icmp .ne 7, 3) := by decide +kernel
theorem d37_219 : decode (mB m37) 219 = .ok (.iload_n 3, 1) := by decide +kernel
theorem d37_220 : decode (mB m37) 220 = .ok (.goto 4, 3) := by decide +kernel
theorem d37_223 : decode (mB m37) 223 = .ok (.iconst (-1), 1) := by decide +kernel
theorem d37_224 : decode (mB m37) 224 = .ok (.istore 17, 2) := by decide +kernel
theorem d37_226 : decode (mB m37) 226 = .ok (.aload 4, 2) := by decide +kernel
theorem d37_228 : decode (mB m37) 228 = .ok (.iconst 0, 1) := by decide +kernel
theorem d37_229 : decode (mB m37) 229 = .ok (.invokevirtual 24, 3) := by decide +kernel
theorem d37_232 : decode (mB m37) 232 = .ok (.istore 18, 2) := by decide +kernel
theorem d37_234 : decode (mB m37) 234 = .ok (.aload 4, 2) := by decide +kernel
theorem d37_236 : decode (mB m37) 236 = .ok (.iconst 1, 1) := by decide +kernel
theorem d37_237 : decode (mB m37) 237 = .ok (.invokevirtual 24, 3) := by decide +kernel
theorem d37_240 : decode (mB m37) 240 = .ok (.istore 19, 2) := by decide +kernel
theorem d37_242 : decode (mB m37) 242 = .ok (.iload 13, 2) := by decide +kernel
theorem d37_244 : decode (mB m37) 244 = .ok (.ifCond .eq 11, 3) := by decide +kernel
theorem d37_247 : decode (mB m37) 247 = .ok (.iload_n 3, 1) := by decide +kernel
theorem d37_248 : decode (mB m37) 248 = .ok (.ifCond .ne 7, 3) := by decide +kernel
theorem d37_251 : decode (mB m37) 251 = .ok (.iconst 1, 1) := by decide +kernel
theorem d37_252 : decode (mB m37) 252 = .ok (.goto 4, 3) := by decide +kernel
theorem d37_255 : decode (mB m37) 255 = .ok (.iconst 0, 1) := by decide +kernel
theorem d37_256 : decode (mB m37) 256 = .ok (.istore 20, 2) := by decide +kernel
theorem d37_258 : decode (mB m37) 258 = .ok (.iload 13, 2) := by decide +kernel
theorem d37_260 : decode (mB m37) 260 = .ok (.ifCond .eq 12, 3) := by decide +kernel
theorem d37_263 : decode (mB m37) 263 = .ok (.iload_n 3, 1) := by decide +kernel
theorem d37_264 : decode (mB m37) 264 = .ok (.iconst 1, 1) := by decide +kernel
theorem d37_265 : decode (mB m37) 265 = .ok (.if_icmp .ne 7, 3) := by decide +kernel
theorem d37_268 : decode (mB m37) 268 = .ok (.iconst 1, 1) := by decide +kernel
theorem d37_269 : decode (mB m37) 269 = .ok (.goto 4, 3) := by decide +kernel
theorem d37_272 : decode (mB m37) 272 = .ok (.iconst 0, 1) := by decide +kernel
theorem d37_273 : decode (mB m37) 273 = .ok (.istore 21, 2) := by decide +kernel
theorem d37_275 : decode (mB m37) 275 = .ok (.aload 4, 2) := by decide +kernel
theorem d37_277 : decode (mB m37) 277 = .ok (.invokevirtual 28, 3) := by decide +kernel
theorem d37_280 : decode (mB m37) 280 = .ok (.istore 22, 2) := by decide +kernel
theorem d37_282 : decode (mB m37) 282 = .ok (.aload 4, 2) := by decide +kernel
theorem d37_284 : decode (mB m37) 284 = .ok (.invokevirtual 31, 3) := by decide +kernel
theorem d37_287 : decode (mB m37) 287 = .ok (.istore 23, 2) := by decide +kernel
theorem d37_289 : decode (mB m37) 289 = .ok (.aload 4, 2) := by decide +kernel
theorem d37_291 : decode (mB m37) 291 = .ok (.invokevirtual 34, 3) := by decide +kernel
theorem d37_294 : decode (mB m37) 294 = .ok (.istore 24, 2) := by decide +kernel
theorem d37_296 : decode (mB m37) 296 = .ok (.iload 5, 2) := by decide +kernel
theorem d37_298 : decode (mB m37) 298 = .ok (.ifCond .ne 65, 3) := by decide +kernel
theorem d37_301 : decode (mB m37) 301 = .ok (.iload 6, 2) := by decide +kernel
theorem d37_303 : decode (mB m37) 303 = .ok (.iconst 1, 1) := by decide +kernel
theorem d37_304 : decode (mB m37) 304 = .ok (.if_icmp .ne 59, 3) := by decide +kernel
theorem d37_307 : decode (mB m37) 307 = .ok (.iload 7, 2) := by decide +kernel
theorem d37_309 : decode (mB m37) 309 = .ok (.iload 12, 2) := by decide +kernel
theorem d37_311 : decode (mB m37) 311 = .ok (.if_icmp .ne 52, 3) := by decide +kernel
theorem d37_314 : decode (mB m37) 314 = .ok (.iload 14, 2) := by decide +kernel
theorem d37_316 : decode (mB m37) 316 = .ok (.iload 16, 2) := by decide +kernel
theorem d37_318 : decode (mB m37) 318 = .ok (.if_icmp .ne 45, 3) := by decide +kernel
theorem d37_321 : decode (mB m37) 321 = .ok (.iload 15, 2) := by decide +kernel
theorem d37_323 : decode (mB m37) 323 = .ok (.iload 17, 2) := by decide +kernel
theorem d37_325 : decode (mB m37) 325 = .ok (.if_icmp .ne 38, 3) := by decide +kernel
theorem d37_328 : decode (mB m37) 328 = .ok (.iload 18, 2) := by decide +kernel
theorem d37_330 : decode (mB m37) 330 = .ok (.iload 20, 2) := by decide +kernel
theorem d37_332 : decode (mB m37) 332 = .ok (.if_icmp .ne 31, 3) := by decide +kernel
theorem d37_335 : decode (mB m37) 335 = .ok (.iload 19, 2) := by decide +kernel
theorem d37_337 : decode (mB m37) 337 = .ok (.iload 21, 2) := by decide +kernel
theorem d37_339 : decode (mB m37) 339 = .ok (.if_icmp .ne 24, 3) := by decide +kernel
theorem d37_342 : decode (mB m37) 342 = .ok (.iload 22, 2) := by decide +kernel
theorem d37_344 : decode (mB m37) 344 = .ok (.iconst 2, 1) := by decide +kernel
theorem d37_345 : decode (mB m37) 345 = .ok (.if_icmp .ne 18, 3) := by decide +kernel
theorem d37_348 : decode (mB m37) 348 = .ok (.iload 23, 2) := by decide +kernel
theorem d37_350 : decode (mB m37) 350 = .ok (.ifCond .ne 13, 3) := by decide +kernel
theorem d37_353 : decode (mB m37) 353 = .ok (.iload 24, 2) := by decide +kernel
theorem d37_355 : decode (mB m37) 355 = .ok (.iconst 2, 1) := by decide +kernel
theorem d37_356 : decode (mB m37) 356 = .ok (.if_icmp .ne 7, 3) := by decide +kernel
theorem d37_359 : decode (mB m37) 359 = .ok (.iconst 1, 1) := by decide +kernel
theorem d37_360 : decode (mB m37) 360 = .ok (.goto 4, 3) := by decide +kernel
theorem d37_363 : decode (mB m37) 363 = .ok (.iconst 0, 1) := by decide +kernel
theorem d37_364 : decode (mB m37) 364 = .ok (.ireturn, 1) := by decide +kernel
theorem cb_m8 : (-8 : Int32) = (Int8.ofInt (-8)).toInt32 := by decide
theorem cb_m7 : (-7 : Int32) = (Int8.ofInt (-7)).toInt32 := by decide
theorem cb_m6 : (-6 : Int32) = (Int8.ofInt (-6)).toInt32 := by decide
theorem cb_m5 : (-5 : Int32) = (Int8.ofInt (-5)).toInt32 := by decide
theorem cb_m4 : (-4 : Int32) = (Int8.ofInt (-4)).toInt32 := by decide
theorem cb_m2 : (-2 : Int32) = (Int8.ofInt (-2)).toInt32 := by decide
theorem cb_8 : (8 : Int32) = (Int8.ofInt (8)).toInt32 := by decide
theorem cb_16 : (16 : Int32) = (Int8.ofInt (16)).toInt32 := by decide
theorem cb_64 : (64 : Int32) = (Int8.ofInt (64)).toInt32 := by decide
theorem ci_m1 : (-1 : Int32) = Int32.ofInt (-1) := by decide
theorem ci_0 : (0 : Int32) = Int32.ofInt (0) := by decide
theorem ci_1 : (1 : Int32) = Int32.ofInt (1) := by decide
theorem ci_2 : (2 : Int32) = Int32.ofInt (2) := by decide
theorem ci_4 : (4 : Int32) = Int32.ofInt (4) := by decide
theorem cs_256 : (256 : Int32) = (Int16.ofInt (256)).toInt32 := by decide
theorem j_1_9 : 0 ≤ ((1 : Nat) : Int) + (9) ∧ (((1 : Nat) : Int) + (9)).toNat = 10 := by decide
theorem j_1_15 : 0 ≤ ((1 : Nat) : Int) + (15) ∧ (((1 : Nat) : Int) + (15)).toNat = 16 := by decide
theorem j_2_4 : 0 ≤ ((2 : Nat) : Int) + (4) ∧ (((2 : Nat) : Int) + (4)).toNat = 6 := by decide
theorem j_2_5 : 0 ≤ ((2 : Nat) : Int) + (5) ∧ (((2 : Nat) : Int) + (5)).toNat = 7 := by decide
theorem j_4_5 : 0 ≤ ((4 : Nat) : Int) + (5) ∧ (((4 : Nat) : Int) + (5)).toNat = 9 := by decide
theorem j_4_6 : 0 ≤ ((4 : Nat) : Int) + (6) ∧ (((4 : Nat) : Int) + (6)).toNat = 10 := by decide
theorem j_5_4 : 0 ≤ ((5 : Nat) : Int) + (4) ∧ (((5 : Nat) : Int) + (4)).toNat = 9 := by decide
theorem j_5_5 : 0 ≤ ((5 : Nat) : Int) + (5) ∧ (((5 : Nat) : Int) + (5)).toNat = 10 := by decide
theorem j_5_6 : 0 ≤ ((5 : Nat) : Int) + (6) ∧ (((5 : Nat) : Int) + (6)).toNat = 11 := by decide
theorem j_5_16 : 0 ≤ ((5 : Nat) : Int) + (16) ∧ (((5 : Nat) : Int) + (16)).toNat = 21 := by decide
theorem j_5_17 : 0 ≤ ((5 : Nat) : Int) + (17) ∧ (((5 : Nat) : Int) + (17)).toNat = 22 := by decide
theorem j_5_26 : 0 ≤ ((5 : Nat) : Int) + (26) ∧ (((5 : Nat) : Int) + (26)).toNat = 31 := by decide
theorem j_5_28 : 0 ≤ ((5 : Nat) : Int) + (28) ∧ (((5 : Nat) : Int) + (28)).toNat = 33 := by decide
theorem j_5_44 : 0 ≤ ((5 : Nat) : Int) + (44) ∧ (((5 : Nat) : Int) + (44)).toNat = 49 := by decide
theorem j_7_4 : 0 ≤ ((7 : Nat) : Int) + (4) ∧ (((7 : Nat) : Int) + (4)).toNat = 11 := by decide
theorem j_7_20 : 0 ≤ ((7 : Nat) : Int) + (20) ∧ (((7 : Nat) : Int) + (20)).toNat = 27 := by decide
theorem j_8_7 : 0 ≤ ((8 : Nat) : Int) + (7) ∧ (((8 : Nat) : Int) + (7)).toNat = 15 := by decide
theorem j_8_12 : 0 ≤ ((8 : Nat) : Int) + (12) ∧ (((8 : Nat) : Int) + (12)).toNat = 20 := by decide
theorem j_9_5 : 0 ≤ ((9 : Nat) : Int) + (5) ∧ (((9 : Nat) : Int) + (5)).toNat = 14 := by decide
theorem j_9_7 : 0 ≤ ((9 : Nat) : Int) + (7) ∧ (((9 : Nat) : Int) + (7)).toNat = 16 := by decide
theorem j_11_4 : 0 ≤ ((11 : Nat) : Int) + (4) ∧ (((11 : Nat) : Int) + (4)).toNat = 15 := by decide
theorem j_11_6 : 0 ≤ ((11 : Nat) : Int) + (6) ∧ (((11 : Nat) : Int) + (6)).toNat = 17 := by decide
theorem j_12_4 : 0 ≤ ((12 : Nat) : Int) + (4) ∧ (((12 : Nat) : Int) + (4)).toNat = 16 := by decide
theorem j_12_5 : 0 ≤ ((12 : Nat) : Int) + (5) ∧ (((12 : Nat) : Int) + (5)).toNat = 17 := by decide
theorem j_13_4 : 0 ≤ ((13 : Nat) : Int) + (4) ∧ (((13 : Nat) : Int) + (4)).toNat = 17 := by decide
theorem j_14_4 : 0 ≤ ((14 : Nat) : Int) + (4) ∧ (((14 : Nat) : Int) + (4)).toNat = 18 := by decide
theorem j_14_7 : 0 ≤ ((14 : Nat) : Int) + (7) ∧ (((14 : Nat) : Int) + (7)).toNat = 21 := by decide
theorem j_14_8 : 0 ≤ ((14 : Nat) : Int) + (8) ∧ (((14 : Nat) : Int) + (8)).toNat = 22 := by decide
theorem j_14_17 : 0 ≤ ((14 : Nat) : Int) + (17) ∧ (((14 : Nat) : Int) + (17)).toNat = 31 := by decide
theorem j_15_4 : 0 ≤ ((15 : Nat) : Int) + (4) ∧ (((15 : Nat) : Int) + (4)).toNat = 19 := by decide
theorem j_15_5 : 0 ≤ ((15 : Nat) : Int) + (5) ∧ (((15 : Nat) : Int) + (5)).toNat = 20 := by decide
theorem j_16_5 : 0 ≤ ((16 : Nat) : Int) + (5) ∧ (((16 : Nat) : Int) + (5)).toNat = 21 := by decide
theorem j_16_6 : 0 ≤ ((16 : Nat) : Int) + (6) ∧ (((16 : Nat) : Int) + (6)).toNat = 22 := by decide
theorem j_17_4 : 0 ≤ ((17 : Nat) : Int) + (4) ∧ (((17 : Nat) : Int) + (4)).toNat = 21 := by decide
theorem j_17_5 : 0 ≤ ((17 : Nat) : Int) + (5) ∧ (((17 : Nat) : Int) + (5)).toNat = 22 := by decide
theorem j_18_m16 : 0 ≤ ((18 : Nat) : Int) + (-16) ∧ (((18 : Nat) : Int) + (-16)).toNat = 2 := by decide
theorem j_18_4 : 0 ≤ ((18 : Nat) : Int) + (4) ∧ (((18 : Nat) : Int) + (4)).toNat = 22 := by decide
theorem j_19_5 : 0 ≤ ((19 : Nat) : Int) + (5) ∧ (((19 : Nat) : Int) + (5)).toNat = 24 := by decide
theorem j_19_18 : 0 ≤ ((19 : Nat) : Int) + (18) ∧ (((19 : Nat) : Int) + (18)).toNat = 37 := by decide
theorem j_21_4 : 0 ≤ ((21 : Nat) : Int) + (4) ∧ (((21 : Nat) : Int) + (4)).toNat = 25 := by decide
theorem j_24_m22 : 0 ≤ ((24 : Nat) : Int) + (-22) ∧ (((24 : Nat) : Int) + (-22)).toNat = 2 := by decide
theorem j_26_16 : 0 ≤ ((26 : Nat) : Int) + (16) ∧ (((26 : Nat) : Int) + (16)).toNat = 42 := by decide
theorem j_27_6 : 0 ≤ ((27 : Nat) : Int) + (6) ∧ (((27 : Nat) : Int) + (6)).toNat = 33 := by decide
theorem j_29_6 : 0 ≤ ((29 : Nat) : Int) + (6) ∧ (((29 : Nat) : Int) + (6)).toNat = 35 := by decide
theorem j_30_m28 : 0 ≤ ((30 : Nat) : Int) + (-28) ∧ (((30 : Nat) : Int) + (-28)).toNat = 2 := by decide
theorem j_30_12 : 0 ≤ ((30 : Nat) : Int) + (12) ∧ (((30 : Nat) : Int) + (12)).toNat = 42 := by decide
theorem j_31_5 : 0 ≤ ((31 : Nat) : Int) + (5) ∧ (((31 : Nat) : Int) + (5)).toNat = 36 := by decide
theorem j_34_m17 : 0 ≤ ((34 : Nat) : Int) + (-17) ∧ (((34 : Nat) : Int) + (-17)).toNat = 17 := by decide
theorem j_39_m16 : 0 ≤ ((39 : Nat) : Int) + (-16) ∧ (((39 : Nat) : Int) + (-16)).toNat = 23 := by decide
theorem j_39_5 : 0 ≤ ((39 : Nat) : Int) + (5) ∧ (((39 : Nat) : Int) + (5)).toNat = 44 := by decide
theorem j_40_6 : 0 ≤ ((40 : Nat) : Int) + (6) ∧ (((40 : Nat) : Int) + (6)).toNat = 46 := by decide
theorem j_41_7 : 0 ≤ ((41 : Nat) : Int) + (7) ∧ (((41 : Nat) : Int) + (7)).toNat = 48 := by decide
theorem j_45_13 : 0 ≤ ((45 : Nat) : Int) + (13) ∧ (((45 : Nat) : Int) + (13)).toNat = 58 := by decide
theorem j_46_m44 : 0 ≤ ((46 : Nat) : Int) + (-44) ∧ (((46 : Nat) : Int) + (-44)).toNat = 2 := by decide
theorem j_49_8 : 0 ≤ ((49 : Nat) : Int) + (8) ∧ (((49 : Nat) : Int) + (8)).toNat = 57 := by decide
theorem j_50_7 : 0 ≤ ((50 : Nat) : Int) + (7) ∧ (((50 : Nat) : Int) + (7)).toNat = 57 := by decide
theorem j_54_4 : 0 ≤ ((54 : Nat) : Int) + (4) ∧ (((54 : Nat) : Int) + (4)).toNat = 58 := by decide
theorem j_56_6 : 0 ≤ ((56 : Nat) : Int) + (6) ∧ (((56 : Nat) : Int) + (6)).toNat = 62 := by decide
theorem j_61_8 : 0 ≤ ((61 : Nat) : Int) + (8) ∧ (((61 : Nat) : Int) + (8)).toNat = 69 := by decide
theorem j_66_7 : 0 ≤ ((66 : Nat) : Int) + (7) ∧ (((66 : Nat) : Int) + (7)).toNat = 73 := by decide
theorem j_70_4 : 0 ≤ ((70 : Nat) : Int) + (4) ∧ (((70 : Nat) : Int) + (4)).toNat = 74 := by decide
theorem j_77_13 : 0 ≤ ((77 : Nat) : Int) + (13) ∧ (((77 : Nat) : Int) + (13)).toNat = 90 := by decide
theorem j_83_7 : 0 ≤ ((83 : Nat) : Int) + (7) ∧ (((83 : Nat) : Int) + (7)).toNat = 90 := by decide
theorem j_87_4 : 0 ≤ ((87 : Nat) : Int) + (4) ∧ (((87 : Nat) : Int) + (4)).toNat = 91 := by decide
theorem j_95_12 : 0 ≤ ((95 : Nat) : Int) + (12) ∧ (((95 : Nat) : Int) + (12)).toNat = 107 := by decide
theorem j_100_7 : 0 ≤ ((100 : Nat) : Int) + (7) ∧ (((100 : Nat) : Int) + (7)).toNat = 107 := by decide
theorem j_104_4 : 0 ≤ ((104 : Nat) : Int) + (4) ∧ (((104 : Nat) : Int) + (4)).toNat = 108 := by decide
theorem j_112_8 : 0 ≤ ((112 : Nat) : Int) + (8) ∧ (((112 : Nat) : Int) + (8)).toNat = 120 := by decide
theorem j_117_24 : 0 ≤ ((117 : Nat) : Int) + (24) ∧ (((117 : Nat) : Int) + (24)).toNat = 141 := by decide
theorem j_122_8 : 0 ≤ ((122 : Nat) : Int) + (8) ∧ (((122 : Nat) : Int) + (8)).toNat = 130 := by decide
theorem j_127_14 : 0 ≤ ((127 : Nat) : Int) + (14) ∧ (((127 : Nat) : Int) + (14)).toNat = 141 := by decide
theorem j_132_8 : 0 ≤ ((132 : Nat) : Int) + (8) ∧ (((132 : Nat) : Int) + (8)).toNat = 140 := by decide
theorem j_137_4 : 0 ≤ ((137 : Nat) : Int) + (4) ∧ (((137 : Nat) : Int) + (4)).toNat = 141 := by decide
theorem j_145_7 : 0 ≤ ((145 : Nat) : Int) + (7) ∧ (((145 : Nat) : Int) + (7)).toNat = 152 := by decide
theorem j_149_4 : 0 ≤ ((149 : Nat) : Int) + (4) ∧ (((149 : Nat) : Int) + (4)).toNat = 153 := by decide
theorem j_175_8 : 0 ≤ ((175 : Nat) : Int) + (8) ∧ (((175 : Nat) : Int) + (8)).toNat = 183 := by decide
theorem j_180_17 : 0 ≤ ((180 : Nat) : Int) + (17) ∧ (((180 : Nat) : Int) + (17)).toNat = 197 := by decide
theorem j_185_11 : 0 ≤ ((185 : Nat) : Int) + (11) ∧ (((185 : Nat) : Int) + (11)).toNat = 196 := by decide
theorem j_189_7 : 0 ≤ ((189 : Nat) : Int) + (7) ∧ (((189 : Nat) : Int) + (7)).toNat = 196 := by decide
theorem j_193_4 : 0 ≤ ((193 : Nat) : Int) + (4) ∧ (((193 : Nat) : Int) + (4)).toNat = 197 := by decide
theorem j_201_8 : 0 ≤ ((201 : Nat) : Int) + (8) ∧ (((201 : Nat) : Int) + (8)).toNat = 209 := by decide
theorem j_206_18 : 0 ≤ ((206 : Nat) : Int) + (18) ∧ (((206 : Nat) : Int) + (18)).toNat = 224 := by decide
theorem j_211_12 : 0 ≤ ((211 : Nat) : Int) + (12) ∧ (((211 : Nat) : Int) + (12)).toNat = 223 := by decide
theorem j_216_7 : 0 ≤ ((216 : Nat) : Int) + (7) ∧ (((216 : Nat) : Int) + (7)).toNat = 223 := by decide
theorem j_220_4 : 0 ≤ ((220 : Nat) : Int) + (4) ∧ (((220 : Nat) : Int) + (4)).toNat = 224 := by decide
theorem j_244_11 : 0 ≤ ((244 : Nat) : Int) + (11) ∧ (((244 : Nat) : Int) + (11)).toNat = 255 := by decide
theorem j_248_7 : 0 ≤ ((248 : Nat) : Int) + (7) ∧ (((248 : Nat) : Int) + (7)).toNat = 255 := by decide
theorem j_252_4 : 0 ≤ ((252 : Nat) : Int) + (4) ∧ (((252 : Nat) : Int) + (4)).toNat = 256 := by decide
theorem j_260_12 : 0 ≤ ((260 : Nat) : Int) + (12) ∧ (((260 : Nat) : Int) + (12)).toNat = 272 := by decide
theorem j_265_7 : 0 ≤ ((265 : Nat) : Int) + (7) ∧ (((265 : Nat) : Int) + (7)).toNat = 272 := by decide
theorem j_269_4 : 0 ≤ ((269 : Nat) : Int) + (4) ∧ (((269 : Nat) : Int) + (4)).toNat = 273 := by decide
theorem j_298_65 : 0 ≤ ((298 : Nat) : Int) + (65) ∧ (((298 : Nat) : Int) + (65)).toNat = 363 := by decide
theorem j_304_59 : 0 ≤ ((304 : Nat) : Int) + (59) ∧ (((304 : Nat) : Int) + (59)).toNat = 363 := by decide
theorem j_311_52 : 0 ≤ ((311 : Nat) : Int) + (52) ∧ (((311 : Nat) : Int) + (52)).toNat = 363 := by decide
theorem j_318_45 : 0 ≤ ((318 : Nat) : Int) + (45) ∧ (((318 : Nat) : Int) + (45)).toNat = 363 := by decide
theorem j_325_38 : 0 ≤ ((325 : Nat) : Int) + (38) ∧ (((325 : Nat) : Int) + (38)).toNat = 363 := by decide
theorem j_332_31 : 0 ≤ ((332 : Nat) : Int) + (31) ∧ (((332 : Nat) : Int) + (31)).toNat = 363 := by decide
theorem j_339_24 : 0 ≤ ((339 : Nat) : Int) + (24) ∧ (((339 : Nat) : Int) + (24)).toNat = 363 := by decide
theorem j_345_18 : 0 ≤ ((345 : Nat) : Int) + (18) ∧ (((345 : Nat) : Int) + (18)).toNat = 363 := by decide
theorem j_350_13 : 0 ≤ ((350 : Nat) : Int) + (13) ∧ (((350 : Nat) : Int) + (13)).toNat = 363 := by decide
theorem j_356_7 : 0 ≤ ((356 : Nat) : Int) + (7) ∧ (((356 : Nat) : Int) + (7)).toNat = 363 := by decide
theorem j_360_4 : 0 ≤ ((360 : Nat) : Int) + (4) ∧ (((360 : Nat) : Int) + (4)).toNat = 364 := by decide
theorem lk_0_44 : LinkS PP "DeferredCountY" 44 m0 := ⟨List.mem_of_getElem? (i := 33) rfl, List.mem_of_getElem? (i := 34) rfl, List.mem_of_getElem? (i := 2) rfl, List.mem_of_getElem? (i := 35) rfl, by decide⟩
theorem lk_0_61 : LinkP PP "DeferredCountY" 61 m2 := ⟨List.mem_of_getElem? (i := 44) rfl, List.mem_of_getElem? (i := 45) rfl, List.mem_of_getElem? (i := 46) rfl, List.mem_of_getElem? (i := 47) rfl, rfl, rfl⟩
theorem lk_0_64 : LinkP PP "DeferredCountY" 64 m3 := ⟨List.mem_of_getElem? (i := 54) rfl, List.mem_of_getElem? (i := 55) rfl, List.mem_of_getElem? (i := 56) rfl, List.mem_of_getElem? (i := 57) rfl, rfl, rfl⟩
theorem lk_0_67 : LinkP PP "DeferredCountY" 67 m4 := ⟨List.mem_of_getElem? (i := 60) rfl, List.mem_of_getElem? (i := 61) rfl, List.mem_of_getElem? (i := 62) rfl, List.mem_of_getElem? (i := 63) rfl, rfl, rfl⟩
theorem lk_0_70 : LinkP PP "DeferredCountY" 70 m5 := ⟨List.mem_of_getElem? (i := 66) rfl, List.mem_of_getElem? (i := 67) rfl, List.mem_of_getElem? (i := 68) rfl, List.mem_of_getElem? (i := 69) rfl, rfl, rfl⟩
theorem lk_0_76 : LinkP PP "DeferredCountY" 76 m7 := ⟨List.mem_of_getElem? (i := 79) rfl, List.mem_of_getElem? (i := 80) rfl, List.mem_of_getElem? (i := 81) rfl, List.mem_of_getElem? (i := 82) rfl, rfl, rfl⟩
theorem lk_0_80 : LinkP PP "DeferredCountY" 80 m10 := ⟨List.mem_of_getElem? (i := 83) rfl, List.mem_of_getElem? (i := 84) rfl, List.mem_of_getElem? (i := 85) rfl, List.mem_of_getElem? (i := 86) rfl, rfl, rfl⟩
theorem lk_0_87 : LinkP PP "DeferredCountY" 87 m11 := ⟨List.mem_of_getElem? (i := 95) rfl, List.mem_of_getElem? (i := 96) rfl, List.mem_of_getElem? (i := 97) rfl, List.mem_of_getElem? (i := 98) rfl, rfl, rfl⟩
theorem lk_0_90 : LinkP PP "DeferredCountY" 90 m16 := ⟨List.mem_of_getElem? (i := 99) rfl, List.mem_of_getElem? (i := 100) rfl, List.mem_of_getElem? (i := 101) rfl, List.mem_of_getElem? (i := 102) rfl, rfl, rfl⟩
theorem lk_0_98 : LinkP PP "DeferredCountY" 98 m24 := ⟨List.mem_of_getElem? (i := 169) rfl, List.mem_of_getElem? (i := 170) rfl, List.mem_of_getElem? (i := 171) rfl, List.mem_of_getElem? (i := 172) rfl, rfl, rfl⟩
theorem lk_0_101 : LinkP PP "DeferredCountY" 101 m15 := ⟨List.mem_of_getElem? (i := 115) rfl, List.mem_of_getElem? (i := 116) rfl, List.mem_of_getElem? (i := 117) rfl, List.mem_of_getElem? (i := 118) rfl, rfl, rfl⟩
theorem lk_0_104 : LinkP PP "DeferredCountY" 104 m22 := ⟨List.mem_of_getElem? (i := 124) rfl, List.mem_of_getElem? (i := 125) rfl, List.mem_of_getElem? (i := 126) rfl, List.mem_of_getElem? (i := 127) rfl, rfl, rfl⟩
theorem lk_0_107 : LinkP PP "DeferredCountY" 107 m23 := ⟨List.mem_of_getElem? (i := 173) rfl, List.mem_of_getElem? (i := 174) rfl, List.mem_of_getElem? (i := 175) rfl, List.mem_of_getElem? (i := 176) rfl, rfl, rfl⟩
theorem lk_0_111 : LinkP PP "DeferredCountY" 111 m25 := ⟨List.mem_of_getElem? (i := 177) rfl, List.mem_of_getElem? (i := 178) rfl, List.mem_of_getElem? (i := 179) rfl, List.mem_of_getElem? (i := 180) rfl, rfl, rfl⟩
theorem lk_0_115 : LinkP PP "DeferredCountY" 115 m29 := ⟨List.mem_of_getElem? (i := 181) rfl, List.mem_of_getElem? (i := 182) rfl, List.mem_of_getElem? (i := 183) rfl, List.mem_of_getElem? (i := 184) rfl, rfl, rfl⟩
theorem lk_0_119 : LinkP PP "DeferredCountY" 119 m30 := ⟨List.mem_of_getElem? (i := 197) rfl, List.mem_of_getElem? (i := 198) rfl, List.mem_of_getElem? (i := 199) rfl, List.mem_of_getElem? (i := 200) rfl, rfl, rfl⟩
theorem lk_0_131 : LinkP PP "DeferredCountY" 131 m18 := ⟨List.mem_of_getElem? (i := 128) rfl, List.mem_of_getElem? (i := 129) rfl, List.mem_of_getElem? (i := 130) rfl, List.mem_of_getElem? (i := 131) rfl, rfl, rfl⟩
theorem lk_0_135 : LinkP PP "DeferredCountY" 135 m21 := ⟨List.mem_of_getElem? (i := 137) rfl, List.mem_of_getElem? (i := 138) rfl, List.mem_of_getElem? (i := 139) rfl, List.mem_of_getElem? (i := 140) rfl, rfl, rfl⟩
theorem lk_0_138 : LinkP PP "DeferredCountY" 138 m19 := ⟨List.mem_of_getElem? (i := 141) rfl, List.mem_of_getElem? (i := 142) rfl, List.mem_of_getElem? (i := 143) rfl, List.mem_of_getElem? (i := 144) rfl, rfl, rfl⟩
theorem lk_0_150 : LinkP PP "DeferredCountY" 150 m20 := ⟨List.mem_of_getElem? (i := 165) rfl, List.mem_of_getElem? (i := 166) rfl, List.mem_of_getElem? (i := 167) rfl, List.mem_of_getElem? (i := 168) rfl, rfl, rfl⟩
theorem lk_0_153 : LinkP PP "DeferredCountY" 153 m8 := ⟨List.mem_of_getElem? (i := 87) rfl, List.mem_of_getElem? (i := 88) rfl, List.mem_of_getElem? (i := 89) rfl, List.mem_of_getElem? (i := 90) rfl, rfl, rfl⟩
theorem lk_0_156 : LinkP PP "DeferredCountY" 156 m9 := ⟨List.mem_of_getElem? (i := 91) rfl, List.mem_of_getElem? (i := 92) rfl, List.mem_of_getElem? (i := 93) rfl, List.mem_of_getElem? (i := 94) rfl, rfl, rfl⟩
theorem lk_0_159 : LinkP PP "DeferredCountY" 159 m13 := ⟨List.mem_of_getElem? (i := 103) rfl, List.mem_of_getElem? (i := 104) rfl, List.mem_of_getElem? (i := 105) rfl, List.mem_of_getElem? (i := 106) rfl, rfl, rfl⟩
theorem lk_0_162 : LinkP PP "DeferredCountY" 162 m14 := ⟨List.mem_of_getElem? (i := 111) rfl, List.mem_of_getElem? (i := 112) rfl, List.mem_of_getElem? (i := 113) rfl, List.mem_of_getElem? (i := 114) rfl, rfl, rfl⟩
theorem lk_0_165 : LinkP PP "DeferredCountY" 165 m12 := ⟨List.mem_of_getElem? (i := 107) rfl, List.mem_of_getElem? (i := 108) rfl, List.mem_of_getElem? (i := 109) rfl, List.mem_of_getElem? (i := 110) rfl, rfl, rfl⟩
theorem lk_0_168 : LinkP PP "DeferredCountY" 168 m26 := ⟨List.mem_of_getElem? (i := 185) rfl, List.mem_of_getElem? (i := 186) rfl, List.mem_of_getElem? (i := 187) rfl, List.mem_of_getElem? (i := 188) rfl, rfl, rfl⟩
theorem lk_0_171 : LinkP PP "DeferredCountY" 171 m27 := ⟨List.mem_of_getElem? (i := 189) rfl, List.mem_of_getElem? (i := 190) rfl, List.mem_of_getElem? (i := 191) rfl, List.mem_of_getElem? (i := 192) rfl, rfl, rfl⟩
theorem lk_0_174 : LinkP PP "DeferredCountY" 174 m28 := ⟨List.mem_of_getElem? (i := 193) rfl, List.mem_of_getElem? (i := 194) rfl, List.mem_of_getElem? (i := 195) rfl, List.mem_of_getElem? (i := 196) rfl, rfl, rfl⟩
theorem lk_0_219 : LinkP PP "DeferredCountY" 219 m1 := ⟨List.mem_of_getElem? (i := 48) rfl, List.mem_of_getElem? (i := 49) rfl, List.mem_of_getElem? (i := 50) rfl, List.mem_of_getElem? (i := 51) rfl, rfl, rfl⟩
theorem lk_1_9 : LinkI PP "DeferredCountYL2" 9 m6 := ⟨List.mem_of_getElem? (i := 3) rfl, List.mem_of_getElem? (i := 4) rfl, List.mem_of_getElem? (i := 5) rfl, rfl, rfl, rfl, rfl⟩
theorem lk_1_12 : LinkV PP "DeferredCountYL2" 12 m17 := ⟨List.mem_of_getElem? (i := 74) rfl, List.mem_of_getElem? (i := 75) rfl, List.mem_of_getElem? (i := 77) rfl, List.mem_of_getElem? (i := 76) rfl, List.mem_of_getElem? (i := 78) rfl, rfl, rfl⟩
theorem lk_1_16 : LinkV PP "DeferredCountYL2" 16 m31 := ⟨List.mem_of_getElem? (i := 119) rfl, List.mem_of_getElem? (i := 120) rfl, List.mem_of_getElem? (i := 122) rfl, List.mem_of_getElem? (i := 121) rfl, List.mem_of_getElem? (i := 123) rfl, rfl, rfl⟩
theorem lk_1_20 : LinkV PP "DeferredCountYL2" 20 m32 := ⟨List.mem_of_getElem? (i := 132) rfl, List.mem_of_getElem? (i := 133) rfl, List.mem_of_getElem? (i := 135) rfl, List.mem_of_getElem? (i := 134) rfl, List.mem_of_getElem? (i := 136) rfl, rfl, rfl⟩
theorem lk_1_24 : LinkV PP "DeferredCountYL2" 24 m33 := ⟨List.mem_of_getElem? (i := 145) rfl, List.mem_of_getElem? (i := 146) rfl, List.mem_of_getElem? (i := 148) rfl, List.mem_of_getElem? (i := 147) rfl, List.mem_of_getElem? (i := 149) rfl, rfl, rfl⟩
theorem lk_1_28 : LinkV PP "DeferredCountYL2" 28 m34 := ⟨List.mem_of_getElem? (i := 150) rfl, List.mem_of_getElem? (i := 151) rfl, List.mem_of_getElem? (i := 153) rfl, List.mem_of_getElem? (i := 152) rfl, List.mem_of_getElem? (i := 154) rfl, rfl, rfl⟩
theorem lk_1_31 : LinkV PP "DeferredCountYL2" 31 m35 := ⟨List.mem_of_getElem? (i := 155) rfl, List.mem_of_getElem? (i := 156) rfl, List.mem_of_getElem? (i := 158) rfl, List.mem_of_getElem? (i := 157) rfl, List.mem_of_getElem? (i := 159) rfl, rfl, rfl⟩
theorem lk_1_34 : LinkV PP "DeferredCountYL2" 34 m36 := ⟨List.mem_of_getElem? (i := 160) rfl, List.mem_of_getElem? (i := 161) rfl, List.mem_of_getElem? (i := 163) rfl, List.mem_of_getElem? (i := 162) rfl, List.mem_of_getElem? (i := 164) rfl, rfl, rfl⟩
theorem facts1 {Z : State} {a0 : Array Value} (hw : ∀ d ∈ tables_1, d.before a0 Z = true) : Facts Z a0 ci1 := by
  refine ⟨hw _ (List.mem_of_getElem? (i := 1) rfl), hw _ (List.mem_of_getElem? (i := 2) rfl), ?_, ?_, by decide, ?_, by decide⟩
  · intro f x hx
    match f, hx with
    | 0, hx => cases hx; exact ⟨Or.inl (hw _ (List.mem_of_getElem? (i := 37) rfl)), by decide⟩
    | 1, hx => cases hx; exact ⟨Or.inl (hw _ (List.mem_of_getElem? (i := 39) rfl)), by decide⟩
    | 2, hx => cases hx; exact ⟨Or.inl (hw _ (List.mem_of_getElem? (i := 41) rfl)), by decide⟩
    | 3, hx => cases hx; exact ⟨Or.inl (hw _ (List.mem_of_getElem? (i := 43) rfl)), by decide⟩
    | 4, hx => cases hx; exact ⟨Or.inl (hw _ (List.mem_of_getElem? (i := 53) rfl)), by decide⟩
    | 5, hx => cases hx; exact ⟨Or.inl (hw _ (List.mem_of_getElem? (i := 59) rfl)), by decide⟩
    | 6, hx => cases hx; exact ⟨Or.inl (hw _ (List.mem_of_getElem? (i := 65) rfl)), by decide⟩
    | 7, hx => cases hx; exact ⟨Or.inl (hw _ (List.mem_of_getElem? (i := 71) rfl)), by decide⟩
    | 8, hx => cases hx; exact ⟨Or.inl (hw _ (List.mem_of_getElem? (i := 73) rfl)), by decide⟩
    | n + 9, hx => simp [cS, ci1] at hx
  · intro q x hx
    match q, hx with
    | 0, hx => cases hx; exact ⟨Or.inl (hw _ (List.mem_of_getElem? (i := 11) rfl)), by decide⟩
    | 1, hx => cases hx; exact ⟨Or.inl (hw _ (List.mem_of_getElem? (i := 14) rfl)), by decide⟩
    | 2, hx => cases hx; exact ⟨Or.inl (hw _ (List.mem_of_getElem? (i := 16) rfl)), by decide⟩
    | 3, hx => cases hx; exact ⟨Or.inl (hw _ (List.mem_of_getElem? (i := 18) rfl)), by decide⟩
    | 4, hx => cases hx; exact ⟨Or.inl (hw _ (List.mem_of_getElem? (i := 20) rfl)), by decide⟩
    | 5, hx => cases hx; exact ⟨Or.inl (hw _ (List.mem_of_getElem? (i := 22) rfl)), by decide⟩
    | 6, hx => cases hx; exact ⟨Or.inl (hw _ (List.mem_of_getElem? (i := 24) rfl)), by decide⟩
    | 7, hx => cases hx; exact ⟨Or.inl (hw _ (List.mem_of_getElem? (i := 26) rfl)), by decide⟩
    | 8, hx => cases hx; exact ⟨Or.inl (hw _ (List.mem_of_getElem? (i := 28) rfl)), by decide⟩
    | 9, hx => cases hx; exact ⟨Or.inl (hw _ (List.mem_of_getElem? (i := 30) rfl)), by decide⟩
    | 10, hx => cases hx; exact ⟨Or.inl (hw _ (List.mem_of_getElem? (i := 32) rfl)), by decide⟩
    | n + 11, hx => simp [cA, ci1] at hx
  · intro f x hx
    match f, hx with
    | 0, hx => cases hx; rfl
    | 1, hx => cases hx; rfl
    | 2, hx => cases hx; rfl
    | 3, hx => cases hx; rfl
    | 4, hx => cases hx; rfl
    | 5, hx => cases hx; rfl
    | 6, hx => cases hx; rfl
    | 7, hx => cases hx; rfl
    | 8, hx => cases hx; rfl
    | n + 9, hx => simp [cS, ci1] at hx
def k_clamp  (v0 : Int32) (v1 : Int32) (v2 : Int32)  : Int32 :=
  if v0 < v1 then
    v1
  else
    if v2 < v0 then
      v2
    else
      v0
def k_clearCellFields_17  : Nat → Int32 → Int32 → S → Option S
  | 0, _, _, _ => none
  | n + 1, v2, v3, s =>
    if v3 < (4 : Int32) then
      (Jvm.AM.st (gA s 1) (v2 + v3) (-1 : Int32)).bind fun a30 =>
      k_clearCellFields_17 n v2 (v3 + (1 : Int32)) (sA s 1 a30)
    else
      some s
def k_clearCellFields  (v1 : Int32) (s : S) : Option S :=
  if v1 < 0 then
    some s
  else
    if v1 < (64 : Int32) then
      k_clearCellFields_17 BIG (v1 * (4 : Int32)) (0 : Int32) s
    else
      some s
def k_resetHeap_33   (s : S) : Option S :=
  some (sI s 4 (0 : Int32))
def k_resetHeap_2  : Nat → Int32 → S → Option S
  | 0, _, _ => none
  | n + 1, v1, s =>
    if v1 < (64 : Int32) then
      (Jvm.AM.st (gA s 0) v1 (0 : Int32)).bind fun a14 =>
      (Jvm.AM.st (gA s 2) v1 (0 : Int32)).bind fun a21 =>
      (k_clearCellFields v1 (sA (sA s 0 a14) 2 a21)).bind fun r24 =>
      k_resetHeap_2 n (v1 + (1 : Int32)) r24
    else
      k_resetHeap_33 s
def k_resetHeap   (s : S) : Option S :=
  k_resetHeap_2 BIG (0 : Int32) s
def k_resetRoots_21   (s : S) : Option S :=
  some (sI s 5 (0 : Int32))
def k_resetRoots_2  : Nat → Int32 → S → Option S
  | 0, _, _ => none
  | n + 1, v1, s =>
    if v1 < (16 : Int32) then
      (Jvm.AM.st (gA s 3) v1 (-1 : Int32)).bind fun a14 =>
      k_resetRoots_2 n (v1 + (1 : Int32)) (sA s 3 a14)
    else
      k_resetRoots_21 s
def k_resetRoots   (s : S) : Option S :=
  k_resetRoots_2 BIG (0 : Int32) s
def k_resetTable_42   (s : S) : Option S :=
  some (sI s 6 (0 : Int32))
def k_resetTable_23  : Nat → Int32 → S → Option S
  | 0, _, _ => none
  | n + 1, v1, s =>
    if v1 < (64 : Int32) then
      (Jvm.AM.st (gA s 5) v1 (-1 : Int32)).bind fun a35 =>
      k_resetTable_23 n (v1 + (1 : Int32)) (sA s 5 a35)
    else
      k_resetTable_42 s
def k_resetTable_21   (s : S) : Option S :=
  k_resetTable_23 BIG (0 : Int32) s
def k_resetTable_2  : Nat → Int32 → S → Option S
  | 0, _, _ => none
  | n + 1, v1, s =>
    if v1 < (64 : Int32) then
      (Jvm.AM.st (gA s 4) v1 (-1 : Int32)).bind fun a14 =>
      k_resetTable_2 n (v1 + (1 : Int32)) (sA s 4 a14)
    else
      k_resetTable_21 s
def k_resetTable   (s : S) : Option S :=
  k_resetTable_2 BIG (0 : Int32) s
def k_resetScratch_49   (s : S) : Option S :=
  some (sI s 7 (0 : Int32))
def k_resetScratch_2  : Nat → Int32 → S → Option S
  | 0, _, _ => none
  | n + 1, v1, s =>
    if v1 < (64 : Int32) then
      (Jvm.AM.st (gA s 6) v1 (0 : Int32)).bind fun a14 =>
      (Jvm.AM.st (gA s 7) v1 (0 : Int32)).bind fun a21 =>
      (Jvm.AM.st (gA s 8) v1 (0 : Int32)).bind fun a28 =>
      (Jvm.AM.st (gA s 9) v1 (0 : Int32)).bind fun a35 =>
      (Jvm.AM.st (gA s 10) v1 (-1 : Int32)).bind fun a42 =>
      k_resetScratch_2 n (v1 + (1 : Int32)) (sA (sA (sA (sA (sA s 6 a14) 7 a21) 8 a28) 9 a35) 10 a42)
    else
      k_resetScratch_49 s
def k_resetScratch   (s : S) : Option S :=
  k_resetScratch_2 BIG (0 : Int32) s
def k_init  (v1 : Int32) (v2 : Int32) (v3 : Int32) (v4 : Int32)  : Option S :=
  (k_resetHeap (sI (sI (sI (sI (sA (sA (sA (sA (sA (sA (sA (sA (sA (sA (sA s0 0 (rep 64 0)) 1 (rep 256 0)) 2 (rep 64 0)) 3 (rep 16 0)) 4 (rep 64 0)) 5 (rep 64 0)) 6 (rep 64 0)) 7 (rep 64 0)) 8 (rep 64 0)) 9 (rep 64 0)) 10 (rep 64 0)) 0 (k_clamp v1 (4 : Int32) (64 : Int32))) 1 (k_clamp v2 (1 : Int32) (4 : Int32))) 2 (k_clamp v3 (1 : Int32) (16 : Int32))) 3 (k_clamp v4 ((k_clamp v3 (1 : Int32) (16 : Int32)) + (1 : Int32)) (64 : Int32)))).bind fun r147 =>
  (k_resetRoots r147).bind fun r151 =>
  (k_resetTable r151).bind fun r155 =>
  (k_resetScratch r155).bind fun r159 =>
  some (sI r159 8 (0 : Int32))
def k_rootsFull   (s : S) : Int32 :=
  if (gI s 5) < (gI s 2) then
    (0 : Int32)
  else
    (1 : Int32)
def k_hasFreeCell   (s : S) : Int32 :=
  if (gI s 4) < (gI s 0) then
    (1 : Int32)
  else
    (0 : Int32)
def k_tableIsFull   (s : S) : Int32 :=
  if (gI s 6) < (gI s 3) then
    (0 : Int32)
  else
    (1 : Int32)
def k_allocNeedsReconcile   (s : S) : Int32 :=
  if (k_hasFreeCell s) = 0 then
    (1 : Int32)
  else
    nar .boolean (k_tableIsFull s)
def k_lowestFreeCell_2  : Nat → Int32 → S → Option Int32
  | 0, _, _ => none
  | n + 1, v1, s =>
    if v1 < (gI s 0) then
      (ix (gA s 0) v1).bind fun a15 =>
      if a15 = 0 then
        some v1
      else
        k_lowestFreeCell_2 n (v1 + (1 : Int32)) s
    else
      some (-1 : Int32)
def k_lowestFreeCell   (s : S) : Option Int32 :=
  k_lowestFreeCell_2 BIG (0 : Int32) s
def k_isObjectId  (v1 : Int32) (s : S) : Int32 :=
  if v1 < 0 then
    (0 : Int32)
  else
    if v1 < (gI s 0) then
      (1 : Int32)
    else
      (0 : Int32)
def k_bringToLife  (v1 : Int32) (s : S) : Option S :=
  if (k_isObjectId v1 s) = 0 then
    some s
  else
    (ix (gA s 0) v1).bind fun a14 =>
    if a14 = 0 then
      (Jvm.AM.st (gA s 0) v1 (1 : Int32)).bind fun a25 =>
      (k_clearCellFields v1 (sA s 0 a25)).bind fun r28 =>
      (Jvm.AM.st (gA r28 2) v1 (0 : Int32)).bind fun a37 =>
      some (sI (sA r28 2 a37) 4 ((gI r28 4) + (1 : Int32)))
    else
      some s
def k_tableInsert  (v1 : Int32) (s : S) : Option (Int32 × S) :=
  if (k_isObjectId v1 s) = 0 then
    some ((0 : Int32), s)
  else
    (ix (gA s 5) v1).bind fun a15 =>
    if a15 = (-1 : Int32) then
      if (gI s 6) < (gI s 3) then
        if (gI s 6) < (64 : Int32) then
          (Jvm.AM.st (gA s 4) (gI s 6) v1).bind fun a53 =>
          (Jvm.AM.st (gA s 5) v1 (gI s 6)).bind fun a63 =>
          some ((1 : Int32), sI (sA (sA s 4 a53) 5 a63) 6 ((gI s 6) + (1 : Int32)))
        else
          some ((0 : Int32), s)
      else
        some ((0 : Int32), s)
    else
      some ((0 : Int32), s)
def k_rootPush  (v1 : Int32) (s : S) : Option S :=
  if (gI s 5) < (gI s 2) then
    if (gI s 5) < (16 : Int32) then
      (Jvm.AM.st (gA s 3) (gI s 5) v1).bind fun a30 =>
      some (sI (sA s 3 a30) 5 ((gI s 5) + (1 : Int32)))
    else
      some s
  else
    some s
def k_placeNewObject  (v1 : Int32) (s : S) : Option S :=
  (k_bringToLife v1 s).bind fun r2 =>
  (k_tableInsert v1 r2).bind fun r7 =>
  (k_rootPush v1 r7.2).bind fun r13 =>
  some r13
def k_alloc   (s : S) : Option (Int32 × S) :=
  if (k_rootsFull s) = 0 then
    if (k_allocNeedsReconcile s) = 0 then
      (k_lowestFreeCell s).bind fun r23 =>
      if r23 = (-1 : Int32) then
        some ((-4 : Int32), s)
      else
        (k_placeNewObject r23 s).bind fun r37 =>
        some (r23, r37)
    else
      none
  else
    some ((-2 : Int32), s)
def k_isRootSlot  (v1 : Int32) (s : S) : Int32 :=
  if v1 < 0 then
    (0 : Int32)
  else
    if v1 < (gI s 5) then
      (1 : Int32)
    else
      (0 : Int32)
def k_isFieldNo  (v1 : Int32) (s : S) : Int32 :=
  if v1 < 0 then
    (0 : Int32)
  else
    if v1 < (gI s 1) then
      (1 : Int32)
    else
      (0 : Int32)
def k_isValueSlot  (v1 : Int32) (s : S) : Int32 :=
  if v1 = (-1 : Int32) then
    (1 : Int32)
  else
    nar .boolean (k_isRootSlot v1 s)
def k_isLiveId  (v1 : Int32) (s : S) : Option Int32 :=
  if (k_isObjectId v1 s) = 0 then
    some (0 : Int32)
  else
    (ix (gA s 0) v1).bind fun a13 =>
    if a13 = 0 then
      some (0 : Int32)
    else
      some (1 : Int32)
def k_storeCheck  (v1 : Int32) (v2 : Int32) (v3 : Int32) (s : S) : Option Int32 :=
  if (k_isRootSlot v1 s) = 0 then
    some (-5 : Int32)
  else
    if (k_isFieldNo v2 s) = 0 then
      some (-6 : Int32)
    else
      if (k_isValueSlot v3 s) = 0 then
        some (-5 : Int32)
      else
        (ix (gA s 3) v1).bind fun a38 =>
        if a38 = (-1 : Int32) then
          some (-7 : Int32)
        else
          (ix (gA s 3) v1).bind fun a52 =>
          (k_isLiveId a52 s).bind fun r53 =>
          if r53 = 0 then
            some (-7 : Int32)
          else
            some (0 : Int32)
def k_valueOfSlot  (v1 : Int32) (s : S) : Option Int32 :=
  if v1 = (-1 : Int32) then
    some (-1 : Int32)
  else
    if (k_isRootSlot v1 s) = 0 then
      some (-1 : Int32)
    else
      (ix (gA s 3) v1).bind fun a22 =>
      some a22
def k_readField  (v1 : Int32) (v2 : Int32) (s : S) : Option Int32 :=
  if (k_isObjectId v1 s) = 0 then
    some (-1 : Int32)
  else
    if (k_isFieldNo v2 s) = 0 then
      some (-1 : Int32)
    else
      (ix (gA s 1) ((v1 * (4 : Int32)) + v2)).bind fun a29 =>
      some a29
def k_storeNeedsReconcile  (v1 : Int32) (v2 : Int32) (s : S) : Option Int32 :=
  if v1 = (-1 : Int32) then
    some (0 : Int32)
  else
    if v1 = v2 then
      some (0 : Int32)
    else
      if (k_isObjectId v1 s) = 0 then
        some (0 : Int32)
      else
        (ix (gA s 2) v1).bind fun a29 =>
        if a29 = (1 : Int32) then
          none
        else
          some (0 : Int32)
def k_refDec  (v1 : Int32) (s : S) : Option S :=
  if (k_isObjectId v1 s) = 0 then
    some s
  else
    (ix (gA s 2) v1).bind fun a13 =>
    if 0 < a13 then
      (ix (gA s 2) v1).bind fun a27 =>
      (Jvm.AM.st (gA s 2) v1 (a27 - (1 : Int32))).bind fun a30 =>
      some (sA s 2 a30)
    else
      some s
def k_refInc  (v1 : Int32) (s : S) : Option S :=
  if (k_isObjectId v1 s) = 0 then
    some s
  else
    (ix (gA s 2) v1).bind fun a18 =>
    (Jvm.AM.st (gA s 2) v1 (a18 + (1 : Int32))).bind fun a21 =>
    some (sA s 2 a21)
def k_writeFieldRaw  (v1 : Int32) (v2 : Int32) (v3 : Int32) (s : S) : Option S :=
  if (k_isObjectId v1 s) = 0 then
    some s
  else
    if (k_isFieldNo v2 s) = 0 then
      some s
    else
      (Jvm.AM.st (gA s 1) ((v1 * (4 : Int32)) + v2) v3).bind fun a28 =>
      some (sA s 1 a28)
def k_assignField  (v1 : Int32) (v2 : Int32) (v3 : Int32) (s : S) : Option S :=
  (k_readField v1 v2 s).bind fun r3 =>
  (k_refDec r3 s).bind fun r11 =>
  (k_refInc v3 r11).bind fun r16 =>
  (k_writeFieldRaw v1 v2 v3 r16).bind fun r23 =>
  some r23
def k_noteZeroCount  (v1 : Int32) (s : S) : Option Unit :=
  if v1 = (-1 : Int32) then
    some ()
  else
    if (k_isObjectId v1 s) = 0 then
      some ()
    else
      (ix (gA s 2) v1).bind fun a20 =>
      if a20 = 0 then
        none
      else
        some ()
def k_store  (v1 : Int32) (v2 : Int32) (v3 : Int32) (s : S) : Option (Int32 × S) :=
  (k_storeCheck v1 v2 v3 s).bind fun r4 =>
  if r4 = 0 then
    (ix (gA s 3) v1).bind fun a22 =>
    (k_valueOfSlot v3 s).bind fun r27 =>
    (k_readField a22 v2 s).bind fun r36 =>
    (k_storeNeedsReconcile r36 r27 s).bind fun r46 =>
    if r46 = 0 then
      (k_assignField a22 v2 r27 s).bind fun r63 =>
      (k_noteZeroCount r36 r63).bind fun r69 =>
      some ((0 : Int32), r63)
    else
      none
  else
    some (r4, s)
def k_field  (v1 : Int32) (v2 : Int32) (s : S) : Option Int32 :=
  (k_isLiveId v1 s).bind fun r2 =>
  if r2 = 0 then
    some (-8 : Int32)
  else
    if (k_isFieldNo v2 s) = 0 then
      some (-6 : Int32)
    else
      (k_readField v1 v2 s).bind fun r25 =>
      some r25
def k_count  (v1 : Int32) (s : S) : Option Int32 :=
  (k_isLiveId v1 s).bind fun r2 =>
  if r2 = 0 then
    some (-8 : Int32)
  else
    (ix (gA s 2) v1).bind fun a16 =>
    some a16
def k_tableSize   (s : S) : Int32 :=
  gI s 6
def k_reconciliations   (s : S) : Int32 :=
  gI s 8
def k_depth   (s : S) : Int32 :=
  gI s 5
def law_273  (v5 : Int32) (v6 : Int32) (v7 : Int32) (v12 : Int32) (v14 : Int32) (v15 : Int32) (v16 : Int32) (v17 : Int32) (v18 : Int32) (v19 : Int32) (v20 : Int32) (p0 : Int32) (t0 : S) : Option (Int32 × S) :=
  if v5 = 0 then
    if v6 = (1 : Int32) then
      if v7 = v12 then
        if v14 = v16 then
          if v15 = v17 then
            if v18 = v20 then
              if v19 = p0 then
                if (k_tableSize t0) = (2 : Int32) then
                  if (k_reconciliations t0) = 0 then
                    if (k_depth t0) = (2 : Int32) then
                      some ((1 : Int32), t0)
                    else
                      some ((0 : Int32), t0)
                  else
                    some ((0 : Int32), t0)
                else
                  some ((0 : Int32), t0)
              else
                some ((0 : Int32), t0)
            else
              some ((0 : Int32), t0)
          else
            some ((0 : Int32), t0)
        else
          some ((0 : Int32), t0)
      else
        some ((0 : Int32), t0)
    else
      some ((0 : Int32), t0)
  else
    some ((0 : Int32), t0)
def law_256  (v3 : Int32) (v5 : Int32) (v6 : Int32) (v7 : Int32) (v12 : Int32) (v13 : Int32) (v14 : Int32) (v15 : Int32) (v16 : Int32) (v17 : Int32) (v18 : Int32) (v19 : Int32) (p0 : Int32) (t0 : S) : Option (Int32 × S) :=
  law_273 v5 v6 v7 v12 v14 v15 v16 v17 v18 v19 p0 (if v13 = 0 then (0 : Int32) else if v3 = (1 : Int32) then (1 : Int32) else (0 : Int32)) t0
def law_224  (v3 : Int32) (v5 : Int32) (v6 : Int32) (v7 : Int32) (v12 : Int32) (v13 : Int32) (v14 : Int32) (v15 : Int32) (v16 : Int32) (p0 : Int32) (t0 : S) : Option (Int32 × S) :=
  (k_count (0 : Int32) t0).bind fun r229 =>
  (k_count (1 : Int32) t0).bind fun r237 =>
  law_256 v3 v5 v6 v7 v12 v13 v14 v15 v16 p0 r229 r237 (if v13 = 0 then (0 : Int32) else if v3 = 0 then (1 : Int32) else (0 : Int32)) t0
def law_197  (v1 : Int32) (v3 : Int32) (v5 : Int32) (v6 : Int32) (v7 : Int32) (v10 : Int32) (v12 : Int32) (v13 : Int32) (v14 : Int32) (v15 : Int32) (p0 : Int32) (t0 : S) : Option (Int32 × S) :=
  law_224 v3 v5 v6 v7 v12 v13 v14 v15 p0 (if v10 = 0 then (-6 : Int32) else if v13 = 0 then (-1 : Int32) else if v1 = (1 : Int32) then v3 else (-1 : Int32)) t0
def law_153  (v1 : Int32) (v2 : Int32) (v3 : Int32) (v5 : Int32) (v6 : Int32) (v7 : Int32) (v10 : Int32) (v12 : Int32) (p0 : Int32) (t0 : S) : Option (Int32 × S) :=
  (k_field (0 : Int32) v2 t0).bind fun r159 =>
  (k_field (1 : Int32) v2 t0).bind fun r168 =>
  law_197 v1 v3 v5 v6 v7 v10 v12 p0 r159 r168 (if v10 = 0 then (-6 : Int32) else if p0 = 0 then (-1 : Int32) else if v1 = 0 then v3 else (-1 : Int32)) t0
def law_141  (v1 : Int32) (v2 : Int32) (v3 : Int32) (v5 : Int32) (v6 : Int32) (v7 : Int32) (v10 : Int32) (p0 : Int32) (t0 : S) : Option (Int32 × S) :=
  law_153 v1 v2 v3 v5 v6 v7 v10 p0 (if p0 = 0 then (1 : Int32) else (0 : Int32)) t0
def law_108  (v1 : Int32) (v2 : Int32) (v3 : Int32) (v5 : Int32) (v6 : Int32) (v7 : Int32) (v9 : Int32) (v10 : Int32) (p0 : Int32) (t0 : S) : Option (Int32 × S) :=
  law_141 v1 v2 v3 v5 v6 v7 v10 (if v9 = 0 then (-5 : Int32) else if v10 = 0 then (-6 : Int32) else if p0 = 0 then (-5 : Int32) else (0 : Int32)) t0
def law_91  (v1 : Int32) (v2 : Int32) (v3 : Int32) (v5 : Int32) (v6 : Int32) (v7 : Int32) (v9 : Int32) (p0 : Int32) (t0 : S) : Option (Int32 × S) :=
  law_108 v1 v2 v3 v5 v6 v7 v9 p0 (if v3 < (-1 : Int32) then (0 : Int32) else if (1 : Int32) < v3 then (0 : Int32) else (1 : Int32)) t0
def law_74  (v1 : Int32) (v2 : Int32) (v3 : Int32) (v5 : Int32) (v6 : Int32) (v7 : Int32) (v8 : Int32) (p0 : Int32) (t0 : S) : Option (Int32 × S) :=
  law_91 v1 v2 v3 v5 v6 v7 p0 (if v2 < 0 then (0 : Int32) else if v2 < v8 then (1 : Int32) else (0 : Int32)) t0
def law_58  (v1 : Int32) (v2 : Int32) (v3 : Int32) (v5 : Int32) (v6 : Int32) (v7 : Int32) (p0 : Int32) (t0 : S) : Option (Int32 × S) :=
  law_74 v1 v2 v3 v5 v6 v7 p0 (if v1 = 0 then (1 : Int32) else if v1 = (1 : Int32) then (1 : Int32) else (0 : Int32)) t0
def law  (v0 : Int32) (v1 : Int32) (v2 : Int32) (v3 : Int32)  : Option (Int32 × S) :=
  (k_init (8 : Int32) v0 (4 : Int32) (16 : Int32)).bind fun r10 =>
  (k_alloc r10).bind fun r17 =>
  (k_alloc r17.2).bind fun r24 =>
  (k_store v1 v2 v3 r24.2).bind fun r34 =>
  law_58 v1 v2 v3 r17.1 r24.1 r34.1 (if v0 < (1 : Int32) then (1 : Int32) else if (4 : Int32) < v0 then (4 : Int32) else v0) r34.2
set_option maxRecDepth 65536 in
set_option maxHeartbeats 4000000 in
theorem k_clamp_ok  {w : W} : ∀ (v0 : Int32) (v1 : Int32) (v2 : Int32)   (o : Int32), k_clamp v0 v1 v2 = o → Go PP m0 0 [.val (.int v0), .val (.int v1), .val (.int v2)] [] w (some (.int o), w) := by
  intro v0 v1 v2 o hf
  unfold k_clamp at hf
  refine go_iloadN (pc := 0) d0_0 rfl (go_iloadN (pc := 1) d0_1 rfl ?_)
  by_cases h1 : v0 < v1
  · replace hf := (if_pos h1).symm.trans hf
    refine go_icN (pc := 2) d0_2 (XT.ii_ge_f h1) ?_
    refine go_iloadN (pc := 5) d0_5 rfl ?_
    cases hf
    exact go_iret (pc := 6) rfl d0_6
  · replace hf := (if_neg h1).symm.trans hf
    refine go_icY (pc := 2) (pc' := 7) d0_2 (XT.ii_ge_t h1) j_2_5 ?_
    refine go_iloadN (pc := 7) d0_7 rfl (go_iloadN (pc := 8) d0_8 rfl ?_)
    by_cases h2 : v2 < v0
    · replace hf := (if_pos h2).symm.trans hf
      refine go_icN (pc := 9) d0_9 (XT.ii_le_f h2) ?_
      refine go_iloadN (pc := 12) d0_12 rfl ?_
      cases hf
      exact go_iret (pc := 13) rfl d0_13
    · replace hf := (if_neg h2).symm.trans hf
      refine go_icY (pc := 9) (pc' := 14) d0_9 (XT.ii_le_t h2) j_9_5 ?_
      refine go_iloadN (pc := 14) d0_14 rfl ?_
      cases hf
      exact go_iret (pc := 15) rfl d0_15
theorem c_k_clamp (v0 : Int32) (v1 : Int32) (v2 : Int32) (w : W) : Call PP m0 [.int v0, .int v1, .int v2] w (some (.int (k_clamp v0 v1 v2)), w) := call_of_go pl_0 rfl (fun h => nomatch h) (k_clamp_ok v0 v1 v2   _ rfl)
set_option maxRecDepth 65536 in
set_option maxHeartbeats 4000000 in
theorem k_clearCellFields_17_ok  : ∀ (n : Nat) (v2 : Int32) (v3 : Int32) (s : S) (x1 : Slot) (hx1 : k1 x1) (o : S), k_clearCellFields_17 n v2 v3 s = some o → Go PP m1 17 [.val (.ref 1), x1, .val (.int v2), .val (.int v3)] [] (none, [(11, s)]) (none, (none, [(11, o)])) := by
  intro n
  induction n with
  | zero => intro v2 v3 s x1 hx1 o hf; exact nomatch hf
  | succ n ih =>
    intro v2 v3 s x1 hx1 o hf
    unfold k_clearCellFields_17 at hf
    refine go_iloadN (pc := 17) d1_17 rfl (go_iconst (pc := 18) d1_18 ci_4 ?_)
    by_cases h1 : v3 < (4 : Int32)
    · replace hf := (if_pos h1).symm.trans hf
      refine go_icN (pc := 19) d1_19 (XT.ii_ge_f h1) ?_
      refine go_aloadN (pc := 22) d1_22 rfl (go_getA (pc := 23) fa_13 hm_1 d1_23 rfl (go_iloadN (pc := 26) d1_26 rfl (go_iloadN (pc := 27) d1_27 rfl (go_iadd (pc := 28) d1_28 (go_iconst (pc := 29) d1_29 ci_m1 ?_)))))
      obtain ⟨a30, e2, hf⟩ := Option.bind_eq_some_iff.mp hf
      refine go_iastore (pc := 30) (q := 1) ar_1 rfl hn_1 e2 d1_30 ?_
      refine go_iinc (pc := 31) (L' := [.val (.ref 1), x1, .val (.int v2), .val (.int (v3 + (1 : Int32)))]) d1_31 rfl ci_1 rfl (go_goto (pc := 34) (pc' := 17) d1_34 j_34_m17 ?_)
      exact ih v2 (v3 + (1 : Int32)) (sA s 1 a30) x1 hx1 _ hf
    · replace hf := (if_neg h1).symm.trans hf
      refine go_icY (pc := 19) (pc' := 37) d1_19 (XT.ii_ge_t h1) j_19_18 ?_
      cases hf
      exact go_ret (pc := 37) rfl d1_37
set_option maxRecDepth 65536 in
set_option maxHeartbeats 4000000 in
theorem k_clearCellFields_ok  : ∀ (v1 : Int32) (s : S)  (o : S), k_clearCellFields v1 s = some o → Go PP m1 0 [.val (.ref 1), .val (.int v1), .unset, .unset] [] (none, [(11, s)]) (none, (none, [(11, o)])) := by
  intro v1 s o hf
  unfold k_clearCellFields at hf
  refine go_iloadN (pc := 0) d1_0 rfl ?_
  by_cases h1 : v1 < 0
  · replace hf := (if_pos h1).symm.trans hf
    refine go_ifY (pc := 1) (pc' := 10) d1_1 (XT.i0_lt_t h1) j_1_9 ?_
    cases hf
    exact go_ret (pc := 10) rfl d1_10
  · replace hf := (if_neg h1).symm.trans hf
    refine go_ifN (pc := 1) d1_1 (XT.i0_lt_f h1) ?_
    refine go_iloadN (pc := 4) d1_4 rfl (go_bipush (pc := 5) d1_5 cb_64 ?_)
    by_cases h2 : v1 < (64 : Int32)
    · replace hf := (if_pos h2).symm.trans hf
      refine go_icY (pc := 7) (pc' := 11) d1_7 (XT.ii_lt_t h2) j_7_4 ?_
      refine go_iloadN (pc := 11) d1_11 rfl (go_iconst (pc := 12) d1_12 ci_4 (go_imul (pc := 13) d1_13 (go_istoreN (pc := 14) (L' := [.val (.ref 1), .val (.int v1), .val (.int (v1 * (4 : Int32))), .unset]) d1_14 rfl (go_iconst (pc := 15) d1_15 ci_0 (go_istoreN (pc := 16) (L' := [.val (.ref 1), .val (.int v1), .val (.int (v1 * (4 : Int32))), .val (.int (0 : Int32))]) d1_16 rfl ?_)))))
      exact k_clearCellFields_17_ok BIG (v1 * (4 : Int32)) (0 : Int32) s (.val (.int v1)) (Or.inr ⟨_, rfl, rfl⟩) _ hf
    · replace hf := (if_neg h2).symm.trans hf
      refine go_icN (pc := 7) d1_7 (XT.ii_lt_f h2) ?_
      cases hf
      exact go_ret (pc := 10) rfl d1_10
theorem c_k_clearCellFields (v1 : Int32) (s : S) (o : S) (hf : k_clearCellFields v1 s = some o) : Call PP m1 [.ref 1, .int v1] (none, [(11, s)]) (none, (none, [(11, o)])) := call_of_go pl_0 rfl (fun _ => rfl) (k_clearCellFields_ok v1 s   _ hf)
set_option maxRecDepth 65536 in
set_option maxHeartbeats 4000000 in
theorem k_resetHeap_33_ok  : ∀  (s : S) (x1 : Slot) (hx1 : k1 x1) (o : S), k_resetHeap_33 s = some o → Go PP m2 33 [.val (.ref 1), x1] [] (none, [(11, s)]) (none, (none, [(11, o)])) := by
  intro s x1 hx1 o hf
  unfold k_resetHeap_33 at hf
  refine go_aloadN (pc := 33) d2_33 rfl (go_iconst (pc := 34) d2_34 ci_0 (go_putI (pc := 35) fs_147 hm_2 (wr_4 _) hn_2 d2_35 ?_))
  cases hf
  exact go_ret (pc := 38) rfl d2_38
set_option maxRecDepth 65536 in
set_option maxHeartbeats 4000000 in
theorem k_resetHeap_2_ok  : ∀ (n : Nat) (v1 : Int32) (s : S)  (o : S), k_resetHeap_2 n v1 s = some o → Go PP m2 2 [.val (.ref 1), .val (.int v1)] [] (none, [(11, s)]) (none, (none, [(11, o)])) := by
  intro n
  induction n with
  | zero => intro v1 s o hf; exact nomatch hf
  | succ n ih =>
    intro v1 s o hf
    unfold k_resetHeap_2 at hf
    refine go_iloadN (pc := 2) d2_2 rfl (go_bipush (pc := 3) d2_3 cb_64 ?_)
    by_cases h1 : v1 < (64 : Int32)
    · replace hf := (if_pos h1).symm.trans hf
      refine go_icN (pc := 5) d2_5 (XT.ii_ge_f h1) ?_
      refine go_aloadN (pc := 8) d2_8 rfl (go_getA (pc := 9) fa_7 hm_2 d2_9 rfl (go_iloadN (pc := 12) d2_12 rfl (go_iconst (pc := 13) d2_13 ci_0 ?_)))
      obtain ⟨a14, e2, hf⟩ := Option.bind_eq_some_iff.mp hf
      refine go_bastore (pc := 14) (q := 0) ar_0 (by decide) rfl hn_2 (by decide) e2 d2_14 ?_
      refine go_aloadN (pc := 15) d2_15 rfl (go_getA (pc := 16) fa_17 hm_2 d2_16 rfl (go_iloadN (pc := 19) d2_19 rfl (go_iconst (pc := 20) d2_20 ci_0 ?_)))
      obtain ⟨a21, e3, hf⟩ := Option.bind_eq_some_iff.mp hf
      refine go_iastore (pc := 21) (q := 2) ar_2 rfl hn_2 e3 d2_21 ?_
      refine go_aloadN (pc := 22) d2_22 rfl (go_iloadN (pc := 23) d2_23 rfl ?_)
      obtain ⟨r24, e4, hf⟩ := Option.bind_eq_some_iff.mp hf
      refine go_priv (pc := 24) (i := 0) (as := [.int v1]) (rest := []) (w' := (none, [(11, r24)])) lk_0_219 pd_1 rfl oid_0 rfl rfl rfl rfl rfl rfl ⟨rfl, rfl, rfl, rfl, rfl⟩ d2_24 (c_k_clearCellFields v1 (sA (sA s 0 a14) 2 a21) _ e4) ?_
      refine go_iinc (pc := 27) (L' := [.val (.ref 1), .val (.int (v1 + (1 : Int32)))]) d2_27 rfl ci_1 rfl (go_goto (pc := 30) (pc' := 2) d2_30 j_30_m28 ?_)
      exact ih (v1 + (1 : Int32)) r24 _ hf
    · replace hf := (if_neg h1).symm.trans hf
      refine go_icY (pc := 5) (pc' := 33) d2_5 (XT.ii_ge_t h1) j_5_28 ?_
      exact k_resetHeap_33_ok s (.val (.int v1)) (Or.inr ⟨_, rfl, rfl⟩) _ hf
set_option maxRecDepth 65536 in
set_option maxHeartbeats 4000000 in
theorem k_resetHeap_ok  : ∀  (s : S)  (o : S), k_resetHeap s = some o → Go PP m2 0 [.val (.ref 1), .unset] [] (none, [(11, s)]) (none, (none, [(11, o)])) := by
  intro s o hf
  unfold k_resetHeap at hf
  refine go_iconst (pc := 0) d2_0 ci_0 (go_istoreN (pc := 1) (L' := [.val (.ref 1), .val (.int (0 : Int32))]) d2_1 rfl ?_)
  exact k_resetHeap_2_ok BIG (0 : Int32) s _ hf
theorem c_k_resetHeap (s : S) (o : S) (hf : k_resetHeap s = some o) : Call PP m2 [.ref 1] (none, [(11, s)]) (none, (none, [(11, o)])) := call_of_go pl_0 rfl (fun _ => rfl) (k_resetHeap_ok s   _ hf)
set_option maxRecDepth 65536 in
set_option maxHeartbeats 4000000 in
theorem k_resetRoots_21_ok  : ∀  (s : S) (x1 : Slot) (hx1 : k1 x1) (o : S), k_resetRoots_21 s = some o → Go PP m3 21 [.val (.ref 1), x1] [] (none, [(11, s)]) (none, (none, [(11, o)])) := by
  intro s x1 hx1 o hf
  unfold k_resetRoots_21 at hf
  refine go_aloadN (pc := 21) d3_21 rfl (go_iconst (pc := 22) d3_22 ci_0 (go_putI (pc := 23) fs_125 hm_3 (wr_5 _) hn_3 d3_23 ?_))
  cases hf
  exact go_ret (pc := 26) rfl d3_26
set_option maxRecDepth 65536 in
set_option maxHeartbeats 4000000 in
theorem k_resetRoots_2_ok  : ∀ (n : Nat) (v1 : Int32) (s : S)  (o : S), k_resetRoots_2 n v1 s = some o → Go PP m3 2 [.val (.ref 1), .val (.int v1)] [] (none, [(11, s)]) (none, (none, [(11, o)])) := by
  intro n
  induction n with
  | zero => intro v1 s o hf; exact nomatch hf
  | succ n ih =>
    intro v1 s o hf
    unfold k_resetRoots_2 at hf
    refine go_iloadN (pc := 2) d3_2 rfl (go_bipush (pc := 3) d3_3 cb_16 ?_)
    by_cases h1 : v1 < (16 : Int32)
    · replace hf := (if_pos h1).symm.trans hf
      refine go_icN (pc := 5) d3_5 (XT.ii_ge_f h1) ?_
      refine go_aloadN (pc := 8) d3_8 rfl (go_getA (pc := 9) fa_20 hm_3 d3_9 rfl (go_iloadN (pc := 12) d3_12 rfl (go_iconst (pc := 13) d3_13 ci_m1 ?_)))
      obtain ⟨a14, e2, hf⟩ := Option.bind_eq_some_iff.mp hf
      refine go_iastore (pc := 14) (q := 3) ar_3 rfl hn_3 e2 d3_14 ?_
      refine go_iinc (pc := 15) (L' := [.val (.ref 1), .val (.int (v1 + (1 : Int32)))]) d3_15 rfl ci_1 rfl (go_goto (pc := 18) (pc' := 2) d3_18 j_18_m16 ?_)
      exact ih (v1 + (1 : Int32)) (sA s 3 a14) _ hf
    · replace hf := (if_neg h1).symm.trans hf
      refine go_icY (pc := 5) (pc' := 21) d3_5 (XT.ii_ge_t h1) j_5_16 ?_
      exact k_resetRoots_21_ok s (.val (.int v1)) (Or.inr ⟨_, rfl, rfl⟩) _ hf
set_option maxRecDepth 65536 in
set_option maxHeartbeats 4000000 in
theorem k_resetRoots_ok  : ∀  (s : S)  (o : S), k_resetRoots s = some o → Go PP m3 0 [.val (.ref 1), .unset] [] (none, [(11, s)]) (none, (none, [(11, o)])) := by
  intro s o hf
  unfold k_resetRoots at hf
  refine go_iconst (pc := 0) d3_0 ci_0 (go_istoreN (pc := 1) (L' := [.val (.ref 1), .val (.int (0 : Int32))]) d3_1 rfl ?_)
  exact k_resetRoots_2_ok BIG (0 : Int32) s _ hf
theorem c_k_resetRoots (s : S) (o : S) (hf : k_resetRoots s = some o) : Call PP m3 [.ref 1] (none, [(11, s)]) (none, (none, [(11, o)])) := call_of_go pl_0 rfl (fun _ => rfl) (k_resetRoots_ok s   _ hf)
set_option maxRecDepth 65536 in
set_option maxHeartbeats 4000000 in
theorem k_resetTable_42_ok  : ∀  (s : S) (x1 : Slot) (hx1 : k1 x1) (o : S), k_resetTable_42 s = some o → Go PP m4 42 [.val (.ref 1), x1] [] (none, [(11, s)]) (none, (none, [(11, o)])) := by
  intro s x1 hx1 o hf
  unfold k_resetTable_42 at hf
  refine go_aloadN (pc := 42) d4_42 rfl (go_iconst (pc := 43) d4_43 ci_0 (go_putI (pc := 44) fs_144 hm_4 (wr_6 _) hn_4 d4_44 ?_))
  cases hf
  exact go_ret (pc := 47) rfl d4_47
set_option maxRecDepth 65536 in
set_option maxHeartbeats 4000000 in
theorem k_resetTable_23_ok  : ∀ (n : Nat) (v1 : Int32) (s : S)  (o : S), k_resetTable_23 n v1 s = some o → Go PP m4 23 [.val (.ref 1), .val (.int v1)] [] (none, [(11, s)]) (none, (none, [(11, o)])) := by
  intro n
  induction n with
  | zero => intro v1 s o hf; exact nomatch hf
  | succ n ih =>
    intro v1 s o hf
    unfold k_resetTable_23 at hf
    refine go_iloadN (pc := 23) d4_23 rfl (go_bipush (pc := 24) d4_24 cb_64 ?_)
    by_cases h1 : v1 < (64 : Int32)
    · replace hf := (if_pos h1).symm.trans hf
      refine go_icN (pc := 26) d4_26 (XT.ii_ge_f h1) ?_
      refine go_aloadN (pc := 29) d4_29 rfl (go_getA (pc := 30) fa_26 hm_4 d4_30 rfl (go_iloadN (pc := 33) d4_33 rfl (go_iconst (pc := 34) d4_34 ci_m1 ?_)))
      obtain ⟨a35, e2, hf⟩ := Option.bind_eq_some_iff.mp hf
      refine go_iastore (pc := 35) (q := 5) ar_5 rfl hn_4 e2 d4_35 ?_
      refine go_iinc (pc := 36) (L' := [.val (.ref 1), .val (.int (v1 + (1 : Int32)))]) d4_36 rfl ci_1 rfl (go_goto (pc := 39) (pc' := 23) d4_39 j_39_m16 ?_)
      exact ih (v1 + (1 : Int32)) (sA s 5 a35) _ hf
    · replace hf := (if_neg h1).symm.trans hf
      refine go_icY (pc := 26) (pc' := 42) d4_26 (XT.ii_ge_t h1) j_26_16 ?_
      exact k_resetTable_42_ok s (.val (.int v1)) (Or.inr ⟨_, rfl, rfl⟩) _ hf
set_option maxRecDepth 65536 in
set_option maxHeartbeats 4000000 in
theorem k_resetTable_21_ok  : ∀  (s : S) (x1 : Slot) (hx1 : k1 x1) (o : S), k_resetTable_21 s = some o → Go PP m4 21 [.val (.ref 1), x1] [] (none, [(11, s)]) (none, (none, [(11, o)])) := by
  intro s x1 hx1 o hf
  unfold k_resetTable_21 at hf
  refine go_iconst (pc := 21) d4_21 ci_0 (go_istoreN (pc := 22) (L' := [.val (.ref 1), .val (.int (0 : Int32))]) d4_22 (stx rfl hx1 rfl) ?_)
  exact k_resetTable_23_ok BIG (0 : Int32) s _ hf
set_option maxRecDepth 65536 in
set_option maxHeartbeats 4000000 in
theorem k_resetTable_2_ok  : ∀ (n : Nat) (v1 : Int32) (s : S)  (o : S), k_resetTable_2 n v1 s = some o → Go PP m4 2 [.val (.ref 1), .val (.int v1)] [] (none, [(11, s)]) (none, (none, [(11, o)])) := by
  intro n
  induction n with
  | zero => intro v1 s o hf; exact nomatch hf
  | succ n ih =>
    intro v1 s o hf
    unfold k_resetTable_2 at hf
    refine go_iloadN (pc := 2) d4_2 rfl (go_bipush (pc := 3) d4_3 cb_64 ?_)
    by_cases h1 : v1 < (64 : Int32)
    · replace hf := (if_pos h1).symm.trans hf
      refine go_icN (pc := 5) d4_5 (XT.ii_ge_f h1) ?_
      refine go_aloadN (pc := 8) d4_8 rfl (go_getA (pc := 9) fa_23 hm_4 d4_9 rfl (go_iloadN (pc := 12) d4_12 rfl (go_iconst (pc := 13) d4_13 ci_m1 ?_)))
      obtain ⟨a14, e2, hf⟩ := Option.bind_eq_some_iff.mp hf
      refine go_iastore (pc := 14) (q := 4) ar_4 rfl hn_4 e2 d4_14 ?_
      refine go_iinc (pc := 15) (L' := [.val (.ref 1), .val (.int (v1 + (1 : Int32)))]) d4_15 rfl ci_1 rfl (go_goto (pc := 18) (pc' := 2) d4_18 j_18_m16 ?_)
      exact ih (v1 + (1 : Int32)) (sA s 4 a14) _ hf
    · replace hf := (if_neg h1).symm.trans hf
      refine go_icY (pc := 5) (pc' := 21) d4_5 (XT.ii_ge_t h1) j_5_16 ?_
      exact k_resetTable_21_ok s (.val (.int v1)) (Or.inr ⟨_, rfl, rfl⟩) _ hf
set_option maxRecDepth 65536 in
set_option maxHeartbeats 4000000 in
theorem k_resetTable_ok  : ∀  (s : S)  (o : S), k_resetTable s = some o → Go PP m4 0 [.val (.ref 1), .unset] [] (none, [(11, s)]) (none, (none, [(11, o)])) := by
  intro s o hf
  unfold k_resetTable at hf
  refine go_iconst (pc := 0) d4_0 ci_0 (go_istoreN (pc := 1) (L' := [.val (.ref 1), .val (.int (0 : Int32))]) d4_1 rfl ?_)
  exact k_resetTable_2_ok BIG (0 : Int32) s _ hf
theorem c_k_resetTable (s : S) (o : S) (hf : k_resetTable s = some o) : Call PP m4 [.ref 1] (none, [(11, s)]) (none, (none, [(11, o)])) := call_of_go pl_0 rfl (fun _ => rfl) (k_resetTable_ok s   _ hf)
set_option maxRecDepth 65536 in
set_option maxHeartbeats 4000000 in
theorem k_resetScratch_49_ok  : ∀  (s : S) (x1 : Slot) (hx1 : k1 x1) (o : S), k_resetScratch_49 s = some o → Go PP m5 49 [.val (.ref 1), x1] [] (none, [(11, s)]) (none, (none, [(11, o)])) := by
  intro s x1 hx1 o hf
  unfold k_resetScratch_49 at hf
  refine go_aloadN (pc := 49) d5_49 rfl (go_iconst (pc := 50) d5_50 ci_0 (go_putI (pc := 51) fs_201 hm_5 (wr_7 _) hn_5 d5_51 ?_))
  cases hf
  exact go_ret (pc := 54) rfl d5_54
set_option maxRecDepth 65536 in
set_option maxHeartbeats 4000000 in
theorem k_resetScratch_2_ok  : ∀ (n : Nat) (v1 : Int32) (s : S)  (o : S), k_resetScratch_2 n v1 s = some o → Go PP m5 2 [.val (.ref 1), .val (.int v1)] [] (none, [(11, s)]) (none, (none, [(11, o)])) := by
  intro n
  induction n with
  | zero => intro v1 s o hf; exact nomatch hf
  | succ n ih =>
    intro v1 s o hf
    unfold k_resetScratch_2 at hf
    refine go_iloadN (pc := 2) d5_2 rfl (go_bipush (pc := 3) d5_3 cb_64 ?_)
    by_cases h1 : v1 < (64 : Int32)
    · replace hf := (if_pos h1).symm.trans hf
      refine go_icN (pc := 5) d5_5 (XT.ii_ge_f h1) ?_
      refine go_aloadN (pc := 8) d5_8 rfl (go_getA (pc := 9) fa_29 hm_5 d5_9 rfl (go_iloadN (pc := 12) d5_12 rfl (go_iconst (pc := 13) d5_13 ci_0 ?_)))
      obtain ⟨a14, e2, hf⟩ := Option.bind_eq_some_iff.mp hf
      refine go_bastore (pc := 14) (q := 6) ar_6 (by decide) rfl hn_5 (by decide) e2 d5_14 ?_
      refine go_aloadN (pc := 15) d5_15 rfl (go_getA (pc := 16) fa_32 hm_5 d5_16 rfl (go_iloadN (pc := 19) d5_19 rfl (go_iconst (pc := 20) d5_20 ci_0 ?_)))
      obtain ⟨a21, e3, hf⟩ := Option.bind_eq_some_iff.mp hf
      refine go_bastore (pc := 21) (q := 7) ar_7 (by decide) rfl hn_5 (by decide) e3 d5_21 ?_
      refine go_aloadN (pc := 22) d5_22 rfl (go_getA (pc := 23) fa_35 hm_5 d5_23 rfl (go_iloadN (pc := 26) d5_26 rfl (go_iconst (pc := 27) d5_27 ci_0 ?_)))
      obtain ⟨a28, e4, hf⟩ := Option.bind_eq_some_iff.mp hf
      refine go_bastore (pc := 28) (q := 8) ar_8 (by decide) rfl hn_5 (by decide) e4 d5_28 ?_
      refine go_aloadN (pc := 29) d5_29 rfl (go_getA (pc := 30) fa_38 hm_5 d5_30 rfl (go_iloadN (pc := 33) d5_33 rfl (go_iconst (pc := 34) d5_34 ci_0 ?_)))
      obtain ⟨a35, e5, hf⟩ := Option.bind_eq_some_iff.mp hf
      refine go_iastore (pc := 35) (q := 9) ar_9 rfl hn_5 e5 d5_35 ?_
      refine go_aloadN (pc := 36) d5_36 rfl (go_getA (pc := 37) fa_41 hm_5 d5_37 rfl (go_iloadN (pc := 40) d5_40 rfl (go_iconst (pc := 41) d5_41 ci_m1 ?_)))
      obtain ⟨a42, e6, hf⟩ := Option.bind_eq_some_iff.mp hf
      refine go_iastore (pc := 42) (q := 10) ar_10 rfl hn_5 e6 d5_42 ?_
      refine go_iinc (pc := 43) (L' := [.val (.ref 1), .val (.int (v1 + (1 : Int32)))]) d5_43 rfl ci_1 rfl (go_goto (pc := 46) (pc' := 2) d5_46 j_46_m44 ?_)
      exact ih (v1 + (1 : Int32)) (sA (sA (sA (sA (sA s 6 a14) 7 a21) 8 a28) 9 a35) 10 a42) _ hf
    · replace hf := (if_neg h1).symm.trans hf
      refine go_icY (pc := 5) (pc' := 49) d5_5 (XT.ii_ge_t h1) j_5_44 ?_
      exact k_resetScratch_49_ok s (.val (.int v1)) (Or.inr ⟨_, rfl, rfl⟩) _ hf
set_option maxRecDepth 65536 in
set_option maxHeartbeats 4000000 in
theorem k_resetScratch_ok  : ∀  (s : S)  (o : S), k_resetScratch s = some o → Go PP m5 0 [.val (.ref 1), .unset] [] (none, [(11, s)]) (none, (none, [(11, o)])) := by
  intro s o hf
  unfold k_resetScratch at hf
  refine go_iconst (pc := 0) d5_0 ci_0 (go_istoreN (pc := 1) (L' := [.val (.ref 1), .val (.int (0 : Int32))]) d5_1 rfl ?_)
  exact k_resetScratch_2_ok BIG (0 : Int32) s _ hf
theorem c_k_resetScratch (s : S) (o : S) (hf : k_resetScratch s = some o) : Call PP m5 [.ref 1] (none, [(11, s)]) (none, (none, [(11, o)])) := call_of_go pl_0 rfl (fun _ => rfl) (k_resetScratch_ok s   _ hf)
set_option maxRecDepth 65536 in
set_option maxHeartbeats 4000000 in
theorem k_init_ok  : ∀ (v1 : Int32) (v2 : Int32) (v3 : Int32) (v4 : Int32)   (o : S), k_init v1 v2 v3 v4 = some o → Go PP m6 0 [.val (.ref 1), .val (.int v1), .val (.int v2), .val (.int v3), .val (.int v4), .unset] [] (none, [(0, s0)]) (none, (none, [(11, o)])) := by
  intro v1 v2 v3 v4 o hf
  unfold k_init at hf
  refine go_aloadN (pc := 0) d6_0 rfl ?_
  refine go_objinit (pc := 1) (rest := []) (a := 0) (List.mem_of_getElem? (i := 6) rfl) (List.mem_of_getElem? (i := 7) rfl) (List.mem_of_getElem? (i := 8) rfl) rfl rfl d6_1 ?_
  refine go_aloadN (pc := 4) d6_4 rfl (go_bipush (pc := 5) d6_5 cb_64 ?_)
  refine go_newI (pc := 7) (ty := .boolean) rfl (by decide) ar_0 (List.mem_of_getElem? (i := 9) rfl) (List.mem_of_getElem? (i := 10) rfl) hm_6 (Or.inl (List.mem_of_getElem? (i := 11) rfl)) rfl hn_6 (by decide) rfl rfl rfl rfl d6_7 d6_9 ?_
  refine go_aloadN (pc := 12) d6_12 rfl (go_sipush (pc := 13) d6_13 cs_256 ?_)
  refine go_newI (pc := 16) (ty := .int) rfl (by decide) ar_1 (List.mem_of_getElem? (i := 12) rfl) (List.mem_of_getElem? (i := 13) rfl) hm_6 (Or.inl (List.mem_of_getElem? (i := 14) rfl)) rfl hn_6 (by decide) rfl rfl rfl rfl d6_16 d6_18 ?_
  refine go_aloadN (pc := 21) d6_21 rfl (go_bipush (pc := 22) d6_22 cb_64 ?_)
  refine go_newI (pc := 24) (ty := .int) rfl (by decide) ar_2 (List.mem_of_getElem? (i := 12) rfl) (List.mem_of_getElem? (i := 15) rfl) hm_6 (Or.inl (List.mem_of_getElem? (i := 16) rfl)) rfl hn_6 (by decide) rfl rfl rfl rfl d6_24 d6_26 ?_
  refine go_aloadN (pc := 29) d6_29 rfl (go_bipush (pc := 30) d6_30 cb_16 ?_)
  refine go_newI (pc := 32) (ty := .int) rfl (by decide) ar_3 (List.mem_of_getElem? (i := 12) rfl) (List.mem_of_getElem? (i := 17) rfl) hm_6 (Or.inl (List.mem_of_getElem? (i := 18) rfl)) rfl hn_6 (by decide) rfl rfl rfl rfl d6_32 d6_34 ?_
  refine go_aloadN (pc := 37) d6_37 rfl (go_bipush (pc := 38) d6_38 cb_64 ?_)
  refine go_newI (pc := 40) (ty := .int) rfl (by decide) ar_4 (List.mem_of_getElem? (i := 12) rfl) (List.mem_of_getElem? (i := 19) rfl) hm_6 (Or.inl (List.mem_of_getElem? (i := 20) rfl)) rfl hn_6 (by decide) rfl rfl rfl rfl d6_40 d6_42 ?_
  refine go_aloadN (pc := 45) d6_45 rfl (go_bipush (pc := 46) d6_46 cb_64 ?_)
  refine go_newI (pc := 48) (ty := .int) rfl (by decide) ar_5 (List.mem_of_getElem? (i := 12) rfl) (List.mem_of_getElem? (i := 21) rfl) hm_6 (Or.inl (List.mem_of_getElem? (i := 22) rfl)) rfl hn_6 (by decide) rfl rfl rfl rfl d6_48 d6_50 ?_
  refine go_aloadN (pc := 53) d6_53 rfl (go_bipush (pc := 54) d6_54 cb_64 ?_)
  refine go_newI (pc := 56) (ty := .boolean) rfl (by decide) ar_6 (List.mem_of_getElem? (i := 9) rfl) (List.mem_of_getElem? (i := 23) rfl) hm_6 (Or.inl (List.mem_of_getElem? (i := 24) rfl)) rfl hn_6 (by decide) rfl rfl rfl rfl d6_56 d6_58 ?_
  refine go_aloadN (pc := 61) d6_61 rfl (go_bipush (pc := 62) d6_62 cb_64 ?_)
  refine go_newI (pc := 64) (ty := .boolean) rfl (by decide) ar_7 (List.mem_of_getElem? (i := 9) rfl) (List.mem_of_getElem? (i := 25) rfl) hm_6 (Or.inl (List.mem_of_getElem? (i := 26) rfl)) rfl hn_6 (by decide) rfl rfl rfl rfl d6_64 d6_66 ?_
  refine go_aloadN (pc := 69) d6_69 rfl (go_bipush (pc := 70) d6_70 cb_64 ?_)
  refine go_newI (pc := 72) (ty := .boolean) rfl (by decide) ar_8 (List.mem_of_getElem? (i := 9) rfl) (List.mem_of_getElem? (i := 27) rfl) hm_6 (Or.inl (List.mem_of_getElem? (i := 28) rfl)) rfl hn_6 (by decide) rfl rfl rfl rfl d6_72 d6_74 ?_
  refine go_aloadN (pc := 77) d6_77 rfl (go_bipush (pc := 78) d6_78 cb_64 ?_)
  refine go_newI (pc := 80) (ty := .int) rfl (by decide) ar_9 (List.mem_of_getElem? (i := 12) rfl) (List.mem_of_getElem? (i := 29) rfl) hm_6 (Or.inl (List.mem_of_getElem? (i := 30) rfl)) rfl hn_6 (by decide) rfl rfl rfl rfl d6_80 d6_82 ?_
  refine go_aloadN (pc := 85) d6_85 rfl (go_bipush (pc := 86) d6_86 cb_64 ?_)
  refine go_newI (pc := 88) (ty := .int) rfl (by decide) ar_10 (List.mem_of_getElem? (i := 12) rfl) (List.mem_of_getElem? (i := 31) rfl) hm_6 (Or.inl (List.mem_of_getElem? (i := 32) rfl)) rfl hn_6 (by decide) rfl rfl rfl rfl d6_88 d6_90 ?_
  refine go_aloadN (pc := 93) d6_93 rfl (go_iloadN (pc := 94) d6_94 rfl (go_iconst (pc := 95) d6_95 ci_4 (go_bipush (pc := 96) d6_96 cb_64 ?_)))
  refine go_stat (pc := 98) (as := [.int v1, .int (4 : Int32), .int (64 : Int32)]) (rest := [.ref 1]) (w' := (none, [(11, sA (sA (sA (sA (sA (sA (sA (sA (sA (sA (sA s0 0 (rep 64 0)) 1 (rep 256 0)) 2 (rep 64 0)) 3 (rep 16 0)) 4 (rep 64 0)) 5 (rep 64 0)) 6 (rep 64 0)) 7 (rep 64 0)) 8 (rep 64 0)) 9 (rep 64 0)) 10 (rep 64 0))])) lk_0_44 pd_0 rfl rfl ⟨Nat.le_of_ble_eq_true rfl, Nat.le_of_ble_eq_true rfl⟩ ⟨rfl, rfl, rfl⟩ ⟨rfl, rfl, rfl, rfl, rfl⟩ d6_98 (c_k_clamp v1 (4 : Int32) (64 : Int32) (none, [(11, sA (sA (sA (sA (sA (sA (sA (sA (sA (sA (sA s0 0 (rep 64 0)) 1 (rep 256 0)) 2 (rep 64 0)) 3 (rep 16 0)) 4 (rep 64 0)) 5 (rep 64 0)) 6 (rep 64 0)) 7 (rep 64 0)) 8 (rep 64 0)) 9 (rep 64 0)) 10 (rep 64 0))])) ?_
  refine go_putI (pc := 101) fs_48 hm_6 (wr_0 _) hn_6 d6_101 (go_aloadN (pc := 104) d6_104 rfl (go_iloadN (pc := 105) d6_105 rfl (go_iconst (pc := 106) d6_106 ci_1 (go_iconst (pc := 107) d6_107 ci_4 ?_))))
  refine go_stat (pc := 108) (as := [.int v2, .int (1 : Int32), .int (4 : Int32)]) (rest := [.ref 1]) (w' := (none, [(11, sI (sA (sA (sA (sA (sA (sA (sA (sA (sA (sA (sA s0 0 (rep 64 0)) 1 (rep 256 0)) 2 (rep 64 0)) 3 (rep 16 0)) 4 (rep 64 0)) 5 (rep 64 0)) 6 (rep 64 0)) 7 (rep 64 0)) 8 (rep 64 0)) 9 (rep 64 0)) 10 (rep 64 0)) 0 (k_clamp v1 (4 : Int32) (64 : Int32)))])) lk_0_44 pd_0 rfl rfl ⟨Nat.le_of_ble_eq_true rfl, Nat.le_of_ble_eq_true rfl⟩ ⟨rfl, rfl, rfl⟩ ⟨rfl, rfl, rfl, rfl, rfl⟩ d6_108 (c_k_clamp v2 (1 : Int32) (4 : Int32) (none, [(11, sI (sA (sA (sA (sA (sA (sA (sA (sA (sA (sA (sA s0 0 (rep 64 0)) 1 (rep 256 0)) 2 (rep 64 0)) 3 (rep 16 0)) 4 (rep 64 0)) 5 (rep 64 0)) 6 (rep 64 0)) 7 (rep 64 0)) 8 (rep 64 0)) 9 (rep 64 0)) 10 (rep 64 0)) 0 (k_clamp v1 (4 : Int32) (64 : Int32)))])) ?_
  refine go_putI (pc := 111) fs_52 hm_6 (wr_1 _) hn_6 d6_111 (go_aloadN (pc := 114) d6_114 rfl (go_iloadN (pc := 115) d6_115 rfl (go_iconst (pc := 116) d6_116 ci_1 (go_bipush (pc := 117) d6_117 cb_16 ?_))))
  refine go_stat (pc := 119) (as := [.int v3, .int (1 : Int32), .int (16 : Int32)]) (rest := [.ref 1]) (w' := (none, [(11, sI (sI (sA (sA (sA (sA (sA (sA (sA (sA (sA (sA (sA s0 0 (rep 64 0)) 1 (rep 256 0)) 2 (rep 64 0)) 3 (rep 16 0)) 4 (rep 64 0)) 5 (rep 64 0)) 6 (rep 64 0)) 7 (rep 64 0)) 8 (rep 64 0)) 9 (rep 64 0)) 10 (rep 64 0)) 0 (k_clamp v1 (4 : Int32) (64 : Int32))) 1 (k_clamp v2 (1 : Int32) (4 : Int32)))])) lk_0_44 pd_0 rfl rfl ⟨Nat.le_of_ble_eq_true rfl, Nat.le_of_ble_eq_true rfl⟩ ⟨rfl, rfl, rfl⟩ ⟨rfl, rfl, rfl, rfl, rfl⟩ d6_119 (c_k_clamp v3 (1 : Int32) (16 : Int32) (none, [(11, sI (sI (sA (sA (sA (sA (sA (sA (sA (sA (sA (sA (sA s0 0 (rep 64 0)) 1 (rep 256 0)) 2 (rep 64 0)) 3 (rep 16 0)) 4 (rep 64 0)) 5 (rep 64 0)) 6 (rep 64 0)) 7 (rep 64 0)) 8 (rep 64 0)) 9 (rep 64 0)) 10 (rep 64 0)) 0 (k_clamp v1 (4 : Int32) (64 : Int32))) 1 (k_clamp v2 (1 : Int32) (4 : Int32)))])) ?_
  refine go_putI (pc := 122) fs_55 hm_6 (wr_2 _) hn_6 d6_122 (go_aloadN (pc := 125) d6_125 rfl (go_getI (pc := 126) fs_55 hm_6 d6_126 (go_iconst (pc := 129) d6_129 ci_1 (go_iadd (pc := 130) d6_130 (go_istore (pc := 131) (L' := [.val (.ref 1), .val (.int v1), .val (.int v2), .val (.int v3), .val (.int v4), .val (.int ((k_clamp v3 (1 : Int32) (16 : Int32)) + (1 : Int32)))]) d6_131 rfl (go_aloadN (pc := 133) d6_133 rfl (go_iload (pc := 134) d6_134 rfl ?_)))))))
  refine go_iload (pc := 136) d6_136 rfl (go_bipush (pc := 138) d6_138 cb_64 ?_)
  refine go_stat (pc := 140) (as := [.int v4, .int ((k_clamp v3 (1 : Int32) (16 : Int32)) + (1 : Int32)), .int (64 : Int32)]) (rest := [.ref 1]) (w' := (none, [(11, sI (sI (sI (sA (sA (sA (sA (sA (sA (sA (sA (sA (sA (sA s0 0 (rep 64 0)) 1 (rep 256 0)) 2 (rep 64 0)) 3 (rep 16 0)) 4 (rep 64 0)) 5 (rep 64 0)) 6 (rep 64 0)) 7 (rep 64 0)) 8 (rep 64 0)) 9 (rep 64 0)) 10 (rep 64 0)) 0 (k_clamp v1 (4 : Int32) (64 : Int32))) 1 (k_clamp v2 (1 : Int32) (4 : Int32))) 2 (k_clamp v3 (1 : Int32) (16 : Int32)))])) lk_0_44 pd_0 rfl rfl ⟨Nat.le_of_ble_eq_true rfl, Nat.le_of_ble_eq_true rfl⟩ ⟨rfl, rfl, rfl⟩ ⟨rfl, rfl, rfl, rfl, rfl⟩ d6_140 (c_k_clamp v4 ((k_clamp v3 (1 : Int32) (16 : Int32)) + (1 : Int32)) (64 : Int32) (none, [(11, sI (sI (sI (sA (sA (sA (sA (sA (sA (sA (sA (sA (sA (sA s0 0 (rep 64 0)) 1 (rep 256 0)) 2 (rep 64 0)) 3 (rep 16 0)) 4 (rep 64 0)) 5 (rep 64 0)) 6 (rep 64 0)) 7 (rep 64 0)) 8 (rep 64 0)) 9 (rep 64 0)) 10 (rep 64 0)) 0 (k_clamp v1 (4 : Int32) (64 : Int32))) 1 (k_clamp v2 (1 : Int32) (4 : Int32))) 2 (k_clamp v3 (1 : Int32) (16 : Int32)))])) ?_
  refine go_putI (pc := 143) fs_58 hm_6 (wr_3 _) hn_6 d6_143 (go_aloadN (pc := 146) d6_146 rfl ?_)
  obtain ⟨r147, e12, hf⟩ := Option.bind_eq_some_iff.mp hf
  refine go_priv (pc := 147) (i := 0) (as := []) (rest := []) (w' := (none, [(11, r147)])) lk_0_61 pd_2 rfl oid_0 rfl rfl rfl rfl rfl rfl ⟨rfl, rfl, rfl, rfl, rfl⟩ d6_147 (c_k_resetHeap (sI (sI (sI (sI (sA (sA (sA (sA (sA (sA (sA (sA (sA (sA (sA s0 0 (rep 64 0)) 1 (rep 256 0)) 2 (rep 64 0)) 3 (rep 16 0)) 4 (rep 64 0)) 5 (rep 64 0)) 6 (rep 64 0)) 7 (rep 64 0)) 8 (rep 64 0)) 9 (rep 64 0)) 10 (rep 64 0)) 0 (k_clamp v1 (4 : Int32) (64 : Int32))) 1 (k_clamp v2 (1 : Int32) (4 : Int32))) 2 (k_clamp v3 (1 : Int32) (16 : Int32))) 3 (k_clamp v4 ((k_clamp v3 (1 : Int32) (16 : Int32)) + (1 : Int32)) (64 : Int32))) _ e12) ?_
  refine go_aloadN (pc := 150) d6_150 rfl ?_
  obtain ⟨r151, e13, hf⟩ := Option.bind_eq_some_iff.mp hf
  refine go_priv (pc := 151) (i := 0) (as := []) (rest := []) (w' := (none, [(11, r151)])) lk_0_64 pd_3 rfl oid_0 rfl rfl rfl rfl rfl rfl ⟨rfl, rfl, rfl, rfl, rfl⟩ d6_151 (c_k_resetRoots r147 _ e13) ?_
  refine go_aloadN (pc := 154) d6_154 rfl ?_
  obtain ⟨r155, e14, hf⟩ := Option.bind_eq_some_iff.mp hf
  refine go_priv (pc := 155) (i := 0) (as := []) (rest := []) (w' := (none, [(11, r155)])) lk_0_67 pd_4 rfl oid_0 rfl rfl rfl rfl rfl rfl ⟨rfl, rfl, rfl, rfl, rfl⟩ d6_155 (c_k_resetTable r151 _ e14) ?_
  refine go_aloadN (pc := 158) d6_158 rfl ?_
  obtain ⟨r159, e15, hf⟩ := Option.bind_eq_some_iff.mp hf
  refine go_priv (pc := 159) (i := 0) (as := []) (rest := []) (w' := (none, [(11, r159)])) lk_0_70 pd_5 rfl oid_0 rfl rfl rfl rfl rfl rfl ⟨rfl, rfl, rfl, rfl, rfl⟩ d6_159 (c_k_resetScratch r155 _ e15) ?_
  refine go_aloadN (pc := 162) d6_162 rfl (go_iconst (pc := 163) d6_163 ci_0 (go_putI (pc := 164) fs_73 hm_6 (wr_8 _) hn_6 d6_164 ?_))
  cases hf
  exact go_ret (pc := 167) rfl d6_167
theorem c_k_init (v1 : Int32) (v2 : Int32) (v3 : Int32) (v4 : Int32) (o : S) (hf : k_init v1 v2 v3 v4 = some o) : Call PP m6 [.ref 1, .int v1, .int v2, .int v3, .int v4] (none, [(0, s0)]) (none, (none, [(11, o)])) := call_of_go pl_0 rfl (fun _ => rfl) (k_init_ok v1 v2 v3 v4   _ hf)
set_option maxRecDepth 65536 in
set_option maxHeartbeats 4000000 in
theorem k_rootsFull_ok  : ∀  (s : S)  (o : Int32), k_rootsFull s = o → Go PP m7 0 [.val (.ref 1)] [] (none, [(11, s)]) (some (.int o), (none, [(11, s)])) := by
  intro s o hf
  unfold k_rootsFull at hf
  refine go_aloadN (pc := 0) d7_0 rfl (go_getI (pc := 1) fs_125 hm_7 d7_1 (go_aloadN (pc := 4) d7_4 rfl (go_getI (pc := 5) fs_55 hm_7 d7_5 ?_)))
  by_cases h1 : (gI s 5) < (gI s 2)
  · replace hf := (if_pos h1).symm.trans hf
    refine go_icY (pc := 8) (pc' := 15) d7_8 (XT.ii_lt_t h1) j_8_7 ?_
    refine go_iconst (pc := 15) d7_15 ci_0 ?_
    cases hf
    exact go_zret (pc := 16) rfl d7_16 (show (0 : Int32) = nar .boolean (0 : Int32) by decide)
  · replace hf := (if_neg h1).symm.trans hf
    refine go_icN (pc := 8) d7_8 (XT.ii_lt_f h1) ?_
    refine go_iconst (pc := 11) d7_11 ci_1 (go_goto (pc := 12) (pc' := 16) d7_12 j_12_4 ?_)
    cases hf
    exact go_zret (pc := 16) rfl d7_16 (show (1 : Int32) = nar .boolean (1 : Int32) by decide)
theorem c_k_rootsFull (s : S) : Call PP m7 [.ref 1] (none, [(11, s)]) (some (.int (k_rootsFull s)), (none, [(11, s)])) := call_of_go pl_0 rfl (fun h => nomatch h) (k_rootsFull_ok s   _ rfl)
set_option maxRecDepth 65536 in
set_option maxHeartbeats 4000000 in
theorem k_hasFreeCell_ok  : ∀  (s : S)  (o : Int32), k_hasFreeCell s = o → Go PP m8 0 [.val (.ref 1)] [] (none, [(11, s)]) (some (.int o), (none, [(11, s)])) := by
  intro s o hf
  unfold k_hasFreeCell at hf
  refine go_aloadN (pc := 0) d8_0 rfl (go_getI (pc := 1) fs_147 hm_8 d8_1 (go_aloadN (pc := 4) d8_4 rfl (go_getI (pc := 5) fs_48 hm_8 d8_5 ?_)))
  by_cases h1 : (gI s 4) < (gI s 0)
  · replace hf := (if_pos h1).symm.trans hf
    refine go_icN (pc := 8) d8_8 (XT.ii_ge_f h1) ?_
    refine go_iconst (pc := 11) d8_11 ci_1 (go_goto (pc := 12) (pc' := 16) d8_12 j_12_4 ?_)
    cases hf
    exact go_zret (pc := 16) rfl d8_16 (show (1 : Int32) = nar .boolean (1 : Int32) by decide)
  · replace hf := (if_neg h1).symm.trans hf
    refine go_icY (pc := 8) (pc' := 15) d8_8 (XT.ii_ge_t h1) j_8_7 ?_
    refine go_iconst (pc := 15) d8_15 ci_0 ?_
    cases hf
    exact go_zret (pc := 16) rfl d8_16 (show (0 : Int32) = nar .boolean (0 : Int32) by decide)
theorem c_k_hasFreeCell (s : S) : Call PP m8 [.ref 1] (none, [(11, s)]) (some (.int (k_hasFreeCell s)), (none, [(11, s)])) := call_of_go pl_0 rfl (fun h => nomatch h) (k_hasFreeCell_ok s   _ rfl)
set_option maxRecDepth 65536 in
set_option maxHeartbeats 4000000 in
theorem k_tableIsFull_ok  : ∀  (s : S)  (o : Int32), k_tableIsFull s = o → Go PP m9 0 [.val (.ref 1)] [] (none, [(11, s)]) (some (.int o), (none, [(11, s)])) := by
  intro s o hf
  unfold k_tableIsFull at hf
  refine go_aloadN (pc := 0) d9_0 rfl (go_getI (pc := 1) fs_144 hm_9 d9_1 (go_aloadN (pc := 4) d9_4 rfl (go_getI (pc := 5) fs_58 hm_9 d9_5 ?_)))
  by_cases h1 : (gI s 6) < (gI s 3)
  · replace hf := (if_pos h1).symm.trans hf
    refine go_icY (pc := 8) (pc' := 15) d9_8 (XT.ii_lt_t h1) j_8_7 ?_
    refine go_iconst (pc := 15) d9_15 ci_0 ?_
    cases hf
    exact go_zret (pc := 16) rfl d9_16 (show (0 : Int32) = nar .boolean (0 : Int32) by decide)
  · replace hf := (if_neg h1).symm.trans hf
    refine go_icN (pc := 8) d9_8 (XT.ii_lt_f h1) ?_
    refine go_iconst (pc := 11) d9_11 ci_1 (go_goto (pc := 12) (pc' := 16) d9_12 j_12_4 ?_)
    cases hf
    exact go_zret (pc := 16) rfl d9_16 (show (1 : Int32) = nar .boolean (1 : Int32) by decide)
theorem c_k_tableIsFull (s : S) : Call PP m9 [.ref 1] (none, [(11, s)]) (some (.int (k_tableIsFull s)), (none, [(11, s)])) := call_of_go pl_0 rfl (fun h => nomatch h) (k_tableIsFull_ok s   _ rfl)
set_option maxRecDepth 65536 in
set_option maxHeartbeats 4000000 in
theorem k_allocNeedsReconcile_ok  : ∀  (s : S)  (o : Int32), k_allocNeedsReconcile s = o → Go PP m10 0 [.val (.ref 1)] [] (none, [(11, s)]) (some (.int o), (none, [(11, s)])) := by
  intro s o hf
  unfold k_allocNeedsReconcile at hf
  refine go_aloadN (pc := 0) d10_0 rfl ?_
  refine go_priv (pc := 1) (i := 0) (as := []) (rest := []) (w' := (none, [(11, s)])) lk_0_153 pd_8 rfl oid_0 rfl rfl rfl rfl rfl rfl ⟨rfl, rfl, rfl, rfl, rfl⟩ d10_1 (c_k_hasFreeCell s) ?_
  by_cases h1 : (k_hasFreeCell s) = 0
  · replace hf := (if_pos h1).symm.trans hf
    refine go_ifN (pc := 4) d10_4 (XT.i0_ne_f h1) ?_
    refine go_iconst (pc := 7) d10_7 ci_1 ?_
    cases hf
    exact go_zret (pc := 8) rfl d10_8 (show (1 : Int32) = nar .boolean (1 : Int32) by decide)
  · replace hf := (if_neg h1).symm.trans hf
    refine go_ifY (pc := 4) (pc' := 9) d10_4 (XT.i0_ne_t h1) j_4_5 ?_
    refine go_aloadN (pc := 9) d10_9 rfl ?_
    refine go_priv (pc := 10) (i := 0) (as := []) (rest := []) (w' := (none, [(11, s)])) lk_0_156 pd_9 rfl oid_0 rfl rfl rfl rfl rfl rfl ⟨rfl, rfl, rfl, rfl, rfl⟩ d10_10 (c_k_tableIsFull s) ?_
    cases hf
    exact go_zret (pc := 13) rfl d10_13 rfl
theorem c_k_allocNeedsReconcile (s : S) : Call PP m10 [.ref 1] (none, [(11, s)]) (some (.int (k_allocNeedsReconcile s)), (none, [(11, s)])) := call_of_go pl_0 rfl (fun h => nomatch h) (k_allocNeedsReconcile_ok s   _ rfl)
set_option maxRecDepth 65536 in
set_option maxHeartbeats 4000000 in
theorem k_lowestFreeCell_2_ok  : ∀ (n : Nat) (v1 : Int32) (s : S)  (o : Int32), k_lowestFreeCell_2 n v1 s = some o → Go PP m11 2 [.val (.ref 1), .val (.int v1)] [] (none, [(11, s)]) (some (.int o), (none, [(11, s)])) := by
  intro n
  induction n with
  | zero => intro v1 s o hf; exact nomatch hf
  | succ n ih =>
    intro v1 s o hf
    unfold k_lowestFreeCell_2 at hf
    refine go_iloadN (pc := 2) d11_2 rfl (go_aloadN (pc := 3) d11_3 rfl (go_getI (pc := 4) fs_48 hm_11 d11_4 ?_))
    by_cases h1 : v1 < (gI s 0)
    · replace hf := (if_pos h1).symm.trans hf
      refine go_icN (pc := 7) d11_7 (XT.ii_ge_f h1) ?_
      refine go_aloadN (pc := 10) d11_10 rfl (go_getA (pc := 11) fa_7 hm_11 d11_11 rfl (go_iloadN (pc := 14) d11_14 rfl ?_))
      obtain ⟨a15, e2, hf⟩ := Option.bind_eq_some_iff.mp hf
      refine go_baload (pc := 15) (q := 0) ar_0 (by decide) rfl e2 d11_15 ?_
      by_cases h3 : a15 = 0
      · replace hf := (if_pos h3).symm.trans hf
        refine go_ifN (pc := 16) d11_16 (XT.i0_ne_f h3) ?_
        refine go_iloadN (pc := 19) d11_19 rfl ?_
        cases hf
        exact go_iret (pc := 20) rfl d11_20
      · replace hf := (if_neg h3).symm.trans hf
        refine go_ifY (pc := 16) (pc' := 21) d11_16 (XT.i0_ne_t h3) j_16_5 ?_
        refine go_iinc (pc := 21) (L' := [.val (.ref 1), .val (.int (v1 + (1 : Int32)))]) d11_21 rfl ci_1 rfl (go_goto (pc := 24) (pc' := 2) d11_24 j_24_m22 ?_)
        exact ih (v1 + (1 : Int32)) s _ hf
    · replace hf := (if_neg h1).symm.trans hf
      refine go_icY (pc := 7) (pc' := 27) d11_7 (XT.ii_ge_t h1) j_7_20 ?_
      refine go_iconst (pc := 27) d11_27 ci_m1 ?_
      cases hf
      exact go_iret (pc := 28) rfl d11_28
set_option maxRecDepth 65536 in
set_option maxHeartbeats 4000000 in
theorem k_lowestFreeCell_ok  : ∀  (s : S)  (o : Int32), k_lowestFreeCell s = some o → Go PP m11 0 [.val (.ref 1), .unset] [] (none, [(11, s)]) (some (.int o), (none, [(11, s)])) := by
  intro s o hf
  unfold k_lowestFreeCell at hf
  refine go_iconst (pc := 0) d11_0 ci_0 (go_istoreN (pc := 1) (L' := [.val (.ref 1), .val (.int (0 : Int32))]) d11_1 rfl ?_)
  exact k_lowestFreeCell_2_ok BIG (0 : Int32) s _ hf
theorem c_k_lowestFreeCell (s : S) (o : Int32) (hf : k_lowestFreeCell s = some o) : Call PP m11 [.ref 1] (none, [(11, s)]) (some (.int o), (none, [(11, s)])) := call_of_go pl_0 rfl (fun h => nomatch h) (k_lowestFreeCell_ok s   _ hf)
set_option maxRecDepth 65536 in
set_option maxHeartbeats 4000000 in
theorem k_isObjectId_ok  : ∀ (v1 : Int32) (s : S)  (o : Int32), k_isObjectId v1 s = o → Go PP m12 0 [.val (.ref 1), .val (.int v1)] [] (none, [(11, s)]) (some (.int o), (none, [(11, s)])) := by
  intro v1 s o hf
  unfold k_isObjectId at hf
  refine go_iloadN (pc := 0) d12_0 rfl ?_
  by_cases h1 : v1 < 0
  · replace hf := (if_pos h1).symm.trans hf
    refine go_ifY (pc := 1) (pc' := 16) d12_1 (XT.i0_lt_t h1) j_1_15 ?_
    refine go_iconst (pc := 16) d12_16 ci_0 ?_
    cases hf
    exact go_zret (pc := 17) rfl d12_17 (show (0 : Int32) = nar .boolean (0 : Int32) by decide)
  · replace hf := (if_neg h1).symm.trans hf
    refine go_ifN (pc := 1) d12_1 (XT.i0_lt_f h1) ?_
    refine go_iloadN (pc := 4) d12_4 rfl (go_aloadN (pc := 5) d12_5 rfl (go_getI (pc := 6) fs_48 hm_12 d12_6 ?_))
    by_cases h2 : v1 < (gI s 0)
    · replace hf := (if_pos h2).symm.trans hf
      refine go_icN (pc := 9) d12_9 (XT.ii_ge_f h2) ?_
      refine go_iconst (pc := 12) d12_12 ci_1 (go_goto (pc := 13) (pc' := 17) d12_13 j_13_4 ?_)
      cases hf
      exact go_zret (pc := 17) rfl d12_17 (show (1 : Int32) = nar .boolean (1 : Int32) by decide)
    · replace hf := (if_neg h2).symm.trans hf
      refine go_icY (pc := 9) (pc' := 16) d12_9 (XT.ii_ge_t h2) j_9_7 ?_
      refine go_iconst (pc := 16) d12_16 ci_0 ?_
      cases hf
      exact go_zret (pc := 17) rfl d12_17 (show (0 : Int32) = nar .boolean (0 : Int32) by decide)
theorem c_k_isObjectId (v1 : Int32) (s : S) : Call PP m12 [.ref 1, .int v1] (none, [(11, s)]) (some (.int (k_isObjectId v1 s)), (none, [(11, s)])) := call_of_go pl_0 rfl (fun h => nomatch h) (k_isObjectId_ok v1 s   _ rfl)
set_option maxRecDepth 65536 in
set_option maxHeartbeats 4000000 in
theorem k_bringToLife_ok  : ∀ (v1 : Int32) (s : S)  (o : S), k_bringToLife v1 s = some o → Go PP m13 0 [.val (.ref 1), .val (.int v1)] [] (none, [(11, s)]) (none, (none, [(11, o)])) := by
  intro v1 s o hf
  unfold k_bringToLife at hf
  refine go_aloadN (pc := 0) d13_0 rfl (go_iloadN (pc := 1) d13_1 rfl ?_)
  refine go_priv (pc := 2) (i := 0) (as := [.int v1]) (rest := []) (w' := (none, [(11, s)])) lk_0_165 pd_12 rfl oid_0 rfl rfl rfl rfl rfl rfl ⟨rfl, rfl, rfl, rfl, rfl⟩ d13_2 (c_k_isObjectId v1 s) ?_
  by_cases h1 : (k_isObjectId v1 s) = 0
  · replace hf := (if_pos h1).symm.trans hf
    refine go_ifN (pc := 5) d13_5 (XT.i0_ne_f h1) ?_
    cases hf
    exact go_ret (pc := 8) rfl d13_8
  · replace hf := (if_neg h1).symm.trans hf
    refine go_ifY (pc := 5) (pc' := 9) d13_5 (XT.i0_ne_t h1) j_5_4 ?_
    refine go_aloadN (pc := 9) d13_9 rfl (go_getA (pc := 10) fa_7 hm_13 d13_10 rfl (go_iloadN (pc := 13) d13_13 rfl ?_))
    obtain ⟨a14, e2, hf⟩ := Option.bind_eq_some_iff.mp hf
    refine go_baload (pc := 14) (q := 0) ar_0 (by decide) rfl e2 d13_14 ?_
    by_cases h3 : a14 = 0
    · replace hf := (if_pos h3).symm.trans hf
      refine go_ifY (pc := 15) (pc' := 19) d13_15 (XT.i0_eq_t h3) j_15_4 ?_
      refine go_aloadN (pc := 19) d13_19 rfl (go_getA (pc := 20) fa_7 hm_13 d13_20 rfl (go_iloadN (pc := 23) d13_23 rfl (go_iconst (pc := 24) d13_24 ci_1 ?_)))
      obtain ⟨a25, e4, hf⟩ := Option.bind_eq_some_iff.mp hf
      refine go_bastore (pc := 25) (q := 0) ar_0 (by decide) rfl hn_13 (by decide) e4 d13_25 ?_
      refine go_aloadN (pc := 26) d13_26 rfl (go_iloadN (pc := 27) d13_27 rfl ?_)
      obtain ⟨r28, e5, hf⟩ := Option.bind_eq_some_iff.mp hf
      refine go_priv (pc := 28) (i := 0) (as := [.int v1]) (rest := []) (w' := (none, [(11, r28)])) lk_0_219 pd_1 rfl oid_0 rfl rfl rfl rfl rfl rfl ⟨rfl, rfl, rfl, rfl, rfl⟩ d13_28 (c_k_clearCellFields v1 (sA s 0 a25) _ e5) ?_
      refine go_aloadN (pc := 31) d13_31 rfl (go_getA (pc := 32) fa_17 hm_13 d13_32 rfl (go_iloadN (pc := 35) d13_35 rfl (go_iconst (pc := 36) d13_36 ci_0 ?_)))
      obtain ⟨a37, e6, hf⟩ := Option.bind_eq_some_iff.mp hf
      refine go_iastore (pc := 37) (q := 2) ar_2 rfl hn_13 e6 d13_37 ?_
      refine go_aloadN (pc := 38) d13_38 rfl (go_aloadN (pc := 39) d13_39 rfl (go_getI (pc := 40) fs_147 hm_13 d13_40 (go_iconst (pc := 43) d13_43 ci_1 (go_iadd (pc := 44) d13_44 (go_putI (pc := 45) fs_147 hm_13 (wr_4 _) hn_13 d13_45 ?_)))))
      cases hf
      exact go_ret (pc := 48) rfl d13_48
    · replace hf := (if_neg h3).symm.trans hf
      refine go_ifN (pc := 15) d13_15 (XT.i0_eq_f h3) ?_
      cases hf
      exact go_ret (pc := 18) rfl d13_18
theorem c_k_bringToLife (v1 : Int32) (s : S) (o : S) (hf : k_bringToLife v1 s = some o) : Call PP m13 [.ref 1, .int v1] (none, [(11, s)]) (none, (none, [(11, o)])) := call_of_go pl_0 rfl (fun _ => rfl) (k_bringToLife_ok v1 s   _ hf)
set_option maxRecDepth 65536 in
set_option maxHeartbeats 4000000 in
theorem k_tableInsert_ok  : ∀ (v1 : Int32) (s : S)  (o : Int32 × S), k_tableInsert v1 s = some o → Go PP m14 0 [.val (.ref 1), .val (.int v1)] [] (none, [(11, s)]) (some (.int o.1), (none, [(11, o.2)])) := by
  intro v1 s o hf
  unfold k_tableInsert at hf
  refine go_aloadN (pc := 0) d14_0 rfl (go_iloadN (pc := 1) d14_1 rfl ?_)
  refine go_priv (pc := 2) (i := 0) (as := [.int v1]) (rest := []) (w' := (none, [(11, s)])) lk_0_165 pd_12 rfl oid_0 rfl rfl rfl rfl rfl rfl ⟨rfl, rfl, rfl, rfl, rfl⟩ d14_2 (c_k_isObjectId v1 s) ?_
  by_cases h1 : (k_isObjectId v1 s) = 0
  · replace hf := (if_pos h1).symm.trans hf
    refine go_ifN (pc := 5) d14_5 (XT.i0_ne_f h1) ?_
    refine go_iconst (pc := 8) d14_8 ci_0 ?_
    cases hf
    exact go_zret (pc := 9) rfl d14_9 (show (0 : Int32) = nar .boolean (0 : Int32) by decide)
  · replace hf := (if_neg h1).symm.trans hf
    refine go_ifY (pc := 5) (pc' := 10) d14_5 (XT.i0_ne_t h1) j_5_5 ?_
    refine go_aloadN (pc := 10) d14_10 rfl (go_getA (pc := 11) fa_26 hm_14 d14_11 rfl (go_iloadN (pc := 14) d14_14 rfl ?_))
    obtain ⟨a15, e2, hf⟩ := Option.bind_eq_some_iff.mp hf
    refine go_iaload (pc := 15) (q := 5) ar_5 rfl e2 d14_15 ?_
    refine go_iconst (pc := 16) d14_16 ci_m1 ?_
    by_cases h3 : a15 = (-1 : Int32)
    · replace hf := (if_pos h3).symm.trans hf
      refine go_icY (pc := 17) (pc' := 22) d14_17 (XT.ii_eq_t h3) j_17_5 ?_
      refine go_aloadN (pc := 22) d14_22 rfl (go_getI (pc := 23) fs_144 hm_14 d14_23 (go_aloadN (pc := 26) d14_26 rfl (go_getI (pc := 27) fs_58 hm_14 d14_27 ?_)))
      by_cases h4 : (gI s 6) < (gI s 3)
      · replace hf := (if_pos h4).symm.trans hf
        refine go_icN (pc := 30) d14_30 (XT.ii_ge_f h4) ?_
        refine go_aloadN (pc := 33) d14_33 rfl (go_getI (pc := 34) fs_144 hm_14 d14_34 (go_bipush (pc := 37) d14_37 cb_64 ?_))
        by_cases h5 : (gI s 6) < (64 : Int32)
        · replace hf := (if_pos h5).symm.trans hf
          refine go_icY (pc := 39) (pc' := 44) d14_39 (XT.ii_lt_t h5) j_39_5 ?_
          refine go_aloadN (pc := 44) d14_44 rfl (go_getA (pc := 45) fa_23 hm_14 d14_45 rfl (go_aloadN (pc := 48) d14_48 rfl (go_getI (pc := 49) fs_144 hm_14 d14_49 (go_iloadN (pc := 52) d14_52 rfl ?_))))
          obtain ⟨a53, e6, hf⟩ := Option.bind_eq_some_iff.mp hf
          refine go_iastore (pc := 53) (q := 4) ar_4 rfl hn_14 e6 d14_53 ?_
          refine go_aloadN (pc := 54) d14_54 rfl (go_getA (pc := 55) fa_26 hm_14 d14_55 rfl (go_iloadN (pc := 58) d14_58 rfl (go_aloadN (pc := 59) d14_59 rfl (go_getI (pc := 60) fs_144 hm_14 d14_60 ?_))))
          obtain ⟨a63, e7, hf⟩ := Option.bind_eq_some_iff.mp hf
          refine go_iastore (pc := 63) (q := 5) ar_5 rfl hn_14 e7 d14_63 ?_
          refine go_aloadN (pc := 64) d14_64 rfl (go_aloadN (pc := 65) d14_65 rfl (go_getI (pc := 66) fs_144 hm_14 d14_66 (go_iconst (pc := 69) d14_69 ci_1 (go_iadd (pc := 70) d14_70 (go_putI (pc := 71) fs_144 hm_14 (wr_6 _) hn_14 d14_71 (go_iconst (pc := 74) d14_74 ci_1 ?_))))))
          cases hf
          exact go_zret (pc := 75) rfl d14_75 (show (1 : Int32) = nar .boolean (1 : Int32) by decide)
        · replace hf := (if_neg h5).symm.trans hf
          refine go_icN (pc := 39) d14_39 (XT.ii_lt_f h5) ?_
          refine go_iconst (pc := 42) d14_42 ci_0 ?_
          cases hf
          exact go_zret (pc := 43) rfl d14_43 (show (0 : Int32) = nar .boolean (0 : Int32) by decide)
      · replace hf := (if_neg h4).symm.trans hf
        refine go_icY (pc := 30) (pc' := 42) d14_30 (XT.ii_ge_t h4) j_30_12 ?_
        refine go_iconst (pc := 42) d14_42 ci_0 ?_
        cases hf
        exact go_zret (pc := 43) rfl d14_43 (show (0 : Int32) = nar .boolean (0 : Int32) by decide)
    · replace hf := (if_neg h3).symm.trans hf
      refine go_icN (pc := 17) d14_17 (XT.ii_eq_f h3) ?_
      refine go_iconst (pc := 20) d14_20 ci_0 ?_
      cases hf
      exact go_zret (pc := 21) rfl d14_21 (show (0 : Int32) = nar .boolean (0 : Int32) by decide)
theorem c_k_tableInsert (v1 : Int32) (s : S) (o : Int32 × S) (hf : k_tableInsert v1 s = some o) : Call PP m14 [.ref 1, .int v1] (none, [(11, s)]) (some (.int o.1), (none, [(11, o.2)])) := call_of_go pl_0 rfl (fun h => nomatch h) (k_tableInsert_ok v1 s   _ hf)
set_option maxRecDepth 65536 in
set_option maxHeartbeats 4000000 in
theorem k_rootPush_ok  : ∀ (v1 : Int32) (s : S)  (o : S), k_rootPush v1 s = some o → Go PP m15 0 [.val (.ref 1), .val (.int v1)] [] (none, [(11, s)]) (none, (none, [(11, o)])) := by
  intro v1 s o hf
  unfold k_rootPush at hf
  refine go_aloadN (pc := 0) d15_0 rfl (go_getI (pc := 1) fs_125 hm_15 d15_1 (go_aloadN (pc := 4) d15_4 rfl (go_getI (pc := 5) fs_55 hm_15 d15_5 ?_)))
  by_cases h1 : (gI s 5) < (gI s 2)
  · replace hf := (if_pos h1).symm.trans hf
    refine go_icN (pc := 8) d15_8 (XT.ii_ge_f h1) ?_
    refine go_aloadN (pc := 11) d15_11 rfl (go_getI (pc := 12) fs_125 hm_15 d15_12 (go_bipush (pc := 15) d15_15 cb_16 ?_))
    by_cases h2 : (gI s 5) < (16 : Int32)
    · replace hf := (if_pos h2).symm.trans hf
      refine go_icY (pc := 17) (pc' := 21) d15_17 (XT.ii_lt_t h2) j_17_4 ?_
      refine go_aloadN (pc := 21) d15_21 rfl (go_getA (pc := 22) fa_20 hm_15 d15_22 rfl (go_aloadN (pc := 25) d15_25 rfl (go_getI (pc := 26) fs_125 hm_15 d15_26 (go_iloadN (pc := 29) d15_29 rfl ?_))))
      obtain ⟨a30, e3, hf⟩ := Option.bind_eq_some_iff.mp hf
      refine go_iastore (pc := 30) (q := 3) ar_3 rfl hn_15 e3 d15_30 ?_
      refine go_aloadN (pc := 31) d15_31 rfl (go_aloadN (pc := 32) d15_32 rfl (go_getI (pc := 33) fs_125 hm_15 d15_33 (go_iconst (pc := 36) d15_36 ci_1 (go_iadd (pc := 37) d15_37 (go_putI (pc := 38) fs_125 hm_15 (wr_5 _) hn_15 d15_38 ?_)))))
      cases hf
      exact go_ret (pc := 41) rfl d15_41
    · replace hf := (if_neg h2).symm.trans hf
      refine go_icN (pc := 17) d15_17 (XT.ii_lt_f h2) ?_
      cases hf
      exact go_ret (pc := 20) rfl d15_20
  · replace hf := (if_neg h1).symm.trans hf
    refine go_icY (pc := 8) (pc' := 20) d15_8 (XT.ii_ge_t h1) j_8_12 ?_
    cases hf
    exact go_ret (pc := 20) rfl d15_20
theorem c_k_rootPush (v1 : Int32) (s : S) (o : S) (hf : k_rootPush v1 s = some o) : Call PP m15 [.ref 1, .int v1] (none, [(11, s)]) (none, (none, [(11, o)])) := call_of_go pl_0 rfl (fun _ => rfl) (k_rootPush_ok v1 s   _ hf)
set_option maxRecDepth 65536 in
set_option maxHeartbeats 4000000 in
theorem k_placeNewObject_ok  : ∀ (v1 : Int32) (s : S)  (o : S), k_placeNewObject v1 s = some o → Go PP m16 0 [.val (.ref 1), .val (.int v1)] [] (none, [(11, s)]) (none, (none, [(11, o)])) := by
  intro v1 s o hf
  unfold k_placeNewObject at hf
  refine go_aloadN (pc := 0) d16_0 rfl (go_iloadN (pc := 1) d16_1 rfl ?_)
  obtain ⟨r2, e1, hf⟩ := Option.bind_eq_some_iff.mp hf
  refine go_priv (pc := 2) (i := 0) (as := [.int v1]) (rest := []) (w' := (none, [(11, r2)])) lk_0_159 pd_13 rfl oid_0 rfl rfl rfl rfl rfl rfl ⟨rfl, rfl, rfl, rfl, rfl⟩ d16_2 (c_k_bringToLife v1 s _ e1) ?_
  refine go_aloadN (pc := 5) d16_5 rfl (go_iloadN (pc := 6) d16_6 rfl ?_)
  obtain ⟨r7, e2, hf⟩ := Option.bind_eq_some_iff.mp hf
  refine go_priv (pc := 7) (i := 0) (as := [.int v1]) (rest := []) (w' := (none, [(11, r7.2)])) lk_0_162 pd_14 rfl oid_0 rfl rfl rfl rfl rfl rfl ⟨rfl, rfl, rfl, rfl, rfl⟩ d16_7 (c_k_tableInsert v1 r2 _ e2) ?_
  refine go_pop (pc := 10) d16_10 (go_aloadN (pc := 11) d16_11 rfl (go_iloadN (pc := 12) d16_12 rfl ?_))
  obtain ⟨r13, e3, hf⟩ := Option.bind_eq_some_iff.mp hf
  refine go_priv (pc := 13) (i := 0) (as := [.int v1]) (rest := []) (w' := (none, [(11, r13)])) lk_0_101 pd_15 rfl oid_0 rfl rfl rfl rfl rfl rfl ⟨rfl, rfl, rfl, rfl, rfl⟩ d16_13 (c_k_rootPush v1 r7.2 _ e3) ?_
  cases hf
  exact go_ret (pc := 16) rfl d16_16
theorem c_k_placeNewObject (v1 : Int32) (s : S) (o : S) (hf : k_placeNewObject v1 s = some o) : Call PP m16 [.ref 1, .int v1] (none, [(11, s)]) (none, (none, [(11, o)])) := call_of_go pl_0 rfl (fun _ => rfl) (k_placeNewObject_ok v1 s   _ hf)
set_option maxRecDepth 65536 in
set_option maxHeartbeats 4000000 in
theorem k_alloc_ok  : ∀  (s : S)  (o : Int32 × S), k_alloc s = some o → Go PP m17 0 [.val (.ref 1), .unset] [] (none, [(11, s)]) (some (.int o.1), (none, [(11, o.2)])) := by
  intro s o hf
  unfold k_alloc at hf
  refine go_aloadN (pc := 0) d17_0 rfl ?_
  refine go_priv (pc := 1) (i := 0) (as := []) (rest := []) (w' := (none, [(11, s)])) lk_0_76 pd_7 rfl oid_0 rfl rfl rfl rfl rfl rfl ⟨rfl, rfl, rfl, rfl, rfl⟩ d17_1 (c_k_rootsFull s) ?_
  by_cases h1 : (k_rootsFull s) = 0
  · replace hf := (if_pos h1).symm.trans hf
    refine go_ifY (pc := 4) (pc' := 10) d17_4 (XT.i0_eq_t h1) j_4_6 ?_
    refine go_aloadN (pc := 10) d17_10 rfl ?_
    refine go_priv (pc := 11) (i := 0) (as := []) (rest := []) (w' := (none, [(11, s)])) lk_0_80 pd_10 rfl oid_0 rfl rfl rfl rfl rfl rfl ⟨rfl, rfl, rfl, rfl, rfl⟩ d17_11 (c_k_allocNeedsReconcile s) ?_
    by_cases h2 : (k_allocNeedsReconcile s) = 0
    · replace hf := (if_pos h2).symm.trans hf
      refine go_ifY (pc := 14) (pc' := 22) d17_14 (XT.i0_eq_t h2) j_14_8 ?_
      refine go_aloadN (pc := 22) d17_22 rfl ?_
      obtain ⟨r23, e3, hf⟩ := Option.bind_eq_some_iff.mp hf
      refine go_priv (pc := 23) (i := 0) (as := []) (rest := []) (w' := (none, [(11, s)])) lk_0_87 pd_11 rfl oid_0 rfl rfl rfl rfl rfl rfl ⟨rfl, rfl, rfl, rfl, rfl⟩ d17_23 (c_k_lowestFreeCell s _ e3) ?_
      refine go_istoreN (pc := 26) (L' := [.val (.ref 1), .val (.int r23)]) d17_26 rfl (go_iloadN (pc := 27) d17_27 rfl (go_iconst (pc := 28) d17_28 ci_m1 ?_))
      by_cases h4 : r23 = (-1 : Int32)
      · replace hf := (if_pos h4).symm.trans hf
        refine go_icN (pc := 29) d17_29 (XT.ii_ne_f h4) ?_
        refine go_bipush (pc := 32) d17_32 cb_m4 ?_
        cases hf
        exact go_iret (pc := 34) rfl d17_34
      · replace hf := (if_neg h4).symm.trans hf
        refine go_icY (pc := 29) (pc' := 35) d17_29 (XT.ii_ne_t h4) j_29_6 ?_
        refine go_aloadN (pc := 35) d17_35 rfl (go_iloadN (pc := 36) d17_36 rfl ?_)
        obtain ⟨r37, e5, hf⟩ := Option.bind_eq_some_iff.mp hf
        refine go_priv (pc := 37) (i := 0) (as := [.int r23]) (rest := []) (w' := (none, [(11, r37)])) lk_0_90 pd_16 rfl oid_0 rfl rfl rfl rfl rfl rfl ⟨rfl, rfl, rfl, rfl, rfl⟩ d17_37 (c_k_placeNewObject r23 s _ e5) ?_
        refine go_iloadN (pc := 40) d17_40 rfl ?_
        cases hf
        exact go_iret (pc := 41) rfl d17_41
    · replace hf := (if_neg h2).symm.trans hf
      refine go_ifN (pc := 14) d17_14 (XT.i0_eq_f h2) ?_
      refine go_aloadN (pc := 17) d17_17 rfl ?_
      exact nomatch hf
  · replace hf := (if_neg h1).symm.trans hf
    refine go_ifN (pc := 4) d17_4 (XT.i0_eq_f h1) ?_
    refine go_bipush (pc := 7) d17_7 cb_m2 ?_
    cases hf
    exact go_iret (pc := 9) rfl d17_9
theorem c_k_alloc (s : S) (o : Int32 × S) (hf : k_alloc s = some o) : Call PP m17 [.ref 1] (none, [(11, s)]) (some (.int o.1), (none, [(11, o.2)])) := call_of_go pl_0 rfl (fun h => nomatch h) (k_alloc_ok s   _ hf)
set_option maxRecDepth 65536 in
set_option maxHeartbeats 4000000 in
theorem k_isRootSlot_ok  : ∀ (v1 : Int32) (s : S)  (o : Int32), k_isRootSlot v1 s = o → Go PP m18 0 [.val (.ref 1), .val (.int v1)] [] (none, [(11, s)]) (some (.int o), (none, [(11, s)])) := by
  intro v1 s o hf
  unfold k_isRootSlot at hf
  refine go_iloadN (pc := 0) d18_0 rfl ?_
  by_cases h1 : v1 < 0
  · replace hf := (if_pos h1).symm.trans hf
    refine go_ifY (pc := 1) (pc' := 16) d18_1 (XT.i0_lt_t h1) j_1_15 ?_
    refine go_iconst (pc := 16) d18_16 ci_0 ?_
    cases hf
    exact go_zret (pc := 17) rfl d18_17 (show (0 : Int32) = nar .boolean (0 : Int32) by decide)
  · replace hf := (if_neg h1).symm.trans hf
    refine go_ifN (pc := 1) d18_1 (XT.i0_lt_f h1) ?_
    refine go_iloadN (pc := 4) d18_4 rfl (go_aloadN (pc := 5) d18_5 rfl (go_getI (pc := 6) fs_125 hm_18 d18_6 ?_))
    by_cases h2 : v1 < (gI s 5)
    · replace hf := (if_pos h2).symm.trans hf
      refine go_icN (pc := 9) d18_9 (XT.ii_ge_f h2) ?_
      refine go_iconst (pc := 12) d18_12 ci_1 (go_goto (pc := 13) (pc' := 17) d18_13 j_13_4 ?_)
      cases hf
      exact go_zret (pc := 17) rfl d18_17 (show (1 : Int32) = nar .boolean (1 : Int32) by decide)
    · replace hf := (if_neg h2).symm.trans hf
      refine go_icY (pc := 9) (pc' := 16) d18_9 (XT.ii_ge_t h2) j_9_7 ?_
      refine go_iconst (pc := 16) d18_16 ci_0 ?_
      cases hf
      exact go_zret (pc := 17) rfl d18_17 (show (0 : Int32) = nar .boolean (0 : Int32) by decide)
theorem c_k_isRootSlot (v1 : Int32) (s : S) : Call PP m18 [.ref 1, .int v1] (none, [(11, s)]) (some (.int (k_isRootSlot v1 s)), (none, [(11, s)])) := call_of_go pl_0 rfl (fun h => nomatch h) (k_isRootSlot_ok v1 s   _ rfl)
set_option maxRecDepth 65536 in
set_option maxHeartbeats 4000000 in
theorem k_isFieldNo_ok  : ∀ (v1 : Int32) (s : S)  (o : Int32), k_isFieldNo v1 s = o → Go PP m19 0 [.val (.ref 1), .val (.int v1)] [] (none, [(11, s)]) (some (.int o), (none, [(11, s)])) := by
  intro v1 s o hf
  unfold k_isFieldNo at hf
  refine go_iloadN (pc := 0) d19_0 rfl ?_
  by_cases h1 : v1 < 0
  · replace hf := (if_pos h1).symm.trans hf
    refine go_ifY (pc := 1) (pc' := 16) d19_1 (XT.i0_lt_t h1) j_1_15 ?_
    refine go_iconst (pc := 16) d19_16 ci_0 ?_
    cases hf
    exact go_zret (pc := 17) rfl d19_17 (show (0 : Int32) = nar .boolean (0 : Int32) by decide)
  · replace hf := (if_neg h1).symm.trans hf
    refine go_ifN (pc := 1) d19_1 (XT.i0_lt_f h1) ?_
    refine go_iloadN (pc := 4) d19_4 rfl (go_aloadN (pc := 5) d19_5 rfl (go_getI (pc := 6) fs_52 hm_19 d19_6 ?_))
    by_cases h2 : v1 < (gI s 1)
    · replace hf := (if_pos h2).symm.trans hf
      refine go_icN (pc := 9) d19_9 (XT.ii_ge_f h2) ?_
      refine go_iconst (pc := 12) d19_12 ci_1 (go_goto (pc := 13) (pc' := 17) d19_13 j_13_4 ?_)
      cases hf
      exact go_zret (pc := 17) rfl d19_17 (show (1 : Int32) = nar .boolean (1 : Int32) by decide)
    · replace hf := (if_neg h2).symm.trans hf
      refine go_icY (pc := 9) (pc' := 16) d19_9 (XT.ii_ge_t h2) j_9_7 ?_
      refine go_iconst (pc := 16) d19_16 ci_0 ?_
      cases hf
      exact go_zret (pc := 17) rfl d19_17 (show (0 : Int32) = nar .boolean (0 : Int32) by decide)
theorem c_k_isFieldNo (v1 : Int32) (s : S) : Call PP m19 [.ref 1, .int v1] (none, [(11, s)]) (some (.int (k_isFieldNo v1 s)), (none, [(11, s)])) := call_of_go pl_0 rfl (fun h => nomatch h) (k_isFieldNo_ok v1 s   _ rfl)
set_option maxRecDepth 65536 in
set_option maxHeartbeats 4000000 in
theorem k_isValueSlot_ok  : ∀ (v1 : Int32) (s : S)  (o : Int32), k_isValueSlot v1 s = o → Go PP m20 0 [.val (.ref 1), .val (.int v1)] [] (none, [(11, s)]) (some (.int o), (none, [(11, s)])) := by
  intro v1 s o hf
  unfold k_isValueSlot at hf
  refine go_iloadN (pc := 0) d20_0 rfl (go_iconst (pc := 1) d20_1 ci_m1 ?_)
  by_cases h1 : v1 = (-1 : Int32)
  · replace hf := (if_pos h1).symm.trans hf
    refine go_icN (pc := 2) d20_2 (XT.ii_ne_f h1) ?_
    refine go_iconst (pc := 5) d20_5 ci_1 ?_
    cases hf
    exact go_zret (pc := 6) rfl d20_6 (show (1 : Int32) = nar .boolean (1 : Int32) by decide)
  · replace hf := (if_neg h1).symm.trans hf
    refine go_icY (pc := 2) (pc' := 7) d20_2 (XT.ii_ne_t h1) j_2_5 ?_
    refine go_aloadN (pc := 7) d20_7 rfl (go_iloadN (pc := 8) d20_8 rfl ?_)
    refine go_priv (pc := 9) (i := 0) (as := [.int v1]) (rest := []) (w' := (none, [(11, s)])) lk_0_131 pd_18 rfl oid_0 rfl rfl rfl rfl rfl rfl ⟨rfl, rfl, rfl, rfl, rfl⟩ d20_9 (c_k_isRootSlot v1 s) ?_
    cases hf
    exact go_zret (pc := 12) rfl d20_12 rfl
theorem c_k_isValueSlot (v1 : Int32) (s : S) : Call PP m20 [.ref 1, .int v1] (none, [(11, s)]) (some (.int (k_isValueSlot v1 s)), (none, [(11, s)])) := call_of_go pl_0 rfl (fun h => nomatch h) (k_isValueSlot_ok v1 s   _ rfl)
set_option maxRecDepth 65536 in
set_option maxHeartbeats 4000000 in
theorem k_isLiveId_ok  : ∀ (v1 : Int32) (s : S)  (o : Int32), k_isLiveId v1 s = some o → Go PP m21 0 [.val (.ref 1), .val (.int v1)] [] (none, [(11, s)]) (some (.int o), (none, [(11, s)])) := by
  intro v1 s o hf
  unfold k_isLiveId at hf
  refine go_aloadN (pc := 0) d21_0 rfl (go_iloadN (pc := 1) d21_1 rfl ?_)
  refine go_priv (pc := 2) (i := 0) (as := [.int v1]) (rest := []) (w' := (none, [(11, s)])) lk_0_165 pd_12 rfl oid_0 rfl rfl rfl rfl rfl rfl ⟨rfl, rfl, rfl, rfl, rfl⟩ d21_2 (c_k_isObjectId v1 s) ?_
  by_cases h1 : (k_isObjectId v1 s) = 0
  · replace hf := (if_pos h1).symm.trans hf
    refine go_ifY (pc := 5) (pc' := 21) d21_5 (XT.i0_eq_t h1) j_5_16 ?_
    refine go_iconst (pc := 21) d21_21 ci_0 ?_
    cases hf
    exact go_zret (pc := 22) rfl d21_22 (show (0 : Int32) = nar .boolean (0 : Int32) by decide)
  · replace hf := (if_neg h1).symm.trans hf
    refine go_ifN (pc := 5) d21_5 (XT.i0_eq_f h1) ?_
    refine go_aloadN (pc := 8) d21_8 rfl (go_getA (pc := 9) fa_7 hm_21 d21_9 rfl (go_iloadN (pc := 12) d21_12 rfl ?_))
    obtain ⟨a13, e2, hf⟩ := Option.bind_eq_some_iff.mp hf
    refine go_baload (pc := 13) (q := 0) ar_0 (by decide) rfl e2 d21_13 ?_
    by_cases h3 : a13 = 0
    · replace hf := (if_pos h3).symm.trans hf
      refine go_ifY (pc := 14) (pc' := 21) d21_14 (XT.i0_eq_t h3) j_14_7 ?_
      refine go_iconst (pc := 21) d21_21 ci_0 ?_
      cases hf
      exact go_zret (pc := 22) rfl d21_22 (show (0 : Int32) = nar .boolean (0 : Int32) by decide)
    · replace hf := (if_neg h3).symm.trans hf
      refine go_ifN (pc := 14) d21_14 (XT.i0_eq_f h3) ?_
      refine go_iconst (pc := 17) d21_17 ci_1 (go_goto (pc := 18) (pc' := 22) d21_18 j_18_4 ?_)
      cases hf
      exact go_zret (pc := 22) rfl d21_22 (show (1 : Int32) = nar .boolean (1 : Int32) by decide)
theorem c_k_isLiveId (v1 : Int32) (s : S) (o : Int32) (hf : k_isLiveId v1 s = some o) : Call PP m21 [.ref 1, .int v1] (none, [(11, s)]) (some (.int o), (none, [(11, s)])) := call_of_go pl_0 rfl (fun h => nomatch h) (k_isLiveId_ok v1 s   _ hf)
set_option maxRecDepth 65536 in
set_option maxHeartbeats 4000000 in
theorem k_storeCheck_ok  : ∀ (v1 : Int32) (v2 : Int32) (v3 : Int32) (s : S)  (o : Int32), k_storeCheck v1 v2 v3 s = some o → Go PP m22 0 [.val (.ref 1), .val (.int v1), .val (.int v2), .val (.int v3)] [] (none, [(11, s)]) (some (.int o), (none, [(11, s)])) := by
  intro v1 v2 v3 s o hf
  unfold k_storeCheck at hf
  refine go_aloadN (pc := 0) d22_0 rfl (go_iloadN (pc := 1) d22_1 rfl ?_)
  refine go_priv (pc := 2) (i := 0) (as := [.int v1]) (rest := []) (w' := (none, [(11, s)])) lk_0_131 pd_18 rfl oid_0 rfl rfl rfl rfl rfl rfl ⟨rfl, rfl, rfl, rfl, rfl⟩ d22_2 (c_k_isRootSlot v1 s) ?_
  by_cases h1 : (k_isRootSlot v1 s) = 0
  · replace hf := (if_pos h1).symm.trans hf
    refine go_ifN (pc := 5) d22_5 (XT.i0_ne_f h1) ?_
    refine go_bipush (pc := 8) d22_8 cb_m5 ?_
    cases hf
    exact go_iret (pc := 10) rfl d22_10
  · replace hf := (if_neg h1).symm.trans hf
    refine go_ifY (pc := 5) (pc' := 11) d22_5 (XT.i0_ne_t h1) j_5_6 ?_
    refine go_aloadN (pc := 11) d22_11 rfl (go_iloadN (pc := 12) d22_12 rfl ?_)
    refine go_priv (pc := 13) (i := 0) (as := [.int v2]) (rest := []) (w' := (none, [(11, s)])) lk_0_138 pd_19 rfl oid_0 rfl rfl rfl rfl rfl rfl ⟨rfl, rfl, rfl, rfl, rfl⟩ d22_13 (c_k_isFieldNo v2 s) ?_
    by_cases h2 : (k_isFieldNo v2 s) = 0
    · replace hf := (if_pos h2).symm.trans hf
      refine go_ifN (pc := 16) d22_16 (XT.i0_ne_f h2) ?_
      refine go_bipush (pc := 19) d22_19 cb_m6 ?_
      cases hf
      exact go_iret (pc := 21) rfl d22_21
    · replace hf := (if_neg h2).symm.trans hf
      refine go_ifY (pc := 16) (pc' := 22) d22_16 (XT.i0_ne_t h2) j_16_6 ?_
      refine go_aloadN (pc := 22) d22_22 rfl (go_iloadN (pc := 23) d22_23 rfl ?_)
      refine go_priv (pc := 24) (i := 0) (as := [.int v3]) (rest := []) (w' := (none, [(11, s)])) lk_0_150 pd_20 rfl oid_0 rfl rfl rfl rfl rfl rfl ⟨rfl, rfl, rfl, rfl, rfl⟩ d22_24 (c_k_isValueSlot v3 s) ?_
      by_cases h3 : (k_isValueSlot v3 s) = 0
      · replace hf := (if_pos h3).symm.trans hf
        refine go_ifN (pc := 27) d22_27 (XT.i0_ne_f h3) ?_
        refine go_bipush (pc := 30) d22_30 cb_m5 ?_
        cases hf
        exact go_iret (pc := 32) rfl d22_32
      · replace hf := (if_neg h3).symm.trans hf
        refine go_ifY (pc := 27) (pc' := 33) d22_27 (XT.i0_ne_t h3) j_27_6 ?_
        refine go_aloadN (pc := 33) d22_33 rfl (go_getA (pc := 34) fa_20 hm_22 d22_34 rfl (go_iloadN (pc := 37) d22_37 rfl ?_))
        obtain ⟨a38, e4, hf⟩ := Option.bind_eq_some_iff.mp hf
        refine go_iaload (pc := 38) (q := 3) ar_3 rfl e4 d22_38 ?_
        refine go_iconst (pc := 39) d22_39 ci_m1 ?_
        by_cases h5 : a38 = (-1 : Int32)
        · replace hf := (if_pos h5).symm.trans hf
          refine go_icN (pc := 40) d22_40 (XT.ii_ne_f h5) ?_
          refine go_bipush (pc := 43) d22_43 cb_m7 ?_
          cases hf
          exact go_iret (pc := 45) rfl d22_45
        · replace hf := (if_neg h5).symm.trans hf
          refine go_icY (pc := 40) (pc' := 46) d22_40 (XT.ii_ne_t h5) j_40_6 ?_
          refine go_aloadN (pc := 46) d22_46 rfl (go_aloadN (pc := 47) d22_47 rfl (go_getA (pc := 48) fa_20 hm_22 d22_48 rfl (go_iloadN (pc := 51) d22_51 rfl ?_)))
          obtain ⟨a52, e6, hf⟩ := Option.bind_eq_some_iff.mp hf
          refine go_iaload (pc := 52) (q := 3) ar_3 rfl e6 d22_52 ?_
          obtain ⟨r53, e7, hf⟩ := Option.bind_eq_some_iff.mp hf
          refine go_priv (pc := 53) (i := 0) (as := [.int a52]) (rest := []) (w' := (none, [(11, s)])) lk_0_135 pd_21 rfl oid_0 rfl rfl rfl rfl rfl rfl ⟨rfl, rfl, rfl, rfl, rfl⟩ d22_53 (c_k_isLiveId a52 s _ e7) ?_
          by_cases h8 : r53 = 0
          · replace hf := (if_pos h8).symm.trans hf
            refine go_ifN (pc := 56) d22_56 (XT.i0_ne_f h8) ?_
            refine go_bipush (pc := 59) d22_59 cb_m7 ?_
            cases hf
            exact go_iret (pc := 61) rfl d22_61
          · replace hf := (if_neg h8).symm.trans hf
            refine go_ifY (pc := 56) (pc' := 62) d22_56 (XT.i0_ne_t h8) j_56_6 ?_
            refine go_iconst (pc := 62) d22_62 ci_0 ?_
            cases hf
            exact go_iret (pc := 63) rfl d22_63
theorem c_k_storeCheck (v1 : Int32) (v2 : Int32) (v3 : Int32) (s : S) (o : Int32) (hf : k_storeCheck v1 v2 v3 s = some o) : Call PP m22 [.ref 1, .int v1, .int v2, .int v3] (none, [(11, s)]) (some (.int o), (none, [(11, s)])) := call_of_go pl_0 rfl (fun h => nomatch h) (k_storeCheck_ok v1 v2 v3 s   _ hf)
set_option maxRecDepth 65536 in
set_option maxHeartbeats 4000000 in
theorem k_valueOfSlot_ok  : ∀ (v1 : Int32) (s : S)  (o : Int32), k_valueOfSlot v1 s = some o → Go PP m23 0 [.val (.ref 1), .val (.int v1)] [] (none, [(11, s)]) (some (.int o), (none, [(11, s)])) := by
  intro v1 s o hf
  unfold k_valueOfSlot at hf
  refine go_iloadN (pc := 0) d23_0 rfl (go_iconst (pc := 1) d23_1 ci_m1 ?_)
  by_cases h1 : v1 = (-1 : Int32)
  · replace hf := (if_pos h1).symm.trans hf
    refine go_icN (pc := 2) d23_2 (XT.ii_ne_f h1) ?_
    refine go_iconst (pc := 5) d23_5 ci_m1 ?_
    cases hf
    exact go_iret (pc := 6) rfl d23_6
  · replace hf := (if_neg h1).symm.trans hf
    refine go_icY (pc := 2) (pc' := 7) d23_2 (XT.ii_ne_t h1) j_2_5 ?_
    refine go_aloadN (pc := 7) d23_7 rfl (go_iloadN (pc := 8) d23_8 rfl ?_)
    refine go_priv (pc := 9) (i := 0) (as := [.int v1]) (rest := []) (w' := (none, [(11, s)])) lk_0_131 pd_18 rfl oid_0 rfl rfl rfl rfl rfl rfl ⟨rfl, rfl, rfl, rfl, rfl⟩ d23_9 (c_k_isRootSlot v1 s) ?_
    by_cases h2 : (k_isRootSlot v1 s) = 0
    · replace hf := (if_pos h2).symm.trans hf
      refine go_ifN (pc := 12) d23_12 (XT.i0_ne_f h2) ?_
      refine go_iconst (pc := 15) d23_15 ci_m1 ?_
      cases hf
      exact go_iret (pc := 16) rfl d23_16
    · replace hf := (if_neg h2).symm.trans hf
      refine go_ifY (pc := 12) (pc' := 17) d23_12 (XT.i0_ne_t h2) j_12_5 ?_
      refine go_aloadN (pc := 17) d23_17 rfl (go_getA (pc := 18) fa_20 hm_23 d23_18 rfl (go_iloadN (pc := 21) d23_21 rfl ?_))
      obtain ⟨a22, e3, hf⟩ := Option.bind_eq_some_iff.mp hf
      refine go_iaload (pc := 22) (q := 3) ar_3 rfl e3 d23_22 ?_
      cases hf
      exact go_iret (pc := 23) rfl d23_23
theorem c_k_valueOfSlot (v1 : Int32) (s : S) (o : Int32) (hf : k_valueOfSlot v1 s = some o) : Call PP m23 [.ref 1, .int v1] (none, [(11, s)]) (some (.int o), (none, [(11, s)])) := call_of_go pl_0 rfl (fun h => nomatch h) (k_valueOfSlot_ok v1 s   _ hf)
set_option maxRecDepth 65536 in
set_option maxHeartbeats 4000000 in
theorem k_readField_ok  : ∀ (v1 : Int32) (v2 : Int32) (s : S)  (o : Int32), k_readField v1 v2 s = some o → Go PP m24 0 [.val (.ref 1), .val (.int v1), .val (.int v2)] [] (none, [(11, s)]) (some (.int o), (none, [(11, s)])) := by
  intro v1 v2 s o hf
  unfold k_readField at hf
  refine go_aloadN (pc := 0) d24_0 rfl (go_iloadN (pc := 1) d24_1 rfl ?_)
  refine go_priv (pc := 2) (i := 0) (as := [.int v1]) (rest := []) (w' := (none, [(11, s)])) lk_0_165 pd_12 rfl oid_0 rfl rfl rfl rfl rfl rfl ⟨rfl, rfl, rfl, rfl, rfl⟩ d24_2 (c_k_isObjectId v1 s) ?_
  by_cases h1 : (k_isObjectId v1 s) = 0
  · replace hf := (if_pos h1).symm.trans hf
    refine go_ifN (pc := 5) d24_5 (XT.i0_ne_f h1) ?_
    refine go_iconst (pc := 8) d24_8 ci_m1 ?_
    cases hf
    exact go_iret (pc := 9) rfl d24_9
  · replace hf := (if_neg h1).symm.trans hf
    refine go_ifY (pc := 5) (pc' := 10) d24_5 (XT.i0_ne_t h1) j_5_5 ?_
    refine go_aloadN (pc := 10) d24_10 rfl (go_iloadN (pc := 11) d24_11 rfl ?_)
    refine go_priv (pc := 12) (i := 0) (as := [.int v2]) (rest := []) (w' := (none, [(11, s)])) lk_0_138 pd_19 rfl oid_0 rfl rfl rfl rfl rfl rfl ⟨rfl, rfl, rfl, rfl, rfl⟩ d24_12 (c_k_isFieldNo v2 s) ?_
    by_cases h2 : (k_isFieldNo v2 s) = 0
    · replace hf := (if_pos h2).symm.trans hf
      refine go_ifN (pc := 15) d24_15 (XT.i0_ne_f h2) ?_
      refine go_iconst (pc := 18) d24_18 ci_m1 ?_
      cases hf
      exact go_iret (pc := 19) rfl d24_19
    · replace hf := (if_neg h2).symm.trans hf
      refine go_ifY (pc := 15) (pc' := 20) d24_15 (XT.i0_ne_t h2) j_15_5 ?_
      refine go_aloadN (pc := 20) d24_20 rfl (go_getA (pc := 21) fa_13 hm_24 d24_21 rfl (go_iloadN (pc := 24) d24_24 rfl (go_iconst (pc := 25) d24_25 ci_4 (go_imul (pc := 26) d24_26 (go_iloadN (pc := 27) d24_27 rfl (go_iadd (pc := 28) d24_28 ?_))))))
      obtain ⟨a29, e3, hf⟩ := Option.bind_eq_some_iff.mp hf
      refine go_iaload (pc := 29) (q := 1) ar_1 rfl e3 d24_29 ?_
      cases hf
      exact go_iret (pc := 30) rfl d24_30
theorem c_k_readField (v1 : Int32) (v2 : Int32) (s : S) (o : Int32) (hf : k_readField v1 v2 s = some o) : Call PP m24 [.ref 1, .int v1, .int v2] (none, [(11, s)]) (some (.int o), (none, [(11, s)])) := call_of_go pl_0 rfl (fun h => nomatch h) (k_readField_ok v1 v2 s   _ hf)
set_option maxRecDepth 65536 in
set_option maxHeartbeats 4000000 in
theorem k_storeNeedsReconcile_ok  : ∀ (v1 : Int32) (v2 : Int32) (s : S)  (o : Int32), k_storeNeedsReconcile v1 v2 s = some o → Go PP m25 0 [.val (.ref 1), .val (.int v1), .val (.int v2)] [] (none, [(11, s)]) (some (.int o), (none, [(11, s)])) := by
  intro v1 v2 s o hf
  unfold k_storeNeedsReconcile at hf
  refine go_iloadN (pc := 0) d25_0 rfl (go_iconst (pc := 1) d25_1 ci_m1 ?_)
  by_cases h1 : v1 = (-1 : Int32)
  · replace hf := (if_pos h1).symm.trans hf
    refine go_icN (pc := 2) d25_2 (XT.ii_ne_f h1) ?_
    refine go_iconst (pc := 5) d25_5 ci_0 ?_
    cases hf
    exact go_zret (pc := 6) rfl d25_6 (show (0 : Int32) = nar .boolean (0 : Int32) by decide)
  · replace hf := (if_neg h1).symm.trans hf
    refine go_icY (pc := 2) (pc' := 7) d25_2 (XT.ii_ne_t h1) j_2_5 ?_
    refine go_iloadN (pc := 7) d25_7 rfl (go_iloadN (pc := 8) d25_8 rfl ?_)
    by_cases h2 : v1 = v2
    · replace hf := (if_pos h2).symm.trans hf
      refine go_icN (pc := 9) d25_9 (XT.ii_ne_f h2) ?_
      refine go_iconst (pc := 12) d25_12 ci_0 ?_
      cases hf
      exact go_zret (pc := 13) rfl d25_13 (show (0 : Int32) = nar .boolean (0 : Int32) by decide)
    · replace hf := (if_neg h2).symm.trans hf
      refine go_icY (pc := 9) (pc' := 14) d25_9 (XT.ii_ne_t h2) j_9_5 ?_
      refine go_aloadN (pc := 14) d25_14 rfl (go_iloadN (pc := 15) d25_15 rfl ?_)
      refine go_priv (pc := 16) (i := 0) (as := [.int v1]) (rest := []) (w' := (none, [(11, s)])) lk_0_165 pd_12 rfl oid_0 rfl rfl rfl rfl rfl rfl ⟨rfl, rfl, rfl, rfl, rfl⟩ d25_16 (c_k_isObjectId v1 s) ?_
      by_cases h3 : (k_isObjectId v1 s) = 0
      · replace hf := (if_pos h3).symm.trans hf
        refine go_ifN (pc := 19) d25_19 (XT.i0_ne_f h3) ?_
        refine go_iconst (pc := 22) d25_22 ci_0 ?_
        cases hf
        exact go_zret (pc := 23) rfl d25_23 (show (0 : Int32) = nar .boolean (0 : Int32) by decide)
      · replace hf := (if_neg h3).symm.trans hf
        refine go_ifY (pc := 19) (pc' := 24) d25_19 (XT.i0_ne_t h3) j_19_5 ?_
        refine go_aloadN (pc := 24) d25_24 rfl (go_getA (pc := 25) fa_17 hm_25 d25_25 rfl (go_iloadN (pc := 28) d25_28 rfl ?_))
        obtain ⟨a29, e4, hf⟩ := Option.bind_eq_some_iff.mp hf
        refine go_iaload (pc := 29) (q := 2) ar_2 rfl e4 d25_29 ?_
        refine go_iconst (pc := 30) d25_30 ci_1 ?_
        by_cases h5 : a29 = (1 : Int32)
        · replace hf := (if_pos h5).symm.trans hf
          refine go_icY (pc := 31) (pc' := 36) d25_31 (XT.ii_eq_t h5) j_31_5 ?_
          refine go_aloadN (pc := 36) d25_36 rfl (go_iloadN (pc := 37) d25_37 rfl ?_)
          exact nomatch hf
        · replace hf := (if_neg h5).symm.trans hf
          refine go_icN (pc := 31) d25_31 (XT.ii_eq_f h5) ?_
          refine go_iconst (pc := 34) d25_34 ci_0 ?_
          cases hf
          exact go_zret (pc := 35) rfl d25_35 (show (0 : Int32) = nar .boolean (0 : Int32) by decide)
theorem c_k_storeNeedsReconcile (v1 : Int32) (v2 : Int32) (s : S) (o : Int32) (hf : k_storeNeedsReconcile v1 v2 s = some o) : Call PP m25 [.ref 1, .int v1, .int v2] (none, [(11, s)]) (some (.int o), (none, [(11, s)])) := call_of_go pl_0 rfl (fun h => nomatch h) (k_storeNeedsReconcile_ok v1 v2 s   _ hf)
set_option maxRecDepth 65536 in
set_option maxHeartbeats 4000000 in
theorem k_refDec_ok  : ∀ (v1 : Int32) (s : S)  (o : S), k_refDec v1 s = some o → Go PP m26 0 [.val (.ref 1), .val (.int v1)] [] (none, [(11, s)]) (none, (none, [(11, o)])) := by
  intro v1 s o hf
  unfold k_refDec at hf
  refine go_aloadN (pc := 0) d26_0 rfl (go_iloadN (pc := 1) d26_1 rfl ?_)
  refine go_priv (pc := 2) (i := 0) (as := [.int v1]) (rest := []) (w' := (none, [(11, s)])) lk_0_165 pd_12 rfl oid_0 rfl rfl rfl rfl rfl rfl ⟨rfl, rfl, rfl, rfl, rfl⟩ d26_2 (c_k_isObjectId v1 s) ?_
  by_cases h1 : (k_isObjectId v1 s) = 0
  · replace hf := (if_pos h1).symm.trans hf
    refine go_ifY (pc := 5) (pc' := 31) d26_5 (XT.i0_eq_t h1) j_5_26 ?_
    cases hf
    exact go_ret (pc := 31) rfl d26_31
  · replace hf := (if_neg h1).symm.trans hf
    refine go_ifN (pc := 5) d26_5 (XT.i0_eq_f h1) ?_
    refine go_aloadN (pc := 8) d26_8 rfl (go_getA (pc := 9) fa_17 hm_26 d26_9 rfl (go_iloadN (pc := 12) d26_12 rfl ?_))
    obtain ⟨a13, e2, hf⟩ := Option.bind_eq_some_iff.mp hf
    refine go_iaload (pc := 13) (q := 2) ar_2 rfl e2 d26_13 ?_
    by_cases h3 : 0 < a13
    · replace hf := (if_pos h3).symm.trans hf
      refine go_ifN (pc := 14) d26_14 (XT.i0_le_f h3) ?_
      refine go_aloadN (pc := 17) d26_17 rfl (go_getA (pc := 18) fa_17 hm_26 d26_18 rfl (go_iloadN (pc := 21) d26_21 rfl (go_aloadN (pc := 22) d26_22 rfl (go_getA (pc := 23) fa_17 hm_26 d26_23 rfl (go_iloadN (pc := 26) d26_26 rfl ?_)))))
      obtain ⟨a27, e4, hf⟩ := Option.bind_eq_some_iff.mp hf
      refine go_iaload (pc := 27) (q := 2) ar_2 rfl e4 d26_27 ?_
      refine go_iconst (pc := 28) d26_28 ci_1 (go_isub (pc := 29) d26_29 ?_)
      obtain ⟨a30, e5, hf⟩ := Option.bind_eq_some_iff.mp hf
      refine go_iastore (pc := 30) (q := 2) ar_2 rfl hn_26 e5 d26_30 ?_
      cases hf
      exact go_ret (pc := 31) rfl d26_31
    · replace hf := (if_neg h3).symm.trans hf
      refine go_ifY (pc := 14) (pc' := 31) d26_14 (XT.i0_le_t h3) j_14_17 ?_
      cases hf
      exact go_ret (pc := 31) rfl d26_31
theorem c_k_refDec (v1 : Int32) (s : S) (o : S) (hf : k_refDec v1 s = some o) : Call PP m26 [.ref 1, .int v1] (none, [(11, s)]) (none, (none, [(11, o)])) := call_of_go pl_0 rfl (fun _ => rfl) (k_refDec_ok v1 s   _ hf)
set_option maxRecDepth 65536 in
set_option maxHeartbeats 4000000 in
theorem k_refInc_ok  : ∀ (v1 : Int32) (s : S)  (o : S), k_refInc v1 s = some o → Go PP m27 0 [.val (.ref 1), .val (.int v1)] [] (none, [(11, s)]) (none, (none, [(11, o)])) := by
  intro v1 s o hf
  unfold k_refInc at hf
  refine go_aloadN (pc := 0) d27_0 rfl (go_iloadN (pc := 1) d27_1 rfl ?_)
  refine go_priv (pc := 2) (i := 0) (as := [.int v1]) (rest := []) (w' := (none, [(11, s)])) lk_0_165 pd_12 rfl oid_0 rfl rfl rfl rfl rfl rfl ⟨rfl, rfl, rfl, rfl, rfl⟩ d27_2 (c_k_isObjectId v1 s) ?_
  by_cases h1 : (k_isObjectId v1 s) = 0
  · replace hf := (if_pos h1).symm.trans hf
    refine go_ifY (pc := 5) (pc' := 22) d27_5 (XT.i0_eq_t h1) j_5_17 ?_
    cases hf
    exact go_ret (pc := 22) rfl d27_22
  · replace hf := (if_neg h1).symm.trans hf
    refine go_ifN (pc := 5) d27_5 (XT.i0_eq_f h1) ?_
    refine go_aloadN (pc := 8) d27_8 rfl (go_getA (pc := 9) fa_17 hm_27 d27_9 rfl (go_iloadN (pc := 12) d27_12 rfl (go_aloadN (pc := 13) d27_13 rfl (go_getA (pc := 14) fa_17 hm_27 d27_14 rfl (go_iloadN (pc := 17) d27_17 rfl ?_)))))
    obtain ⟨a18, e2, hf⟩ := Option.bind_eq_some_iff.mp hf
    refine go_iaload (pc := 18) (q := 2) ar_2 rfl e2 d27_18 ?_
    refine go_iconst (pc := 19) d27_19 ci_1 (go_iadd (pc := 20) d27_20 ?_)
    obtain ⟨a21, e3, hf⟩ := Option.bind_eq_some_iff.mp hf
    refine go_iastore (pc := 21) (q := 2) ar_2 rfl hn_27 e3 d27_21 ?_
    cases hf
    exact go_ret (pc := 22) rfl d27_22
theorem c_k_refInc (v1 : Int32) (s : S) (o : S) (hf : k_refInc v1 s = some o) : Call PP m27 [.ref 1, .int v1] (none, [(11, s)]) (none, (none, [(11, o)])) := call_of_go pl_0 rfl (fun _ => rfl) (k_refInc_ok v1 s   _ hf)
set_option maxRecDepth 65536 in
set_option maxHeartbeats 4000000 in
theorem k_writeFieldRaw_ok  : ∀ (v1 : Int32) (v2 : Int32) (v3 : Int32) (s : S)  (o : S), k_writeFieldRaw v1 v2 v3 s = some o → Go PP m28 0 [.val (.ref 1), .val (.int v1), .val (.int v2), .val (.int v3)] [] (none, [(11, s)]) (none, (none, [(11, o)])) := by
  intro v1 v2 v3 s o hf
  unfold k_writeFieldRaw at hf
  refine go_aloadN (pc := 0) d28_0 rfl (go_iloadN (pc := 1) d28_1 rfl ?_)
  refine go_priv (pc := 2) (i := 0) (as := [.int v1]) (rest := []) (w' := (none, [(11, s)])) lk_0_165 pd_12 rfl oid_0 rfl rfl rfl rfl rfl rfl ⟨rfl, rfl, rfl, rfl, rfl⟩ d28_2 (c_k_isObjectId v1 s) ?_
  by_cases h1 : (k_isObjectId v1 s) = 0
  · replace hf := (if_pos h1).symm.trans hf
    refine go_ifN (pc := 5) d28_5 (XT.i0_ne_f h1) ?_
    cases hf
    exact go_ret (pc := 8) rfl d28_8
  · replace hf := (if_neg h1).symm.trans hf
    refine go_ifY (pc := 5) (pc' := 9) d28_5 (XT.i0_ne_t h1) j_5_4 ?_
    refine go_aloadN (pc := 9) d28_9 rfl (go_iloadN (pc := 10) d28_10 rfl ?_)
    refine go_priv (pc := 11) (i := 0) (as := [.int v2]) (rest := []) (w' := (none, [(11, s)])) lk_0_138 pd_19 rfl oid_0 rfl rfl rfl rfl rfl rfl ⟨rfl, rfl, rfl, rfl, rfl⟩ d28_11 (c_k_isFieldNo v2 s) ?_
    by_cases h2 : (k_isFieldNo v2 s) = 0
    · replace hf := (if_pos h2).symm.trans hf
      refine go_ifN (pc := 14) d28_14 (XT.i0_ne_f h2) ?_
      cases hf
      exact go_ret (pc := 17) rfl d28_17
    · replace hf := (if_neg h2).symm.trans hf
      refine go_ifY (pc := 14) (pc' := 18) d28_14 (XT.i0_ne_t h2) j_14_4 ?_
      refine go_aloadN (pc := 18) d28_18 rfl (go_getA (pc := 19) fa_13 hm_28 d28_19 rfl (go_iloadN (pc := 22) d28_22 rfl (go_iconst (pc := 23) d28_23 ci_4 (go_imul (pc := 24) d28_24 (go_iloadN (pc := 25) d28_25 rfl (go_iadd (pc := 26) d28_26 (go_iloadN (pc := 27) d28_27 rfl ?_)))))))
      obtain ⟨a28, e3, hf⟩ := Option.bind_eq_some_iff.mp hf
      refine go_iastore (pc := 28) (q := 1) ar_1 rfl hn_28 e3 d28_28 ?_
      cases hf
      exact go_ret (pc := 29) rfl d28_29
theorem c_k_writeFieldRaw (v1 : Int32) (v2 : Int32) (v3 : Int32) (s : S) (o : S) (hf : k_writeFieldRaw v1 v2 v3 s = some o) : Call PP m28 [.ref 1, .int v1, .int v2, .int v3] (none, [(11, s)]) (none, (none, [(11, o)])) := call_of_go pl_0 rfl (fun _ => rfl) (k_writeFieldRaw_ok v1 v2 v3 s   _ hf)
set_option maxRecDepth 65536 in
set_option maxHeartbeats 4000000 in
theorem k_assignField_ok  : ∀ (v1 : Int32) (v2 : Int32) (v3 : Int32) (s : S)  (o : S), k_assignField v1 v2 v3 s = some o → Go PP m29 0 [.val (.ref 1), .val (.int v1), .val (.int v2), .val (.int v3), .unset] [] (none, [(11, s)]) (none, (none, [(11, o)])) := by
  intro v1 v2 v3 s o hf
  unfold k_assignField at hf
  refine go_aloadN (pc := 0) d29_0 rfl (go_iloadN (pc := 1) d29_1 rfl (go_iloadN (pc := 2) d29_2 rfl ?_))
  obtain ⟨r3, e1, hf⟩ := Option.bind_eq_some_iff.mp hf
  refine go_priv (pc := 3) (i := 0) (as := [.int v1, .int v2]) (rest := []) (w' := (none, [(11, s)])) lk_0_98 pd_24 rfl oid_0 rfl rfl rfl rfl rfl rfl ⟨rfl, rfl, rfl, rfl, rfl⟩ d29_3 (c_k_readField v1 v2 s _ e1) ?_
  refine go_istore (pc := 6) (L' := [.val (.ref 1), .val (.int v1), .val (.int v2), .val (.int v3), .val (.int r3)]) d29_6 rfl (go_aloadN (pc := 8) d29_8 rfl (go_iload (pc := 9) d29_9 rfl ?_))
  obtain ⟨r11, e2, hf⟩ := Option.bind_eq_some_iff.mp hf
  refine go_priv (pc := 11) (i := 0) (as := [.int r3]) (rest := []) (w' := (none, [(11, r11)])) lk_0_168 pd_26 rfl oid_0 rfl rfl rfl rfl rfl rfl ⟨rfl, rfl, rfl, rfl, rfl⟩ d29_11 (c_k_refDec r3 s _ e2) ?_
  refine go_aloadN (pc := 14) d29_14 rfl (go_iloadN (pc := 15) d29_15 rfl ?_)
  obtain ⟨r16, e3, hf⟩ := Option.bind_eq_some_iff.mp hf
  refine go_priv (pc := 16) (i := 0) (as := [.int v3]) (rest := []) (w' := (none, [(11, r16)])) lk_0_171 pd_27 rfl oid_0 rfl rfl rfl rfl rfl rfl ⟨rfl, rfl, rfl, rfl, rfl⟩ d29_16 (c_k_refInc v3 r11 _ e3) ?_
  refine go_aloadN (pc := 19) d29_19 rfl (go_iloadN (pc := 20) d29_20 rfl (go_iloadN (pc := 21) d29_21 rfl (go_iloadN (pc := 22) d29_22 rfl ?_)))
  obtain ⟨r23, e4, hf⟩ := Option.bind_eq_some_iff.mp hf
  refine go_priv (pc := 23) (i := 0) (as := [.int v1, .int v2, .int v3]) (rest := []) (w' := (none, [(11, r23)])) lk_0_174 pd_28 rfl oid_0 rfl rfl rfl rfl rfl rfl ⟨rfl, rfl, rfl, rfl, rfl⟩ d29_23 (c_k_writeFieldRaw v1 v2 v3 r16 _ e4) ?_
  cases hf
  exact go_ret (pc := 26) rfl d29_26
theorem c_k_assignField (v1 : Int32) (v2 : Int32) (v3 : Int32) (s : S) (o : S) (hf : k_assignField v1 v2 v3 s = some o) : Call PP m29 [.ref 1, .int v1, .int v2, .int v3] (none, [(11, s)]) (none, (none, [(11, o)])) := call_of_go pl_0 rfl (fun _ => rfl) (k_assignField_ok v1 v2 v3 s   _ hf)
set_option maxRecDepth 65536 in
set_option maxHeartbeats 4000000 in
theorem k_noteZeroCount_ok  : ∀ (v1 : Int32) (s : S)  (o : Unit), k_noteZeroCount v1 s = some o → Go PP m30 0 [.val (.ref 1), .val (.int v1)] [] (none, [(11, s)]) (none, (none, [(11, s)])) := by
  intro v1 s o hf
  unfold k_noteZeroCount at hf
  refine go_iloadN (pc := 0) d30_0 rfl (go_iconst (pc := 1) d30_1 ci_m1 ?_)
  by_cases h1 : v1 = (-1 : Int32)
  · replace hf := (if_pos h1).symm.trans hf
    refine go_icN (pc := 2) d30_2 (XT.ii_ne_f h1) ?_
    cases hf
    exact go_ret (pc := 5) rfl d30_5
  · replace hf := (if_neg h1).symm.trans hf
    refine go_icY (pc := 2) (pc' := 6) d30_2 (XT.ii_ne_t h1) j_2_4 ?_
    refine go_aloadN (pc := 6) d30_6 rfl (go_iloadN (pc := 7) d30_7 rfl ?_)
    refine go_priv (pc := 8) (i := 0) (as := [.int v1]) (rest := []) (w' := (none, [(11, s)])) lk_0_165 pd_12 rfl oid_0 rfl rfl rfl rfl rfl rfl ⟨rfl, rfl, rfl, rfl, rfl⟩ d30_8 (c_k_isObjectId v1 s) ?_
    by_cases h2 : (k_isObjectId v1 s) = 0
    · replace hf := (if_pos h2).symm.trans hf
      refine go_ifN (pc := 11) d30_11 (XT.i0_ne_f h2) ?_
      cases hf
      exact go_ret (pc := 14) rfl d30_14
    · replace hf := (if_neg h2).symm.trans hf
      refine go_ifY (pc := 11) (pc' := 15) d30_11 (XT.i0_ne_t h2) j_11_4 ?_
      refine go_aloadN (pc := 15) d30_15 rfl (go_getA (pc := 16) fa_17 hm_30 d30_16 rfl (go_iloadN (pc := 19) d30_19 rfl ?_))
      obtain ⟨a20, e3, hf⟩ := Option.bind_eq_some_iff.mp hf
      refine go_iaload (pc := 20) (q := 2) ar_2 rfl e3 d30_20 ?_
      by_cases h4 : a20 = 0
      · replace hf := (if_pos h4).symm.trans hf
        refine go_ifY (pc := 21) (pc' := 25) d30_21 (XT.i0_eq_t h4) j_21_4 ?_
        refine go_aloadN (pc := 25) d30_25 rfl (go_iloadN (pc := 26) d30_26 rfl ?_)
        exact nomatch hf
      · replace hf := (if_neg h4).symm.trans hf
        refine go_ifN (pc := 21) d30_21 (XT.i0_eq_f h4) ?_
        cases hf
        exact go_ret (pc := 24) rfl d30_24
theorem c_k_noteZeroCount (v1 : Int32) (s : S) (o : Unit) (hf : k_noteZeroCount v1 s = some o) : Call PP m30 [.ref 1, .int v1] (none, [(11, s)]) (none, (none, [(11, s)])) := call_of_go pl_0 rfl (fun _ => rfl) (k_noteZeroCount_ok v1 s   _ hf)
set_option maxRecDepth 65536 in
set_option maxHeartbeats 4000000 in
theorem k_store_ok  : ∀ (v1 : Int32) (v2 : Int32) (v3 : Int32) (s : S)  (o : Int32 × S), k_store v1 v2 v3 s = some o → Go PP m31 0 [.val (.ref 1), .val (.int v1), .val (.int v2), .val (.int v3), .unset, .unset, .unset, .unset] [] (none, [(11, s)]) (some (.int o.1), (none, [(11, o.2)])) := by
  intro v1 v2 v3 s o hf
  unfold k_store at hf
  refine go_aloadN (pc := 0) d31_0 rfl (go_iloadN (pc := 1) d31_1 rfl (go_iloadN (pc := 2) d31_2 rfl (go_iloadN (pc := 3) d31_3 rfl ?_)))
  obtain ⟨r4, e1, hf⟩ := Option.bind_eq_some_iff.mp hf
  refine go_priv (pc := 4) (i := 0) (as := [.int v1, .int v2, .int v3]) (rest := []) (w' := (none, [(11, s)])) lk_0_104 pd_22 rfl oid_0 rfl rfl rfl rfl rfl rfl ⟨rfl, rfl, rfl, rfl, rfl⟩ d31_4 (c_k_storeCheck v1 v2 v3 s _ e1) ?_
  refine go_istore (pc := 7) (L' := [.val (.ref 1), .val (.int v1), .val (.int v2), .val (.int v3), .val (.int r4), .unset, .unset, .unset]) d31_7 rfl (go_iload (pc := 9) d31_9 rfl ?_)
  by_cases h2 : r4 = 0
  · replace hf := (if_pos h2).symm.trans hf
    refine go_ifY (pc := 11) (pc' := 17) d31_11 (XT.i0_eq_t h2) j_11_6 ?_
    refine go_aloadN (pc := 17) d31_17 rfl (go_getA (pc := 18) fa_20 hm_31 d31_18 rfl (go_iloadN (pc := 21) d31_21 rfl ?_))
    obtain ⟨a22, e3, hf⟩ := Option.bind_eq_some_iff.mp hf
    refine go_iaload (pc := 22) (q := 3) ar_3 rfl e3 d31_22 ?_
    refine go_istore (pc := 23) (L' := [.val (.ref 1), .val (.int v1), .val (.int v2), .val (.int v3), .val (.int r4), .val (.int a22), .unset, .unset]) d31_23 rfl (go_aloadN (pc := 25) d31_25 rfl (go_iloadN (pc := 26) d31_26 rfl ?_))
    obtain ⟨r27, e4, hf⟩ := Option.bind_eq_some_iff.mp hf
    refine go_priv (pc := 27) (i := 0) (as := [.int v3]) (rest := []) (w' := (none, [(11, s)])) lk_0_107 pd_23 rfl oid_0 rfl rfl rfl rfl rfl rfl ⟨rfl, rfl, rfl, rfl, rfl⟩ d31_27 (c_k_valueOfSlot v3 s _ e4) ?_
    refine go_istore (pc := 30) (L' := [.val (.ref 1), .val (.int v1), .val (.int v2), .val (.int v3), .val (.int r4), .val (.int a22), .val (.int r27), .unset]) d31_30 rfl (go_aloadN (pc := 32) d31_32 rfl (go_iload (pc := 33) d31_33 rfl (go_iloadN (pc := 35) d31_35 rfl ?_)))
    obtain ⟨r36, e5, hf⟩ := Option.bind_eq_some_iff.mp hf
    refine go_priv (pc := 36) (i := 0) (as := [.int a22, .int v2]) (rest := []) (w' := (none, [(11, s)])) lk_0_98 pd_24 rfl oid_0 rfl rfl rfl rfl rfl rfl ⟨rfl, rfl, rfl, rfl, rfl⟩ d31_36 (c_k_readField a22 v2 s _ e5) ?_
    refine go_istore (pc := 39) (L' := [.val (.ref 1), .val (.int v1), .val (.int v2), .val (.int v3), .val (.int r4), .val (.int a22), .val (.int r27), .val (.int r36)]) d31_39 rfl (go_aloadN (pc := 41) d31_41 rfl (go_iload (pc := 42) d31_42 rfl (go_iload (pc := 44) d31_44 rfl ?_)))
    obtain ⟨r46, e6, hf⟩ := Option.bind_eq_some_iff.mp hf
    refine go_priv (pc := 46) (i := 0) (as := [.int r36, .int r27]) (rest := []) (w' := (none, [(11, s)])) lk_0_111 pd_25 rfl oid_0 rfl rfl rfl rfl rfl rfl ⟨rfl, rfl, rfl, rfl, rfl⟩ d31_46 (c_k_storeNeedsReconcile r36 r27 s _ e6) ?_
    by_cases h7 : r46 = 0
    · replace hf := (if_pos h7).symm.trans hf
      refine go_ifY (pc := 49) (pc' := 57) d31_49 (XT.i0_eq_t h7) j_49_8 ?_
      refine go_aloadN (pc := 57) d31_57 rfl (go_iload (pc := 58) d31_58 rfl (go_iloadN (pc := 60) d31_60 rfl (go_iload (pc := 61) d31_61 rfl ?_)))
      obtain ⟨r63, e8, hf⟩ := Option.bind_eq_some_iff.mp hf
      refine go_priv (pc := 63) (i := 0) (as := [.int a22, .int v2, .int r27]) (rest := []) (w' := (none, [(11, r63)])) lk_0_115 pd_29 rfl oid_0 rfl rfl rfl rfl rfl rfl ⟨rfl, rfl, rfl, rfl, rfl⟩ d31_63 (c_k_assignField a22 v2 r27 s _ e8) ?_
      refine go_aloadN (pc := 66) d31_66 rfl (go_iload (pc := 67) d31_67 rfl ?_)
      obtain ⟨r69, e9, hf⟩ := Option.bind_eq_some_iff.mp hf
      refine go_priv (pc := 69) (i := 0) (as := [.int r36]) (rest := []) (w' := (none, [(11, r63)])) lk_0_119 pd_30 rfl oid_0 rfl rfl rfl rfl rfl rfl ⟨rfl, rfl, rfl, rfl, rfl⟩ d31_69 (c_k_noteZeroCount r36 r63 _ e9) ?_
      refine go_iconst (pc := 72) d31_72 ci_0 ?_
      cases hf
      exact go_iret (pc := 73) rfl d31_73
    · replace hf := (if_neg h7).symm.trans hf
      refine go_ifN (pc := 49) d31_49 (XT.i0_eq_f h7) ?_
      refine go_aloadN (pc := 52) d31_52 rfl ?_
      exact nomatch hf
  · replace hf := (if_neg h2).symm.trans hf
    refine go_ifN (pc := 11) d31_11 (XT.i0_eq_f h2) ?_
    refine go_iload (pc := 14) d31_14 rfl ?_
    cases hf
    exact go_iret (pc := 16) rfl d31_16
theorem c_k_store (v1 : Int32) (v2 : Int32) (v3 : Int32) (s : S) (o : Int32 × S) (hf : k_store v1 v2 v3 s = some o) : Call PP m31 [.ref 1, .int v1, .int v2, .int v3] (none, [(11, s)]) (some (.int o.1), (none, [(11, o.2)])) := call_of_go pl_0 rfl (fun h => nomatch h) (k_store_ok v1 v2 v3 s   _ hf)
set_option maxRecDepth 65536 in
set_option maxHeartbeats 4000000 in
theorem k_field_ok  : ∀ (v1 : Int32) (v2 : Int32) (s : S)  (o : Int32), k_field v1 v2 s = some o → Go PP m32 0 [.val (.ref 1), .val (.int v1), .val (.int v2)] [] (none, [(11, s)]) (some (.int o), (none, [(11, s)])) := by
  intro v1 v2 s o hf
  unfold k_field at hf
  refine go_aloadN (pc := 0) d32_0 rfl (go_iloadN (pc := 1) d32_1 rfl ?_)
  obtain ⟨r2, e1, hf⟩ := Option.bind_eq_some_iff.mp hf
  refine go_priv (pc := 2) (i := 0) (as := [.int v1]) (rest := []) (w' := (none, [(11, s)])) lk_0_135 pd_21 rfl oid_0 rfl rfl rfl rfl rfl rfl ⟨rfl, rfl, rfl, rfl, rfl⟩ d32_2 (c_k_isLiveId v1 s _ e1) ?_
  by_cases h2 : r2 = 0
  · replace hf := (if_pos h2).symm.trans hf
    refine go_ifN (pc := 5) d32_5 (XT.i0_ne_f h2) ?_
    refine go_bipush (pc := 8) d32_8 cb_m8 ?_
    cases hf
    exact go_iret (pc := 10) rfl d32_10
  · replace hf := (if_neg h2).symm.trans hf
    refine go_ifY (pc := 5) (pc' := 11) d32_5 (XT.i0_ne_t h2) j_5_6 ?_
    refine go_aloadN (pc := 11) d32_11 rfl (go_iloadN (pc := 12) d32_12 rfl ?_)
    refine go_priv (pc := 13) (i := 0) (as := [.int v2]) (rest := []) (w' := (none, [(11, s)])) lk_0_138 pd_19 rfl oid_0 rfl rfl rfl rfl rfl rfl ⟨rfl, rfl, rfl, rfl, rfl⟩ d32_13 (c_k_isFieldNo v2 s) ?_
    by_cases h3 : (k_isFieldNo v2 s) = 0
    · replace hf := (if_pos h3).symm.trans hf
      refine go_ifN (pc := 16) d32_16 (XT.i0_ne_f h3) ?_
      refine go_bipush (pc := 19) d32_19 cb_m6 ?_
      cases hf
      exact go_iret (pc := 21) rfl d32_21
    · replace hf := (if_neg h3).symm.trans hf
      refine go_ifY (pc := 16) (pc' := 22) d32_16 (XT.i0_ne_t h3) j_16_6 ?_
      refine go_aloadN (pc := 22) d32_22 rfl (go_iloadN (pc := 23) d32_23 rfl (go_iloadN (pc := 24) d32_24 rfl ?_))
      obtain ⟨r25, e4, hf⟩ := Option.bind_eq_some_iff.mp hf
      refine go_priv (pc := 25) (i := 0) (as := [.int v1, .int v2]) (rest := []) (w' := (none, [(11, s)])) lk_0_98 pd_24 rfl oid_0 rfl rfl rfl rfl rfl rfl ⟨rfl, rfl, rfl, rfl, rfl⟩ d32_25 (c_k_readField v1 v2 s _ e4) ?_
      cases hf
      exact go_iret (pc := 28) rfl d32_28
theorem c_k_field (v1 : Int32) (v2 : Int32) (s : S) (o : Int32) (hf : k_field v1 v2 s = some o) : Call PP m32 [.ref 1, .int v1, .int v2] (none, [(11, s)]) (some (.int o), (none, [(11, s)])) := call_of_go pl_0 rfl (fun h => nomatch h) (k_field_ok v1 v2 s   _ hf)
set_option maxRecDepth 65536 in
set_option maxHeartbeats 4000000 in
theorem k_count_ok  : ∀ (v1 : Int32) (s : S)  (o : Int32), k_count v1 s = some o → Go PP m33 0 [.val (.ref 1), .val (.int v1)] [] (none, [(11, s)]) (some (.int o), (none, [(11, s)])) := by
  intro v1 s o hf
  unfold k_count at hf
  refine go_aloadN (pc := 0) d33_0 rfl (go_iloadN (pc := 1) d33_1 rfl ?_)
  obtain ⟨r2, e1, hf⟩ := Option.bind_eq_some_iff.mp hf
  refine go_priv (pc := 2) (i := 0) (as := [.int v1]) (rest := []) (w' := (none, [(11, s)])) lk_0_135 pd_21 rfl oid_0 rfl rfl rfl rfl rfl rfl ⟨rfl, rfl, rfl, rfl, rfl⟩ d33_2 (c_k_isLiveId v1 s _ e1) ?_
  by_cases h2 : r2 = 0
  · replace hf := (if_pos h2).symm.trans hf
    refine go_ifN (pc := 5) d33_5 (XT.i0_ne_f h2) ?_
    refine go_bipush (pc := 8) d33_8 cb_m8 ?_
    cases hf
    exact go_iret (pc := 10) rfl d33_10
  · replace hf := (if_neg h2).symm.trans hf
    refine go_ifY (pc := 5) (pc' := 11) d33_5 (XT.i0_ne_t h2) j_5_6 ?_
    refine go_aloadN (pc := 11) d33_11 rfl (go_getA (pc := 12) fa_17 hm_33 d33_12 rfl (go_iloadN (pc := 15) d33_15 rfl ?_))
    obtain ⟨a16, e3, hf⟩ := Option.bind_eq_some_iff.mp hf
    refine go_iaload (pc := 16) (q := 2) ar_2 rfl e3 d33_16 ?_
    cases hf
    exact go_iret (pc := 17) rfl d33_17
theorem c_k_count (v1 : Int32) (s : S) (o : Int32) (hf : k_count v1 s = some o) : Call PP m33 [.ref 1, .int v1] (none, [(11, s)]) (some (.int o), (none, [(11, s)])) := call_of_go pl_0 rfl (fun h => nomatch h) (k_count_ok v1 s   _ hf)
set_option maxRecDepth 65536 in
set_option maxHeartbeats 4000000 in
theorem k_tableSize_ok  : ∀  (s : S)  (o : Int32), k_tableSize s = o → Go PP m34 0 [.val (.ref 1)] [] (none, [(11, s)]) (some (.int o), (none, [(11, s)])) := by
  intro s o hf
  unfold k_tableSize at hf
  refine go_aloadN (pc := 0) d34_0 rfl (go_getI (pc := 1) fs_144 hm_34 d34_1 ?_)
  cases hf
  exact go_iret (pc := 4) rfl d34_4
theorem c_k_tableSize (s : S) : Call PP m34 [.ref 1] (none, [(11, s)]) (some (.int (k_tableSize s)), (none, [(11, s)])) := call_of_go pl_0 rfl (fun h => nomatch h) (k_tableSize_ok s   _ rfl)
set_option maxRecDepth 65536 in
set_option maxHeartbeats 4000000 in
theorem k_reconciliations_ok  : ∀  (s : S)  (o : Int32), k_reconciliations s = o → Go PP m35 0 [.val (.ref 1)] [] (none, [(11, s)]) (some (.int o), (none, [(11, s)])) := by
  intro s o hf
  unfold k_reconciliations at hf
  refine go_aloadN (pc := 0) d35_0 rfl (go_getI (pc := 1) fs_73 hm_35 d35_1 ?_)
  cases hf
  exact go_iret (pc := 4) rfl d35_4
theorem c_k_reconciliations (s : S) : Call PP m35 [.ref 1] (none, [(11, s)]) (some (.int (k_reconciliations s)), (none, [(11, s)])) := call_of_go pl_0 rfl (fun h => nomatch h) (k_reconciliations_ok s   _ rfl)
set_option maxRecDepth 65536 in
set_option maxHeartbeats 4000000 in
theorem k_depth_ok  : ∀  (s : S)  (o : Int32), k_depth s = o → Go PP m36 0 [.val (.ref 1)] [] (none, [(11, s)]) (some (.int o), (none, [(11, s)])) := by
  intro s o hf
  unfold k_depth at hf
  refine go_aloadN (pc := 0) d36_0 rfl (go_getI (pc := 1) fs_125 hm_36 d36_1 ?_)
  cases hf
  exact go_iret (pc := 4) rfl d36_4
theorem c_k_depth (s : S) : Call PP m36 [.ref 1] (none, [(11, s)]) (some (.int (k_depth s)), (none, [(11, s)])) := call_of_go pl_0 rfl (fun h => nomatch h) (k_depth_ok s   _ rfl)
set_option maxRecDepth 65536 in
set_option maxHeartbeats 4000000 in
theorem law_273_ok  : ∀ (v5 : Int32) (v6 : Int32) (v7 : Int32) (v12 : Int32) (v14 : Int32) (v15 : Int32) (v16 : Int32) (v17 : Int32) (v18 : Int32) (v19 : Int32) (v20 : Int32) (p0 : Int32) (t0 : S) (x0 : Slot) (x1 : Slot) (x2 : Slot) (x3 : Slot) (x8 : Slot) (x9 : Slot) (x10 : Slot) (x11 : Slot) (x13 : Slot) (hx0 : k1 x0) (hx1 : k1 x1) (hx2 : k1 x2) (hx3 : k1 x3) (hx8 : k1 x8) (hx9 : k1 x9) (hx10 : k1 x10) (hx11 : k1 x11) (hx13 : k1 x13) (o : Int32 × S), law_273 v5 v6 v7 v12 v14 v15 v16 v17 v18 v19 v20 p0 t0 = some o → Go PP m37 273 [x0, x1, x2, x3, .val (.ref 1), .val (.int v5), .val (.int v6), .val (.int v7), x8, x9, x10, x11, .val (.int v12), x13, .val (.int v14), .val (.int v15), .val (.int v16), .val (.int v17), .val (.int v18), .val (.int v19), .val (.int v20), .unset, .unset, .unset, .unset] [.int p0] (none, [(11, t0)]) (some (.int o.1), (none, [(11, o.2)])) := by
  intro v5 v6 v7 v12 v14 v15 v16 v17 v18 v19 v20 p0 t0 x0 x1 x2 x3 x8 x9 x10 x11 x13 hx0 hx1 hx2 hx3 hx8 hx9 hx10 hx11 hx13 o hf
  unfold law_273 at hf
  refine go_istore (pc := 273) (L' := [x0, x1, x2, x3, .val (.ref 1), .val (.int v5), .val (.int v6), .val (.int v7), x8, x9, x10, x11, .val (.int v12), x13, .val (.int v14), .val (.int v15), .val (.int v16), .val (.int v17), .val (.int v18), .val (.int v19), .val (.int v20), .val (.int p0), .unset, .unset, .unset]) d37_273 rfl (go_aload (pc := 275) d37_275 rfl ?_)
  refine go_virt (pc := 277) (i := 0) (as := []) (rest := []) (w' := (none, [(11, t0)])) lk_1_28 pd_34 rfl oid_0 rfl rfl rfl rfl rfl rfl ⟨rfl, rfl, rfl, rfl, rfl⟩ d37_277 (c_k_tableSize t0) ?_
  refine go_istore (pc := 280) (L' := [x0, x1, x2, x3, .val (.ref 1), .val (.int v5), .val (.int v6), .val (.int v7), x8, x9, x10, x11, .val (.int v12), x13, .val (.int v14), .val (.int v15), .val (.int v16), .val (.int v17), .val (.int v18), .val (.int v19), .val (.int v20), .val (.int p0), .val (.int (k_tableSize t0)), .unset, .unset]) d37_280 rfl (go_aload (pc := 282) d37_282 rfl ?_)
  refine go_virt (pc := 284) (i := 0) (as := []) (rest := []) (w' := (none, [(11, t0)])) lk_1_31 pd_35 rfl oid_0 rfl rfl rfl rfl rfl rfl ⟨rfl, rfl, rfl, rfl, rfl⟩ d37_284 (c_k_reconciliations t0) ?_
  refine go_istore (pc := 287) (L' := [x0, x1, x2, x3, .val (.ref 1), .val (.int v5), .val (.int v6), .val (.int v7), x8, x9, x10, x11, .val (.int v12), x13, .val (.int v14), .val (.int v15), .val (.int v16), .val (.int v17), .val (.int v18), .val (.int v19), .val (.int v20), .val (.int p0), .val (.int (k_tableSize t0)), .val (.int (k_reconciliations t0)), .unset]) d37_287 rfl (go_aload (pc := 289) d37_289 rfl ?_)
  refine go_virt (pc := 291) (i := 0) (as := []) (rest := []) (w' := (none, [(11, t0)])) lk_1_34 pd_36 rfl oid_0 rfl rfl rfl rfl rfl rfl ⟨rfl, rfl, rfl, rfl, rfl⟩ d37_291 (c_k_depth t0) ?_
  refine go_istore (pc := 294) (L' := [x0, x1, x2, x3, .val (.ref 1), .val (.int v5), .val (.int v6), .val (.int v7), x8, x9, x10, x11, .val (.int v12), x13, .val (.int v14), .val (.int v15), .val (.int v16), .val (.int v17), .val (.int v18), .val (.int v19), .val (.int v20), .val (.int p0), .val (.int (k_tableSize t0)), .val (.int (k_reconciliations t0)), .val (.int (k_depth t0))]) d37_294 rfl (go_iload (pc := 296) d37_296 rfl ?_)
  by_cases h1 : v5 = 0
  · replace hf := (if_pos h1).symm.trans hf
    refine go_ifN (pc := 298) d37_298 (XT.i0_ne_f h1) ?_
    refine go_iload (pc := 301) d37_301 rfl (go_iconst (pc := 303) d37_303 ci_1 ?_)
    by_cases h2 : v6 = (1 : Int32)
    · replace hf := (if_pos h2).symm.trans hf
      refine go_icN (pc := 304) d37_304 (XT.ii_ne_f h2) ?_
      refine go_iload (pc := 307) d37_307 rfl (go_iload (pc := 309) d37_309 rfl ?_)
      by_cases h3 : v7 = v12
      · replace hf := (if_pos h3).symm.trans hf
        refine go_icN (pc := 311) d37_311 (XT.ii_ne_f h3) ?_
        refine go_iload (pc := 314) d37_314 rfl (go_iload (pc := 316) d37_316 rfl ?_)
        by_cases h4 : v14 = v16
        · replace hf := (if_pos h4).symm.trans hf
          refine go_icN (pc := 318) d37_318 (XT.ii_ne_f h4) ?_
          refine go_iload (pc := 321) d37_321 rfl (go_iload (pc := 323) d37_323 rfl ?_)
          by_cases h5 : v15 = v17
          · replace hf := (if_pos h5).symm.trans hf
            refine go_icN (pc := 325) d37_325 (XT.ii_ne_f h5) ?_
            refine go_iload (pc := 328) d37_328 rfl (go_iload (pc := 330) d37_330 rfl ?_)
            by_cases h6 : v18 = v20
            · replace hf := (if_pos h6).symm.trans hf
              refine go_icN (pc := 332) d37_332 (XT.ii_ne_f h6) ?_
              refine go_iload (pc := 335) d37_335 rfl (go_iload (pc := 337) d37_337 rfl ?_)
              by_cases h7 : v19 = p0
              · replace hf := (if_pos h7).symm.trans hf
                refine go_icN (pc := 339) d37_339 (XT.ii_ne_f h7) ?_
                refine go_iload (pc := 342) d37_342 rfl (go_iconst (pc := 344) d37_344 ci_2 ?_)
                by_cases h8 : (k_tableSize t0) = (2 : Int32)
                · replace hf := (if_pos h8).symm.trans hf
                  refine go_icN (pc := 345) d37_345 (XT.ii_ne_f h8) ?_
                  refine go_iload (pc := 348) d37_348 rfl ?_
                  by_cases h9 : (k_reconciliations t0) = 0
                  · replace hf := (if_pos h9).symm.trans hf
                    refine go_ifN (pc := 350) d37_350 (XT.i0_ne_f h9) ?_
                    refine go_iload (pc := 353) d37_353 rfl (go_iconst (pc := 355) d37_355 ci_2 ?_)
                    by_cases h10 : (k_depth t0) = (2 : Int32)
                    · replace hf := (if_pos h10).symm.trans hf
                      refine go_icN (pc := 356) d37_356 (XT.ii_ne_f h10) ?_
                      refine go_iconst (pc := 359) d37_359 ci_1 (go_goto (pc := 360) (pc' := 364) d37_360 j_360_4 ?_)
                      cases hf
                      exact go_zret (pc := 364) rfl d37_364 (show (1 : Int32) = nar .boolean (1 : Int32) by decide)
                    · replace hf := (if_neg h10).symm.trans hf
                      refine go_icY (pc := 356) (pc' := 363) d37_356 (XT.ii_ne_t h10) j_356_7 ?_
                      refine go_iconst (pc := 363) d37_363 ci_0 ?_
                      cases hf
                      exact go_zret (pc := 364) rfl d37_364 (show (0 : Int32) = nar .boolean (0 : Int32) by decide)
                  · replace hf := (if_neg h9).symm.trans hf
                    refine go_ifY (pc := 350) (pc' := 363) d37_350 (XT.i0_ne_t h9) j_350_13 ?_
                    refine go_iconst (pc := 363) d37_363 ci_0 ?_
                    cases hf
                    exact go_zret (pc := 364) rfl d37_364 (show (0 : Int32) = nar .boolean (0 : Int32) by decide)
                · replace hf := (if_neg h8).symm.trans hf
                  refine go_icY (pc := 345) (pc' := 363) d37_345 (XT.ii_ne_t h8) j_345_18 ?_
                  refine go_iconst (pc := 363) d37_363 ci_0 ?_
                  cases hf
                  exact go_zret (pc := 364) rfl d37_364 (show (0 : Int32) = nar .boolean (0 : Int32) by decide)
              · replace hf := (if_neg h7).symm.trans hf
                refine go_icY (pc := 339) (pc' := 363) d37_339 (XT.ii_ne_t h7) j_339_24 ?_
                refine go_iconst (pc := 363) d37_363 ci_0 ?_
                cases hf
                exact go_zret (pc := 364) rfl d37_364 (show (0 : Int32) = nar .boolean (0 : Int32) by decide)
            · replace hf := (if_neg h6).symm.trans hf
              refine go_icY (pc := 332) (pc' := 363) d37_332 (XT.ii_ne_t h6) j_332_31 ?_
              refine go_iconst (pc := 363) d37_363 ci_0 ?_
              cases hf
              exact go_zret (pc := 364) rfl d37_364 (show (0 : Int32) = nar .boolean (0 : Int32) by decide)
          · replace hf := (if_neg h5).symm.trans hf
            refine go_icY (pc := 325) (pc' := 363) d37_325 (XT.ii_ne_t h5) j_325_38 ?_
            refine go_iconst (pc := 363) d37_363 ci_0 ?_
            cases hf
            exact go_zret (pc := 364) rfl d37_364 (show (0 : Int32) = nar .boolean (0 : Int32) by decide)
        · replace hf := (if_neg h4).symm.trans hf
          refine go_icY (pc := 318) (pc' := 363) d37_318 (XT.ii_ne_t h4) j_318_45 ?_
          refine go_iconst (pc := 363) d37_363 ci_0 ?_
          cases hf
          exact go_zret (pc := 364) rfl d37_364 (show (0 : Int32) = nar .boolean (0 : Int32) by decide)
      · replace hf := (if_neg h3).symm.trans hf
        refine go_icY (pc := 311) (pc' := 363) d37_311 (XT.ii_ne_t h3) j_311_52 ?_
        refine go_iconst (pc := 363) d37_363 ci_0 ?_
        cases hf
        exact go_zret (pc := 364) rfl d37_364 (show (0 : Int32) = nar .boolean (0 : Int32) by decide)
    · replace hf := (if_neg h2).symm.trans hf
      refine go_icY (pc := 304) (pc' := 363) d37_304 (XT.ii_ne_t h2) j_304_59 ?_
      refine go_iconst (pc := 363) d37_363 ci_0 ?_
      cases hf
      exact go_zret (pc := 364) rfl d37_364 (show (0 : Int32) = nar .boolean (0 : Int32) by decide)
  · replace hf := (if_neg h1).symm.trans hf
    refine go_ifY (pc := 298) (pc' := 363) d37_298 (XT.i0_ne_t h1) j_298_65 ?_
    refine go_iconst (pc := 363) d37_363 ci_0 ?_
    cases hf
    exact go_zret (pc := 364) rfl d37_364 (show (0 : Int32) = nar .boolean (0 : Int32) by decide)
set_option maxRecDepth 65536 in
set_option maxHeartbeats 4000000 in
theorem law_256_ok  : ∀ (v3 : Int32) (v5 : Int32) (v6 : Int32) (v7 : Int32) (v12 : Int32) (v13 : Int32) (v14 : Int32) (v15 : Int32) (v16 : Int32) (v17 : Int32) (v18 : Int32) (v19 : Int32) (p0 : Int32) (t0 : S) (x0 : Slot) (x1 : Slot) (x2 : Slot) (x8 : Slot) (x9 : Slot) (x10 : Slot) (x11 : Slot) (hx0 : k1 x0) (hx1 : k1 x1) (hx2 : k1 x2) (hx8 : k1 x8) (hx9 : k1 x9) (hx10 : k1 x10) (hx11 : k1 x11) (o : Int32 × S), law_256 v3 v5 v6 v7 v12 v13 v14 v15 v16 v17 v18 v19 p0 t0 = some o → Go PP m37 256 [x0, x1, x2, .val (.int v3), .val (.ref 1), .val (.int v5), .val (.int v6), .val (.int v7), x8, x9, x10, x11, .val (.int v12), .val (.int v13), .val (.int v14), .val (.int v15), .val (.int v16), .val (.int v17), .val (.int v18), .val (.int v19), .unset, .unset, .unset, .unset, .unset] [.int p0] (none, [(11, t0)]) (some (.int o.1), (none, [(11, o.2)])) := by
  intro v3 v5 v6 v7 v12 v13 v14 v15 v16 v17 v18 v19 p0 t0 x0 x1 x2 x8 x9 x10 x11 hx0 hx1 hx2 hx8 hx9 hx10 hx11 o hf
  unfold law_256 at hf
  refine go_istore (pc := 256) (L' := [x0, x1, x2, .val (.int v3), .val (.ref 1), .val (.int v5), .val (.int v6), .val (.int v7), x8, x9, x10, x11, .val (.int v12), .val (.int v13), .val (.int v14), .val (.int v15), .val (.int v16), .val (.int v17), .val (.int v18), .val (.int v19), .val (.int p0), .unset, .unset, .unset, .unset]) d37_256 rfl (go_iload (pc := 258) d37_258 rfl ?_)
  by_cases h1 : v13 = 0
  · refine go_ifY (pc := 260) (pc' := 272) d37_260 (XT.i0_eq_t h1) j_260_12 ?_
    refine go_iconst (pc := 272) d37_272 ci_0 ?_
    exact law_273_ok v5 v6 v7 v12 v14 v15 v16 v17 v18 v19 p0 (0 : Int32) t0 x0 x1 x2 (.val (.int v3)) x8 x9 x10 x11 (.val (.int v13)) hx0 hx1 hx2 (Or.inr ⟨_, rfl, rfl⟩) hx8 hx9 hx10 hx11 (Or.inr ⟨_, rfl, rfl⟩) _ (by simpa only [if_pos h1] using hf)
  · refine go_ifN (pc := 260) d37_260 (XT.i0_eq_f h1) ?_
    refine go_iloadN (pc := 263) d37_263 rfl (go_iconst (pc := 264) d37_264 ci_1 ?_)
    by_cases h2 : v3 = (1 : Int32)
    · refine go_icN (pc := 265) d37_265 (XT.ii_ne_f h2) ?_
      refine go_iconst (pc := 268) d37_268 ci_1 (go_goto (pc := 269) (pc' := 273) d37_269 j_269_4 ?_)
      exact law_273_ok v5 v6 v7 v12 v14 v15 v16 v17 v18 v19 p0 (1 : Int32) t0 x0 x1 x2 (.val (.int v3)) x8 x9 x10 x11 (.val (.int v13)) hx0 hx1 hx2 (Or.inr ⟨_, rfl, rfl⟩) hx8 hx9 hx10 hx11 (Or.inr ⟨_, rfl, rfl⟩) _ (by simpa only [if_neg h1, if_pos h2] using hf)
    · refine go_icY (pc := 265) (pc' := 272) d37_265 (XT.ii_ne_t h2) j_265_7 ?_
      refine go_iconst (pc := 272) d37_272 ci_0 ?_
      exact law_273_ok v5 v6 v7 v12 v14 v15 v16 v17 v18 v19 p0 (0 : Int32) t0 x0 x1 x2 (.val (.int v3)) x8 x9 x10 x11 (.val (.int v13)) hx0 hx1 hx2 (Or.inr ⟨_, rfl, rfl⟩) hx8 hx9 hx10 hx11 (Or.inr ⟨_, rfl, rfl⟩) _ (by simpa only [if_neg h1, if_neg h2] using hf)
set_option maxRecDepth 65536 in
set_option maxHeartbeats 4000000 in
theorem law_224_ok  : ∀ (v3 : Int32) (v5 : Int32) (v6 : Int32) (v7 : Int32) (v12 : Int32) (v13 : Int32) (v14 : Int32) (v15 : Int32) (v16 : Int32) (p0 : Int32) (t0 : S) (x0 : Slot) (x1 : Slot) (x2 : Slot) (x8 : Slot) (x9 : Slot) (x10 : Slot) (x11 : Slot) (hx0 : k1 x0) (hx1 : k1 x1) (hx2 : k1 x2) (hx8 : k1 x8) (hx9 : k1 x9) (hx10 : k1 x10) (hx11 : k1 x11) (o : Int32 × S), law_224 v3 v5 v6 v7 v12 v13 v14 v15 v16 p0 t0 = some o → Go PP m37 224 [x0, x1, x2, .val (.int v3), .val (.ref 1), .val (.int v5), .val (.int v6), .val (.int v7), x8, x9, x10, x11, .val (.int v12), .val (.int v13), .val (.int v14), .val (.int v15), .val (.int v16), .unset, .unset, .unset, .unset, .unset, .unset, .unset, .unset] [.int p0] (none, [(11, t0)]) (some (.int o.1), (none, [(11, o.2)])) := by
  intro v3 v5 v6 v7 v12 v13 v14 v15 v16 p0 t0 x0 x1 x2 x8 x9 x10 x11 hx0 hx1 hx2 hx8 hx9 hx10 hx11 o hf
  unfold law_224 at hf
  refine go_istore (pc := 224) (L' := [x0, x1, x2, .val (.int v3), .val (.ref 1), .val (.int v5), .val (.int v6), .val (.int v7), x8, x9, x10, x11, .val (.int v12), .val (.int v13), .val (.int v14), .val (.int v15), .val (.int v16), .val (.int p0), .unset, .unset, .unset, .unset, .unset, .unset, .unset]) d37_224 rfl (go_aload (pc := 226) d37_226 rfl (go_iconst (pc := 228) d37_228 ci_0 ?_))
  obtain ⟨r229, e1, hf⟩ := Option.bind_eq_some_iff.mp hf
  refine go_virt (pc := 229) (i := 0) (as := [.int (0 : Int32)]) (rest := []) (w' := (none, [(11, t0)])) lk_1_24 pd_33 rfl oid_0 rfl rfl rfl rfl rfl rfl ⟨rfl, rfl, rfl, rfl, rfl⟩ d37_229 (c_k_count (0 : Int32) t0 _ e1) ?_
  refine go_istore (pc := 232) (L' := [x0, x1, x2, .val (.int v3), .val (.ref 1), .val (.int v5), .val (.int v6), .val (.int v7), x8, x9, x10, x11, .val (.int v12), .val (.int v13), .val (.int v14), .val (.int v15), .val (.int v16), .val (.int p0), .val (.int r229), .unset, .unset, .unset, .unset, .unset, .unset]) d37_232 rfl (go_aload (pc := 234) d37_234 rfl (go_iconst (pc := 236) d37_236 ci_1 ?_))
  obtain ⟨r237, e2, hf⟩ := Option.bind_eq_some_iff.mp hf
  refine go_virt (pc := 237) (i := 0) (as := [.int (1 : Int32)]) (rest := []) (w' := (none, [(11, t0)])) lk_1_24 pd_33 rfl oid_0 rfl rfl rfl rfl rfl rfl ⟨rfl, rfl, rfl, rfl, rfl⟩ d37_237 (c_k_count (1 : Int32) t0 _ e2) ?_
  refine go_istore (pc := 240) (L' := [x0, x1, x2, .val (.int v3), .val (.ref 1), .val (.int v5), .val (.int v6), .val (.int v7), x8, x9, x10, x11, .val (.int v12), .val (.int v13), .val (.int v14), .val (.int v15), .val (.int v16), .val (.int p0), .val (.int r229), .val (.int r237), .unset, .unset, .unset, .unset, .unset]) d37_240 rfl (go_iload (pc := 242) d37_242 rfl ?_)
  by_cases h3 : v13 = 0
  · refine go_ifY (pc := 244) (pc' := 255) d37_244 (XT.i0_eq_t h3) j_244_11 ?_
    refine go_iconst (pc := 255) d37_255 ci_0 ?_
    exact law_256_ok v3 v5 v6 v7 v12 v13 v14 v15 v16 p0 r229 r237 (0 : Int32) t0 x0 x1 x2 x8 x9 x10 x11 hx0 hx1 hx2 hx8 hx9 hx10 hx11 _ (by simpa only [if_pos h3] using hf)
  · refine go_ifN (pc := 244) d37_244 (XT.i0_eq_f h3) ?_
    refine go_iloadN (pc := 247) d37_247 rfl ?_
    by_cases h4 : v3 = 0
    · refine go_ifN (pc := 248) d37_248 (XT.i0_ne_f h4) ?_
      refine go_iconst (pc := 251) d37_251 ci_1 (go_goto (pc := 252) (pc' := 256) d37_252 j_252_4 ?_)
      exact law_256_ok v3 v5 v6 v7 v12 v13 v14 v15 v16 p0 r229 r237 (1 : Int32) t0 x0 x1 x2 x8 x9 x10 x11 hx0 hx1 hx2 hx8 hx9 hx10 hx11 _ (by simpa only [if_neg h3, if_pos h4] using hf)
    · refine go_ifY (pc := 248) (pc' := 255) d37_248 (XT.i0_ne_t h4) j_248_7 ?_
      refine go_iconst (pc := 255) d37_255 ci_0 ?_
      exact law_256_ok v3 v5 v6 v7 v12 v13 v14 v15 v16 p0 r229 r237 (0 : Int32) t0 x0 x1 x2 x8 x9 x10 x11 hx0 hx1 hx2 hx8 hx9 hx10 hx11 _ (by simpa only [if_neg h3, if_neg h4] using hf)
set_option maxRecDepth 65536 in
set_option maxHeartbeats 4000000 in
theorem law_197_ok  : ∀ (v1 : Int32) (v3 : Int32) (v5 : Int32) (v6 : Int32) (v7 : Int32) (v10 : Int32) (v12 : Int32) (v13 : Int32) (v14 : Int32) (v15 : Int32) (p0 : Int32) (t0 : S) (x0 : Slot) (x2 : Slot) (x8 : Slot) (x9 : Slot) (x11 : Slot) (hx0 : k1 x0) (hx2 : k1 x2) (hx8 : k1 x8) (hx9 : k1 x9) (hx11 : k1 x11) (o : Int32 × S), law_197 v1 v3 v5 v6 v7 v10 v12 v13 v14 v15 p0 t0 = some o → Go PP m37 197 [x0, .val (.int v1), x2, .val (.int v3), .val (.ref 1), .val (.int v5), .val (.int v6), .val (.int v7), x8, x9, .val (.int v10), x11, .val (.int v12), .val (.int v13), .val (.int v14), .val (.int v15), .unset, .unset, .unset, .unset, .unset, .unset, .unset, .unset, .unset] [.int p0] (none, [(11, t0)]) (some (.int o.1), (none, [(11, o.2)])) := by
  intro v1 v3 v5 v6 v7 v10 v12 v13 v14 v15 p0 t0 x0 x2 x8 x9 x11 hx0 hx2 hx8 hx9 hx11 o hf
  unfold law_197 at hf
  refine go_istore (pc := 197) (L' := [x0, .val (.int v1), x2, .val (.int v3), .val (.ref 1), .val (.int v5), .val (.int v6), .val (.int v7), x8, x9, .val (.int v10), x11, .val (.int v12), .val (.int v13), .val (.int v14), .val (.int v15), .val (.int p0), .unset, .unset, .unset, .unset, .unset, .unset, .unset, .unset]) d37_197 rfl (go_iload (pc := 199) d37_199 rfl ?_)
  by_cases h1 : v10 = 0
  · refine go_ifN (pc := 201) d37_201 (XT.i0_ne_f h1) ?_
    refine go_bipush (pc := 204) d37_204 cb_m6 (go_goto (pc := 206) (pc' := 224) d37_206 j_206_18 ?_)
    exact law_224_ok v3 v5 v6 v7 v12 v13 v14 v15 p0 (-6 : Int32) t0 x0 (.val (.int v1)) x2 x8 x9 (.val (.int v10)) x11 hx0 (Or.inr ⟨_, rfl, rfl⟩) hx2 hx8 hx9 (Or.inr ⟨_, rfl, rfl⟩) hx11 _ (by simpa only [if_pos h1] using hf)
  · refine go_ifY (pc := 201) (pc' := 209) d37_201 (XT.i0_ne_t h1) j_201_8 ?_
    refine go_iload (pc := 209) d37_209 rfl ?_
    by_cases h2 : v13 = 0
    · refine go_ifY (pc := 211) (pc' := 223) d37_211 (XT.i0_eq_t h2) j_211_12 ?_
      refine go_iconst (pc := 223) d37_223 ci_m1 ?_
      exact law_224_ok v3 v5 v6 v7 v12 v13 v14 v15 p0 (-1 : Int32) t0 x0 (.val (.int v1)) x2 x8 x9 (.val (.int v10)) x11 hx0 (Or.inr ⟨_, rfl, rfl⟩) hx2 hx8 hx9 (Or.inr ⟨_, rfl, rfl⟩) hx11 _ (by simpa only [if_neg h1, if_pos h2] using hf)
    · refine go_ifN (pc := 211) d37_211 (XT.i0_eq_f h2) ?_
      refine go_iloadN (pc := 214) d37_214 rfl (go_iconst (pc := 215) d37_215 ci_1 ?_)
      by_cases h3 : v1 = (1 : Int32)
      · refine go_icN (pc := 216) d37_216 (XT.ii_ne_f h3) ?_
        refine go_iloadN (pc := 219) d37_219 rfl (go_goto (pc := 220) (pc' := 224) d37_220 j_220_4 ?_)
        exact law_224_ok v3 v5 v6 v7 v12 v13 v14 v15 p0 v3 t0 x0 (.val (.int v1)) x2 x8 x9 (.val (.int v10)) x11 hx0 (Or.inr ⟨_, rfl, rfl⟩) hx2 hx8 hx9 (Or.inr ⟨_, rfl, rfl⟩) hx11 _ (by simpa only [if_neg h1, if_neg h2, if_pos h3] using hf)
      · refine go_icY (pc := 216) (pc' := 223) d37_216 (XT.ii_ne_t h3) j_216_7 ?_
        refine go_iconst (pc := 223) d37_223 ci_m1 ?_
        exact law_224_ok v3 v5 v6 v7 v12 v13 v14 v15 p0 (-1 : Int32) t0 x0 (.val (.int v1)) x2 x8 x9 (.val (.int v10)) x11 hx0 (Or.inr ⟨_, rfl, rfl⟩) hx2 hx8 hx9 (Or.inr ⟨_, rfl, rfl⟩) hx11 _ (by simpa only [if_neg h1, if_neg h2, if_neg h3] using hf)
set_option maxRecDepth 65536 in
set_option maxHeartbeats 4000000 in
theorem law_153_ok  : ∀ (v1 : Int32) (v2 : Int32) (v3 : Int32) (v5 : Int32) (v6 : Int32) (v7 : Int32) (v10 : Int32) (v12 : Int32) (p0 : Int32) (t0 : S) (x0 : Slot) (x8 : Slot) (x9 : Slot) (x11 : Slot) (hx0 : k1 x0) (hx8 : k1 x8) (hx9 : k1 x9) (hx11 : k1 x11) (o : Int32 × S), law_153 v1 v2 v3 v5 v6 v7 v10 v12 p0 t0 = some o → Go PP m37 153 [x0, .val (.int v1), .val (.int v2), .val (.int v3), .val (.ref 1), .val (.int v5), .val (.int v6), .val (.int v7), x8, x9, .val (.int v10), x11, .val (.int v12), .unset, .unset, .unset, .unset, .unset, .unset, .unset, .unset, .unset, .unset, .unset, .unset] [.int p0] (none, [(11, t0)]) (some (.int o.1), (none, [(11, o.2)])) := by
  intro v1 v2 v3 v5 v6 v7 v10 v12 p0 t0 x0 x8 x9 x11 hx0 hx8 hx9 hx11 o hf
  unfold law_153 at hf
  refine go_istore (pc := 153) (L' := [x0, .val (.int v1), .val (.int v2), .val (.int v3), .val (.ref 1), .val (.int v5), .val (.int v6), .val (.int v7), x8, x9, .val (.int v10), x11, .val (.int v12), .val (.int p0), .unset, .unset, .unset, .unset, .unset, .unset, .unset, .unset, .unset, .unset, .unset]) d37_153 rfl (go_aload (pc := 155) d37_155 rfl (go_iconst (pc := 157) d37_157 ci_0 (go_iloadN (pc := 158) d37_158 rfl ?_)))
  obtain ⟨r159, e1, hf⟩ := Option.bind_eq_some_iff.mp hf
  refine go_virt (pc := 159) (i := 0) (as := [.int (0 : Int32), .int v2]) (rest := []) (w' := (none, [(11, t0)])) lk_1_20 pd_32 rfl oid_0 rfl rfl rfl rfl rfl rfl ⟨rfl, rfl, rfl, rfl, rfl⟩ d37_159 (c_k_field (0 : Int32) v2 t0 _ e1) ?_
  refine go_istore (pc := 162) (L' := [x0, .val (.int v1), .val (.int v2), .val (.int v3), .val (.ref 1), .val (.int v5), .val (.int v6), .val (.int v7), x8, x9, .val (.int v10), x11, .val (.int v12), .val (.int p0), .val (.int r159), .unset, .unset, .unset, .unset, .unset, .unset, .unset, .unset, .unset, .unset]) d37_162 rfl (go_aload (pc := 164) d37_164 rfl (go_iconst (pc := 166) d37_166 ci_1 (go_iloadN (pc := 167) d37_167 rfl ?_)))
  obtain ⟨r168, e2, hf⟩ := Option.bind_eq_some_iff.mp hf
  refine go_virt (pc := 168) (i := 0) (as := [.int (1 : Int32), .int v2]) (rest := []) (w' := (none, [(11, t0)])) lk_1_20 pd_32 rfl oid_0 rfl rfl rfl rfl rfl rfl ⟨rfl, rfl, rfl, rfl, rfl⟩ d37_168 (c_k_field (1 : Int32) v2 t0 _ e2) ?_
  refine go_istore (pc := 171) (L' := [x0, .val (.int v1), .val (.int v2), .val (.int v3), .val (.ref 1), .val (.int v5), .val (.int v6), .val (.int v7), x8, x9, .val (.int v10), x11, .val (.int v12), .val (.int p0), .val (.int r159), .val (.int r168), .unset, .unset, .unset, .unset, .unset, .unset, .unset, .unset, .unset]) d37_171 rfl (go_iload (pc := 173) d37_173 rfl ?_)
  by_cases h3 : v10 = 0
  · refine go_ifN (pc := 175) d37_175 (XT.i0_ne_f h3) ?_
    refine go_bipush (pc := 178) d37_178 cb_m6 (go_goto (pc := 180) (pc' := 197) d37_180 j_180_17 ?_)
    exact law_197_ok v1 v3 v5 v6 v7 v10 v12 p0 r159 r168 (-6 : Int32) t0 x0 (.val (.int v2)) x8 x9 x11 hx0 (Or.inr ⟨_, rfl, rfl⟩) hx8 hx9 hx11 _ (by simpa only [if_pos h3] using hf)
  · refine go_ifY (pc := 175) (pc' := 183) d37_175 (XT.i0_ne_t h3) j_175_8 ?_
    refine go_iload (pc := 183) d37_183 rfl ?_
    by_cases h4 : p0 = 0
    · refine go_ifY (pc := 185) (pc' := 196) d37_185 (XT.i0_eq_t h4) j_185_11 ?_
      refine go_iconst (pc := 196) d37_196 ci_m1 ?_
      exact law_197_ok v1 v3 v5 v6 v7 v10 v12 p0 r159 r168 (-1 : Int32) t0 x0 (.val (.int v2)) x8 x9 x11 hx0 (Or.inr ⟨_, rfl, rfl⟩) hx8 hx9 hx11 _ (by simpa only [if_neg h3, if_pos h4] using hf)
    · refine go_ifN (pc := 185) d37_185 (XT.i0_eq_f h4) ?_
      refine go_iloadN (pc := 188) d37_188 rfl ?_
      by_cases h5 : v1 = 0
      · refine go_ifN (pc := 189) d37_189 (XT.i0_ne_f h5) ?_
        refine go_iloadN (pc := 192) d37_192 rfl (go_goto (pc := 193) (pc' := 197) d37_193 j_193_4 ?_)
        exact law_197_ok v1 v3 v5 v6 v7 v10 v12 p0 r159 r168 v3 t0 x0 (.val (.int v2)) x8 x9 x11 hx0 (Or.inr ⟨_, rfl, rfl⟩) hx8 hx9 hx11 _ (by simpa only [if_neg h3, if_neg h4, if_pos h5] using hf)
      · refine go_ifY (pc := 189) (pc' := 196) d37_189 (XT.i0_ne_t h5) j_189_7 ?_
        refine go_iconst (pc := 196) d37_196 ci_m1 ?_
        exact law_197_ok v1 v3 v5 v6 v7 v10 v12 p0 r159 r168 (-1 : Int32) t0 x0 (.val (.int v2)) x8 x9 x11 hx0 (Or.inr ⟨_, rfl, rfl⟩) hx8 hx9 hx11 _ (by simpa only [if_neg h3, if_neg h4, if_neg h5] using hf)
set_option maxRecDepth 65536 in
set_option maxHeartbeats 4000000 in
theorem law_141_ok  : ∀ (v1 : Int32) (v2 : Int32) (v3 : Int32) (v5 : Int32) (v6 : Int32) (v7 : Int32) (v10 : Int32) (p0 : Int32) (t0 : S) (x0 : Slot) (x8 : Slot) (x9 : Slot) (x11 : Slot) (hx0 : k1 x0) (hx8 : k1 x8) (hx9 : k1 x9) (hx11 : k1 x11) (o : Int32 × S), law_141 v1 v2 v3 v5 v6 v7 v10 p0 t0 = some o → Go PP m37 141 [x0, .val (.int v1), .val (.int v2), .val (.int v3), .val (.ref 1), .val (.int v5), .val (.int v6), .val (.int v7), x8, x9, .val (.int v10), x11, .unset, .unset, .unset, .unset, .unset, .unset, .unset, .unset, .unset, .unset, .unset, .unset, .unset] [.int p0] (none, [(11, t0)]) (some (.int o.1), (none, [(11, o.2)])) := by
  intro v1 v2 v3 v5 v6 v7 v10 p0 t0 x0 x8 x9 x11 hx0 hx8 hx9 hx11 o hf
  unfold law_141 at hf
  refine go_istore (pc := 141) (L' := [x0, .val (.int v1), .val (.int v2), .val (.int v3), .val (.ref 1), .val (.int v5), .val (.int v6), .val (.int v7), x8, x9, .val (.int v10), x11, .val (.int p0), .unset, .unset, .unset, .unset, .unset, .unset, .unset, .unset, .unset, .unset, .unset, .unset]) d37_141 rfl (go_iload (pc := 143) d37_143 rfl ?_)
  by_cases h1 : p0 = 0
  · refine go_ifN (pc := 145) d37_145 (XT.i0_ne_f h1) ?_
    refine go_iconst (pc := 148) d37_148 ci_1 (go_goto (pc := 149) (pc' := 153) d37_149 j_149_4 ?_)
    exact law_153_ok v1 v2 v3 v5 v6 v7 v10 p0 (1 : Int32) t0 x0 x8 x9 x11 hx0 hx8 hx9 hx11 _ (by simpa only [if_pos h1] using hf)
  · refine go_ifY (pc := 145) (pc' := 152) d37_145 (XT.i0_ne_t h1) j_145_7 ?_
    refine go_iconst (pc := 152) d37_152 ci_0 ?_
    exact law_153_ok v1 v2 v3 v5 v6 v7 v10 p0 (0 : Int32) t0 x0 x8 x9 x11 hx0 hx8 hx9 hx11 _ (by simpa only [if_neg h1] using hf)
set_option maxRecDepth 65536 in
set_option maxHeartbeats 4000000 in
theorem law_108_ok  : ∀ (v1 : Int32) (v2 : Int32) (v3 : Int32) (v5 : Int32) (v6 : Int32) (v7 : Int32) (v9 : Int32) (v10 : Int32) (p0 : Int32) (t0 : S) (x0 : Slot) (x8 : Slot) (hx0 : k1 x0) (hx8 : k1 x8) (o : Int32 × S), law_108 v1 v2 v3 v5 v6 v7 v9 v10 p0 t0 = some o → Go PP m37 108 [x0, .val (.int v1), .val (.int v2), .val (.int v3), .val (.ref 1), .val (.int v5), .val (.int v6), .val (.int v7), x8, .val (.int v9), .val (.int v10), .unset, .unset, .unset, .unset, .unset, .unset, .unset, .unset, .unset, .unset, .unset, .unset, .unset, .unset] [.int p0] (none, [(11, t0)]) (some (.int o.1), (none, [(11, o.2)])) := by
  intro v1 v2 v3 v5 v6 v7 v9 v10 p0 t0 x0 x8 hx0 hx8 o hf
  unfold law_108 at hf
  refine go_istore (pc := 108) (L' := [x0, .val (.int v1), .val (.int v2), .val (.int v3), .val (.ref 1), .val (.int v5), .val (.int v6), .val (.int v7), x8, .val (.int v9), .val (.int v10), .val (.int p0), .unset, .unset, .unset, .unset, .unset, .unset, .unset, .unset, .unset, .unset, .unset, .unset, .unset]) d37_108 rfl (go_iload (pc := 110) d37_110 rfl ?_)
  by_cases h1 : v9 = 0
  · refine go_ifN (pc := 112) d37_112 (XT.i0_ne_f h1) ?_
    refine go_bipush (pc := 115) d37_115 cb_m5 (go_goto (pc := 117) (pc' := 141) d37_117 j_117_24 ?_)
    exact law_141_ok v1 v2 v3 v5 v6 v7 v10 (-5 : Int32) t0 x0 x8 (.val (.int v9)) (.val (.int p0)) hx0 hx8 (Or.inr ⟨_, rfl, rfl⟩) (Or.inr ⟨_, rfl, rfl⟩) _ (by simpa only [if_pos h1] using hf)
  · refine go_ifY (pc := 112) (pc' := 120) d37_112 (XT.i0_ne_t h1) j_112_8 ?_
    refine go_iload (pc := 120) d37_120 rfl ?_
    by_cases h2 : v10 = 0
    · refine go_ifN (pc := 122) d37_122 (XT.i0_ne_f h2) ?_
      refine go_bipush (pc := 125) d37_125 cb_m6 (go_goto (pc := 127) (pc' := 141) d37_127 j_127_14 ?_)
      exact law_141_ok v1 v2 v3 v5 v6 v7 v10 (-6 : Int32) t0 x0 x8 (.val (.int v9)) (.val (.int p0)) hx0 hx8 (Or.inr ⟨_, rfl, rfl⟩) (Or.inr ⟨_, rfl, rfl⟩) _ (by simpa only [if_neg h1, if_pos h2] using hf)
    · refine go_ifY (pc := 122) (pc' := 130) d37_122 (XT.i0_ne_t h2) j_122_8 ?_
      refine go_iload (pc := 130) d37_130 rfl ?_
      by_cases h3 : p0 = 0
      · refine go_ifN (pc := 132) d37_132 (XT.i0_ne_f h3) ?_
        refine go_bipush (pc := 135) d37_135 cb_m5 (go_goto (pc := 137) (pc' := 141) d37_137 j_137_4 ?_)
        exact law_141_ok v1 v2 v3 v5 v6 v7 v10 (-5 : Int32) t0 x0 x8 (.val (.int v9)) (.val (.int p0)) hx0 hx8 (Or.inr ⟨_, rfl, rfl⟩) (Or.inr ⟨_, rfl, rfl⟩) _ (by simpa only [if_neg h1, if_neg h2, if_pos h3] using hf)
      · refine go_ifY (pc := 132) (pc' := 140) d37_132 (XT.i0_ne_t h3) j_132_8 ?_
        refine go_iconst (pc := 140) d37_140 ci_0 ?_
        exact law_141_ok v1 v2 v3 v5 v6 v7 v10 (0 : Int32) t0 x0 x8 (.val (.int v9)) (.val (.int p0)) hx0 hx8 (Or.inr ⟨_, rfl, rfl⟩) (Or.inr ⟨_, rfl, rfl⟩) _ (by simpa only [if_neg h1, if_neg h2, if_neg h3] using hf)
set_option maxRecDepth 65536 in
set_option maxHeartbeats 4000000 in
theorem law_91_ok  : ∀ (v1 : Int32) (v2 : Int32) (v3 : Int32) (v5 : Int32) (v6 : Int32) (v7 : Int32) (v9 : Int32) (p0 : Int32) (t0 : S) (x0 : Slot) (x8 : Slot) (hx0 : k1 x0) (hx8 : k1 x8) (o : Int32 × S), law_91 v1 v2 v3 v5 v6 v7 v9 p0 t0 = some o → Go PP m37 91 [x0, .val (.int v1), .val (.int v2), .val (.int v3), .val (.ref 1), .val (.int v5), .val (.int v6), .val (.int v7), x8, .val (.int v9), .unset, .unset, .unset, .unset, .unset, .unset, .unset, .unset, .unset, .unset, .unset, .unset, .unset, .unset, .unset] [.int p0] (none, [(11, t0)]) (some (.int o.1), (none, [(11, o.2)])) := by
  intro v1 v2 v3 v5 v6 v7 v9 p0 t0 x0 x8 hx0 hx8 o hf
  unfold law_91 at hf
  refine go_istore (pc := 91) (L' := [x0, .val (.int v1), .val (.int v2), .val (.int v3), .val (.ref 1), .val (.int v5), .val (.int v6), .val (.int v7), x8, .val (.int v9), .val (.int p0), .unset, .unset, .unset, .unset, .unset, .unset, .unset, .unset, .unset, .unset, .unset, .unset, .unset, .unset]) d37_91 rfl (go_iloadN (pc := 93) d37_93 rfl (go_iconst (pc := 94) d37_94 ci_m1 ?_))
  by_cases h1 : v3 < (-1 : Int32)
  · refine go_icY (pc := 95) (pc' := 107) d37_95 (XT.ii_lt_t h1) j_95_12 ?_
    refine go_iconst (pc := 107) d37_107 ci_0 ?_
    exact law_108_ok v1 v2 v3 v5 v6 v7 v9 p0 (0 : Int32) t0 x0 x8 hx0 hx8 _ (by simpa only [if_pos h1] using hf)
  · refine go_icN (pc := 95) d37_95 (XT.ii_lt_f h1) ?_
    refine go_iloadN (pc := 98) d37_98 rfl (go_iconst (pc := 99) d37_99 ci_1 ?_)
    by_cases h2 : (1 : Int32) < v3
    · refine go_icY (pc := 100) (pc' := 107) d37_100 (XT.ii_gt_t h2) j_100_7 ?_
      refine go_iconst (pc := 107) d37_107 ci_0 ?_
      exact law_108_ok v1 v2 v3 v5 v6 v7 v9 p0 (0 : Int32) t0 x0 x8 hx0 hx8 _ (by simpa only [if_neg h1, if_pos h2] using hf)
    · refine go_icN (pc := 100) d37_100 (XT.ii_gt_f h2) ?_
      refine go_iconst (pc := 103) d37_103 ci_1 (go_goto (pc := 104) (pc' := 108) d37_104 j_104_4 ?_)
      exact law_108_ok v1 v2 v3 v5 v6 v7 v9 p0 (1 : Int32) t0 x0 x8 hx0 hx8 _ (by simpa only [if_neg h1, if_neg h2] using hf)
set_option maxRecDepth 65536 in
set_option maxHeartbeats 4000000 in
theorem law_74_ok  : ∀ (v1 : Int32) (v2 : Int32) (v3 : Int32) (v5 : Int32) (v6 : Int32) (v7 : Int32) (v8 : Int32) (p0 : Int32) (t0 : S) (x0 : Slot) (hx0 : k1 x0) (o : Int32 × S), law_74 v1 v2 v3 v5 v6 v7 v8 p0 t0 = some o → Go PP m37 74 [x0, .val (.int v1), .val (.int v2), .val (.int v3), .val (.ref 1), .val (.int v5), .val (.int v6), .val (.int v7), .val (.int v8), .unset, .unset, .unset, .unset, .unset, .unset, .unset, .unset, .unset, .unset, .unset, .unset, .unset, .unset, .unset, .unset] [.int p0] (none, [(11, t0)]) (some (.int o.1), (none, [(11, o.2)])) := by
  intro v1 v2 v3 v5 v6 v7 v8 p0 t0 x0 hx0 o hf
  unfold law_74 at hf
  refine go_istore (pc := 74) (L' := [x0, .val (.int v1), .val (.int v2), .val (.int v3), .val (.ref 1), .val (.int v5), .val (.int v6), .val (.int v7), .val (.int v8), .val (.int p0), .unset, .unset, .unset, .unset, .unset, .unset, .unset, .unset, .unset, .unset, .unset, .unset, .unset, .unset, .unset]) d37_74 rfl (go_iloadN (pc := 76) d37_76 rfl ?_)
  by_cases h1 : v2 < 0
  · refine go_ifY (pc := 77) (pc' := 90) d37_77 (XT.i0_lt_t h1) j_77_13 ?_
    refine go_iconst (pc := 90) d37_90 ci_0 ?_
    exact law_91_ok v1 v2 v3 v5 v6 v7 p0 (0 : Int32) t0 x0 (.val (.int v8)) hx0 (Or.inr ⟨_, rfl, rfl⟩) _ (by simpa only [if_pos h1] using hf)
  · refine go_ifN (pc := 77) d37_77 (XT.i0_lt_f h1) ?_
    refine go_iloadN (pc := 80) d37_80 rfl (go_iload (pc := 81) d37_81 rfl ?_)
    by_cases h2 : v2 < v8
    · refine go_icN (pc := 83) d37_83 (XT.ii_ge_f h2) ?_
      refine go_iconst (pc := 86) d37_86 ci_1 (go_goto (pc := 87) (pc' := 91) d37_87 j_87_4 ?_)
      exact law_91_ok v1 v2 v3 v5 v6 v7 p0 (1 : Int32) t0 x0 (.val (.int v8)) hx0 (Or.inr ⟨_, rfl, rfl⟩) _ (by simpa only [if_neg h1, if_pos h2] using hf)
    · refine go_icY (pc := 83) (pc' := 90) d37_83 (XT.ii_ge_t h2) j_83_7 ?_
      refine go_iconst (pc := 90) d37_90 ci_0 ?_
      exact law_91_ok v1 v2 v3 v5 v6 v7 p0 (0 : Int32) t0 x0 (.val (.int v8)) hx0 (Or.inr ⟨_, rfl, rfl⟩) _ (by simpa only [if_neg h1, if_neg h2] using hf)
set_option maxRecDepth 65536 in
set_option maxHeartbeats 4000000 in
theorem law_58_ok  : ∀ (v1 : Int32) (v2 : Int32) (v3 : Int32) (v5 : Int32) (v6 : Int32) (v7 : Int32) (p0 : Int32) (t0 : S) (x0 : Slot) (hx0 : k1 x0) (o : Int32 × S), law_58 v1 v2 v3 v5 v6 v7 p0 t0 = some o → Go PP m37 58 [x0, .val (.int v1), .val (.int v2), .val (.int v3), .val (.ref 1), .val (.int v5), .val (.int v6), .val (.int v7), .unset, .unset, .unset, .unset, .unset, .unset, .unset, .unset, .unset, .unset, .unset, .unset, .unset, .unset, .unset, .unset, .unset] [.int p0] (none, [(11, t0)]) (some (.int o.1), (none, [(11, o.2)])) := by
  intro v1 v2 v3 v5 v6 v7 p0 t0 x0 hx0 o hf
  unfold law_58 at hf
  refine go_istore (pc := 58) (L' := [x0, .val (.int v1), .val (.int v2), .val (.int v3), .val (.ref 1), .val (.int v5), .val (.int v6), .val (.int v7), .val (.int p0), .unset, .unset, .unset, .unset, .unset, .unset, .unset, .unset, .unset, .unset, .unset, .unset, .unset, .unset, .unset, .unset]) d37_58 rfl (go_iloadN (pc := 60) d37_60 rfl ?_)
  by_cases h1 : v1 = 0
  · refine go_ifY (pc := 61) (pc' := 69) d37_61 (XT.i0_eq_t h1) j_61_8 ?_
    refine go_iconst (pc := 69) d37_69 ci_1 (go_goto (pc := 70) (pc' := 74) d37_70 j_70_4 ?_)
    exact law_74_ok v1 v2 v3 v5 v6 v7 p0 (1 : Int32) t0 x0 hx0 _ (by simpa only [if_pos h1] using hf)
  · refine go_ifN (pc := 61) d37_61 (XT.i0_eq_f h1) ?_
    refine go_iloadN (pc := 64) d37_64 rfl (go_iconst (pc := 65) d37_65 ci_1 ?_)
    by_cases h2 : v1 = (1 : Int32)
    · refine go_icN (pc := 66) d37_66 (XT.ii_ne_f h2) ?_
      refine go_iconst (pc := 69) d37_69 ci_1 (go_goto (pc := 70) (pc' := 74) d37_70 j_70_4 ?_)
      exact law_74_ok v1 v2 v3 v5 v6 v7 p0 (1 : Int32) t0 x0 hx0 _ (by simpa only [if_neg h1, if_pos h2] using hf)
    · refine go_icY (pc := 66) (pc' := 73) d37_66 (XT.ii_ne_t h2) j_66_7 ?_
      refine go_iconst (pc := 73) d37_73 ci_0 ?_
      exact law_74_ok v1 v2 v3 v5 v6 v7 p0 (0 : Int32) t0 x0 hx0 _ (by simpa only [if_neg h1, if_neg h2] using hf)
set_option maxRecDepth 65536 in
set_option maxHeartbeats 4000000 in
theorem law_ok  : ∀ (v0 : Int32) (v1 : Int32) (v2 : Int32) (v3 : Int32)   (o : Int32 × S), law v0 v1 v2 v3 = some o → Go PP m37 0 [.val (.int v0), .val (.int v1), .val (.int v2), .val (.int v3), .unset, .unset, .unset, .unset, .unset, .unset, .unset, .unset, .unset, .unset, .unset, .unset, .unset, .unset, .unset, .unset, .unset, .unset, .unset, .unset, .unset] [] (none, []) (some (.int o.1), (none, [(11, o.2)])) := by
  intro v0 v1 v2 v3 o hf
  unfold law at hf
  refine go_new (pc := 0) (n := 0) (w' := (none, [(0, s0)])) (List.mem_of_getElem? (i := 0) rfl) rfl rfl rfl rfl rfl rfl rfl d37_0 oid_0 ?_
  refine go_dupR (pc := 3) d37_3 (go_bipush (pc := 4) d37_4 cb_8 (go_iloadN (pc := 6) d37_6 rfl (go_iconst (pc := 7) d37_7 ci_4 (go_bipush (pc := 8) d37_8 cb_16 ?_))))
  obtain ⟨r10, e2, hf⟩ := Option.bind_eq_some_iff.mp hf
  refine go_init (pc := 10) (i := 0) (as := [.int (8 : Int32), .int v0, .int (4 : Int32), .int (16 : Int32)]) (rest := [.ref 1]) (w' := (none, [(11, r10)])) lk_1_9 pd_6 rfl oid_0 rfl rfl rfl rfl rfl rfl rfl rfl rfl ⟨rfl, rfl, rfl⟩ ⟨rfl, rfl⟩ d37_10 (c_k_init (8 : Int32) v0 (4 : Int32) (16 : Int32) _ e2) ?_
  refine go_astore (pc := 13) (L' := [.val (.int v0), .val (.int v1), .val (.int v2), .val (.int v3), .val (.ref 1), .unset, .unset, .unset, .unset, .unset, .unset, .unset, .unset, .unset, .unset, .unset, .unset, .unset, .unset, .unset, .unset, .unset, .unset, .unset, .unset]) d37_13 rfl (go_aload (pc := 15) d37_15 rfl ?_)
  obtain ⟨r17, e3, hf⟩ := Option.bind_eq_some_iff.mp hf
  refine go_virt (pc := 17) (i := 0) (as := []) (rest := []) (w' := (none, [(11, r17.2)])) lk_1_12 pd_17 rfl oid_0 rfl rfl rfl rfl rfl rfl ⟨rfl, rfl, rfl, rfl, rfl⟩ d37_17 (c_k_alloc r10 _ e3) ?_
  refine go_istore (pc := 20) (L' := [.val (.int v0), .val (.int v1), .val (.int v2), .val (.int v3), .val (.ref 1), .val (.int r17.1), .unset, .unset, .unset, .unset, .unset, .unset, .unset, .unset, .unset, .unset, .unset, .unset, .unset, .unset, .unset, .unset, .unset, .unset, .unset]) d37_20 rfl (go_aload (pc := 22) d37_22 rfl ?_)
  obtain ⟨r24, e4, hf⟩ := Option.bind_eq_some_iff.mp hf
  refine go_virt (pc := 24) (i := 0) (as := []) (rest := []) (w' := (none, [(11, r24.2)])) lk_1_12 pd_17 rfl oid_0 rfl rfl rfl rfl rfl rfl ⟨rfl, rfl, rfl, rfl, rfl⟩ d37_24 (c_k_alloc r17.2 _ e4) ?_
  refine go_istore (pc := 27) (L' := [.val (.int v0), .val (.int v1), .val (.int v2), .val (.int v3), .val (.ref 1), .val (.int r17.1), .val (.int r24.1), .unset, .unset, .unset, .unset, .unset, .unset, .unset, .unset, .unset, .unset, .unset, .unset, .unset, .unset, .unset, .unset, .unset, .unset]) d37_27 rfl (go_aload (pc := 29) d37_29 rfl (go_iloadN (pc := 31) d37_31 rfl (go_iloadN (pc := 32) d37_32 rfl (go_iloadN (pc := 33) d37_33 rfl ?_))))
  obtain ⟨r34, e5, hf⟩ := Option.bind_eq_some_iff.mp hf
  refine go_virt (pc := 34) (i := 0) (as := [.int v1, .int v2, .int v3]) (rest := []) (w' := (none, [(11, r34.2)])) lk_1_16 pd_31 rfl oid_0 rfl rfl rfl rfl rfl rfl ⟨rfl, rfl, rfl, rfl, rfl⟩ d37_34 (c_k_store v1 v2 v3 r24.2 _ e5) ?_
  refine go_istore (pc := 37) (L' := [.val (.int v0), .val (.int v1), .val (.int v2), .val (.int v3), .val (.ref 1), .val (.int r17.1), .val (.int r24.1), .val (.int r34.1), .unset, .unset, .unset, .unset, .unset, .unset, .unset, .unset, .unset, .unset, .unset, .unset, .unset, .unset, .unset, .unset, .unset]) d37_37 rfl (go_iloadN (pc := 39) d37_39 rfl (go_iconst (pc := 40) d37_40 ci_1 ?_))
  by_cases h6 : v0 < (1 : Int32)
  · refine go_icN (pc := 41) d37_41 (XT.ii_ge_f h6) ?_
    refine go_iconst (pc := 44) d37_44 ci_1 (go_goto (pc := 45) (pc' := 58) d37_45 j_45_13 ?_)
    exact law_58_ok v1 v2 v3 r17.1 r24.1 r34.1 (1 : Int32) r34.2 (.val (.int v0)) (Or.inr ⟨_, rfl, rfl⟩) _ (by simpa only [if_pos h6] using hf)
  · refine go_icY (pc := 41) (pc' := 48) d37_41 (XT.ii_ge_t h6) j_41_7 ?_
    refine go_iloadN (pc := 48) d37_48 rfl (go_iconst (pc := 49) d37_49 ci_4 ?_)
    by_cases h7 : (4 : Int32) < v0
    · refine go_icN (pc := 50) d37_50 (XT.ii_le_f h7) ?_
      refine go_iconst (pc := 53) d37_53 ci_4 (go_goto (pc := 54) (pc' := 58) d37_54 j_54_4 ?_)
      exact law_58_ok v1 v2 v3 r17.1 r24.1 r34.1 (4 : Int32) r34.2 (.val (.int v0)) (Or.inr ⟨_, rfl, rfl⟩) _ (by simpa only [if_neg h6, if_pos h7] using hf)
    · refine go_icY (pc := 50) (pc' := 57) d37_50 (XT.ii_le_t h7) j_50_7 ?_
      refine go_iloadN (pc := 57) d37_57 rfl ?_
      exact law_58_ok v1 v2 v3 r17.1 r24.1 r34.1 v0 r34.2 (.val (.int v0)) (Or.inr ⟨_, rfl, rfl⟩) _ (by simpa only [if_neg h6, if_neg h7] using hf)
def own_len (s : S) : Prop := (gA s 0).length = 64 ∧ (gA s 1).length = 256 ∧ (gA s 2).length = 64 ∧ (gA s 3).length = 16 ∧ (gA s 4).length = 64 ∧ (gA s 5).length = 64 ∧ (gA s 6).length = 64 ∧ (gA s 7).length = 64 ∧ (gA s 8).length = 64 ∧ (gA s 9).length = 64 ∧ (gA s 10).length = 64
theorem own_ccf (s : S) (j : Nat) (hj : j < 64) (hl : (gA s 1).length = 256) : ∃ s', k_clearCellFields (Int32.ofNat j) s = some s' ∧ Fx [] [] [1] [] s s' ∧ (gA s' 1).length = 256 ∧ ∀ i, i < 256 → (gA s' 1)[i]? = if 4 * j ≤ i ∧ i < 4 * j + 4 then some (-1 : Int32) else (gA s 1)[i]? := by
  have h0 : ¬ Int32.ofNat j < 0 := ofNat_nonneg (by omega)
  have h1 : Int32.ofNat j < 64 := (lt_lit (by omega)).mpr hj
  have hm : Int32.ofNat j * 4 = Int32.ofNat (j * 4) := (Int32.ofNat_mul j 4).symm
  obtain ⟨s', e, F', l', U⟩ := run_for (fun n v s => k_clearCellFields_17 n (Int32.ofNat (j * 4)) v s) some 4 (fun k u => Fx [] [] [1] [] s u ∧ (gA u 1).length = 256 ∧ ∀ i, i < 256 → (gA u 1)[i]? = if 4 * j ≤ i ∧ i < 4 * j + k then some (-1 : Int32) else (gA s 1)[i]?) (by
    intro n k u hk ⟨F, l, U⟩
    refine ⟨sA u 1 ((gA u 1).set (j * 4 + k) (-1)), ?_, F.sA (by simp), by simp [gA_sA, l], ?_⟩
    · show k_clearCellFields_17 (n + 1) _ _ _ = k_clearCellFields_17 n _ _ _
      rw [k_clearCellFields_17, if_pos ((lt_lit (by omega)).mpr hk), ofNat_add', st_ofNat _ _ (by omega) (by omega), ofNat_succ]; rfl
    · intro i hi
      simp only [gA_sA, if_true]
      by_cases q : i = j * 4 + k
      · subst q; rw [List.getElem?_set_self (by omega), if_pos (by omega)]
      · rw [List.getElem?_set_ne (by omega), U i hi]
        by_cases r : 4 * j ≤ i ∧ i < 4 * j + k
        · rw [if_pos r, if_pos (by omega)]
        · rw [if_neg r, if_neg (by omega)]) (fun n s _ => by show k_clearCellFields_17 (n + 1) _ _ _ = _; rw [k_clearCellFields_17, if_neg (by decide)]) BIG s (by decide) ⟨Fx.refl .., hl, fun i hi => by rw [if_neg (by omega)]⟩
  refine ⟨s', ?_, F', l', U⟩
  unfold k_clearCellFields
  rw [if_neg h0, if_pos h1, hm]
  exact e
def own_J (t s : S) : Prop := Fx [4, 5, 6, 7] [] [0, 1, 2, 3, 4, 5, 6, 7, 8, 9, 10] [] t s ∧ own_len s
theorem own_rh (t s : S) (h : own_J t s) : ∃ s', k_resetHeap s = some s' ∧ own_J t s' ∧ gI s' 4 = 0 ∧ (∀ i, i < 64 → (gA s' 0)[i]? = some 0) ∧ (∀ i, i < 64 → (gA s' 2)[i]? = some 0) ∧ (∀ i, i < 256 → (gA s' 1)[i]? = some (-1 : Int32)) := by
  obtain ⟨s', e, i, U, U2, U1⟩ := run_for k_resetHeap_2 k_resetHeap_33 64 (fun k s => own_J t s ∧ (∀ i, i < k → (gA s 0)[i]? = some 0) ∧ (∀ i, i < k → (gA s 2)[i]? = some 0) ∧ (∀ i, i < 4 * k → (gA s 1)[i]? = some (-1 : Int32))) (by
    intro n k s hk ⟨⟨F, l0, l1, l2, l3, l4, l5, l6, l7, l8, l9, l10⟩, U, U2, U1⟩
    obtain ⟨s', e, F', l', g1⟩ := own_ccf (sA (sA s 0 ((gA s 0).set k 0)) 2 ((gA s 2).set k 0)) k hk (by simp [gA_sA, l1])
    have g : ∀ f, f ≠ 1 → gA s' f = gA (sA (sA s 0 ((gA s 0).set k 0)) 2 ((gA s 2).set k 0)) f := fun f hf => F'.2.2.1 f (by simpa using hf)
    refine ⟨s', ?_, ⟨((F.sA (by simp)).sA (by simp)).trans (F'.mono (by simp) (by simp) (by simp) (by simp)), ?_⟩, ?_, ?_, ?_⟩
    · rw [k_resetHeap_2, if_pos ((lt_lit (by omega)).mpr hk), st_ofNat _ _ (by omega) (by omega), Option.bind_some, st_ofNat _ _ (by omega) (by omega), Option.bind_some, e, Option.bind_some, ofNat_succ]
    · simp [own_len, l', g, gA_sA, *]
    · intro i hi
      rw [g 0 (by decide)]
      simp only [gA_sA]
      by_cases q : i = k
      · subst q; simp [l0, hk]
      · simp; rw [List.getElem?_set_ne (by omega)]; exact U i (by omega)
    · intro i hi
      rw [g 2 (by decide)]
      simp only [gA_sA]
      by_cases q : i = k
      · subst q; simp [l2, hk]
      · simp; rw [List.getElem?_set_ne (by omega)]; exact U2 i (by omega)
    · intro i hi
      rw [g1 i (by omega)]
      by_cases q : 4 * k ≤ i ∧ i < 4 * k + 4
      · rw [if_pos q]
      · rw [if_neg q]; simp [gA_sA]; exact U1 i (by omega)) (fun n s _ => by rw [k_resetHeap_2, if_neg (by decide)]) BIG s (by decide) ⟨h, fun i hi => absurd hi (Nat.not_lt_zero _), fun i hi => absurd hi (Nat.not_lt_zero _), fun i hi => absurd hi (by omega)⟩
  refine ⟨_, e, ⟨i.1.sI (by simp), ?_⟩, by simp [gI_sI], fun j hj => by simp only [gA_sI]; exact U j hj, fun j hj => by simp only [gA_sI]; exact U2 j hj, fun j hj => by simp only [gA_sI]; exact U1 j (by omega)⟩
  have := i.2
  simp [own_len, gA_sI] at this ⊢; exact this
theorem own_rr (t s : S) (h : own_J t s) : ∃ s', k_resetRoots s = some s' ∧ own_J t s' ∧ gI s' 5 = 0 ∧ Fx [5] [] [3] [] s s' := by
  obtain ⟨s', e, i, F2⟩ := run_for k_resetRoots_2 k_resetRoots_21 16 (fun k u => own_J t u ∧ Fx [5] [] [3] [] s u) (by
    intro n k u hk ⟨⟨F, l0, l1, l2, l3, l4, l5, l6, l7, l8, l9, l10⟩, F2⟩
    refine ⟨sA u 3 ((gA u 3).set k (-1)), ?_, ⟨F.sA (by simp), ?_⟩, F2.sA (by simp)⟩
    · rw [k_resetRoots_2, if_pos ((lt_lit (by omega)).mpr hk), st_ofNat _ _ (by omega) (by omega), Option.bind_some, ofNat_succ]
    · simp [own_len, gA_sA, *]) (fun n s _ => by rw [k_resetRoots_2, if_neg (by decide)]) BIG s (by decide) ⟨h, Fx.refl ..⟩
  refine ⟨_, e, ⟨i.1.sI (by simp), ?_⟩, by simp [gI_sI], F2.sI (by simp)⟩
  have := i.2
  simp [own_len, gA_sI] at this ⊢; exact this
theorem own_rt (t s : S) (h : own_J t s) : ∃ s', k_resetTable s = some s' ∧ own_J t s' ∧ gI s' 6 = 0 ∧ (∀ i, i < 64 → (gA s' 5)[i]? = some (-1 : Int32)) ∧ Fx [6] [] [4, 5] [] s s' := by
  obtain ⟨u, e, i, F2⟩ := run_for k_resetTable_2 k_resetTable_21 64 (fun k u => own_J t u ∧ Fx [6] [] [4, 5] [] s u) (by
    intro n k u hk ⟨⟨F, l0, l1, l2, l3, l4, l5, l6, l7, l8, l9, l10⟩, F2⟩
    refine ⟨sA u 4 ((gA u 4).set k (-1)), ?_, ⟨F.sA (by simp), ?_⟩, F2.sA (by simp)⟩
    · rw [k_resetTable_2, if_pos ((lt_lit (by omega)).mpr hk), st_ofNat _ _ (by omega) (by omega), Option.bind_some, ofNat_succ]
    · simp [own_len, gA_sA, *]) (fun n s _ => by rw [k_resetTable_2, if_neg (by decide)]) BIG s (by decide) ⟨h, Fx.refl ..⟩
  obtain ⟨w, e2, i2, F3, U⟩ := run_for k_resetTable_23 k_resetTable_42 64 (fun k w => own_J t w ∧ Fx [6] [] [4, 5] [] s w ∧ Upto (gA w 5) k (-1)) (by
    intro n k u hk ⟨⟨F, l0, l1, l2, l3, l4, l5, l6, l7, l8, l9, l10⟩, F2, U⟩
    refine ⟨sA u 5 ((gA u 5).set k (-1)), ?_, ⟨F.sA (by simp), ?_⟩, F2.sA (by simp), ?_⟩
    · rw [k_resetTable_23, if_pos ((lt_lit (by omega)).mpr hk), st_ofNat _ _ (by omega) (by omega), Option.bind_some, ofNat_succ]
    · simp [own_len, gA_sA, *]
    · simp only [gA_sA, if_true]; exact U.set (by omega)) (fun n s _ => by rw [k_resetTable_23, if_neg (by decide)]) BIG u (by decide) ⟨i, F2, Upto.zero _ _⟩
  refine ⟨_, e.trans e2, ⟨i2.1.sI (by simp), ?_⟩, by simp [gI_sI], fun j hj => by simp only [gA_sI]; exact U j hj, F3.sI (by simp)⟩
  have := i2.2
  simp [own_len, gA_sI] at this ⊢; exact this
theorem own_rs (t s : S) (h : own_J t s) : ∃ s', k_resetScratch s = some s' ∧ own_J t s' ∧ Fx [7] [] [6, 7, 8, 9, 10] [] s s' := by
  obtain ⟨s', e, i, F2⟩ := run_for k_resetScratch_2 k_resetScratch_49 64 (fun k u => own_J t u ∧ Fx [7] [] [6, 7, 8, 9, 10] [] s u) (by
    intro n k u hk ⟨⟨F, l0, l1, l2, l3, l4, l5, l6, l7, l8, l9, l10⟩, F2⟩
    refine ⟨sA (sA (sA (sA (sA u 6 ((gA u 6).set k 0)) 7 ((gA u 7).set k 0)) 8 ((gA u 8).set k 0)) 9 ((gA u 9).set k 0)) 10 ((gA u 10).set k (-1)), ?_, ⟨((((F.sA (by simp)).sA (by simp)).sA (by simp)).sA (by simp)).sA (by simp), ?_⟩, ((((F2.sA (by simp)).sA (by simp)).sA (by simp)).sA (by simp)).sA (by simp)⟩
    · rw [k_resetScratch_2, if_pos ((lt_lit (by omega)).mpr hk), st_ofNat _ _ (by omega) (by omega), Option.bind_some, st_ofNat _ _ (by omega) (by omega), Option.bind_some, st_ofNat _ _ (by omega) (by omega), Option.bind_some, st_ofNat _ _ (by omega) (by omega), Option.bind_some, st_ofNat _ _ (by omega) (by omega), Option.bind_some, ofNat_succ]
    · simp [own_len, gA_sA, *]) (fun n s _ => by rw [k_resetScratch_2, if_neg (by decide)]) BIG s (by decide) ⟨h, Fx.refl ..⟩
  refine ⟨_, e, ⟨i.1.sI (by simp), ?_⟩, F2.sI (by simp)⟩
  have := i.2
  simp [own_len, gA_sI] at this ⊢; exact this
/-- k objects made, nothing stored -/
def own_A (F k : Nat) (s : S) : Prop := own_len s ∧ gI s 0 = 8 ∧ gI s 1 = Int32.ofNat F ∧ gI s 2 = 4 ∧ gI s 3 = 16 ∧ gI s 4 = Int32.ofNat k ∧ gI s 5 = Int32.ofNat k ∧ gI s 6 = Int32.ofNat k ∧ gI s 8 = 0 ∧ (∀ i, i < 64 → (gA s 0)[i]? = some (if i < k then 1 else 0)) ∧ (∀ i, i < 256 → (gA s 1)[i]? = some (-1 : Int32)) ∧ (∀ i, i < 64 → (gA s 2)[i]? = some 0) ∧ (∀ i, i < k → (gA s 3)[i]? = some (Int32.ofNat i)) ∧ (∀ i, k ≤ i → i < 64 → (gA s 5)[i]? = some (-1 : Int32))
theorem own_obj {s : S} (h0 : gI s 0 = 8) {k : Nat} (hk : k < 8) : k_isObjectId (Int32.ofNat k) s = 1 := by
  unfold k_isObjectId
  rw [if_neg (ofNat_nonneg (by omega)), h0, if_pos ((lt_lit (by omega)).mpr hk)]
theorem own_alloc {F k : Nat} {s : S} (h : own_A F k s) (hk : k < 4) : ∃ s', k_alloc s = some (Int32.ofNat k, s') ∧ own_A F (k + 1) s' := by
  obtain ⟨⟨l0, l1, l2, l3, l4, l5, l6, l7, l8, l9, l10⟩, i0, i1, i2, i3, i4, i5, i6, i8, a0, a1, a2, a3, a5⟩ := id h
  have nb : nar .boolean 0 = 0 := by decide
  have r1 : k_rootsFull s = 0 := by
    unfold k_rootsFull; rw [i5, i2, if_pos ((lt_lit (by omega)).mpr hk)]
  have r2 : k_allocNeedsReconcile s = 0 := by
    unfold k_allocNeedsReconcile k_hasFreeCell k_tableIsFull
    rw [i4, i0, if_pos ((lt_lit (by omega)).mpr (show k < 8 by omega)), if_neg (by decide), i6, i3, if_pos ((lt_lit (by omega)).mpr (show k < 16 by omega)), nb]
  have r3 : ∀ n m, m ≤ k → k - m < n → k_lowestFreeCell_2 n (Int32.ofNat m) s = some (Int32.ofNat k) := by
    intro n
    induction n with
    | zero => intro m _ h; omega
    | succ n ih =>
      intro m hm hn
      rw [k_lowestFreeCell_2, i0, if_pos ((lt_lit (by omega)).mpr (show m < 8 by omega)), ix_ofNat _ (by omega), a0 m (by omega), Option.bind_some]
      by_cases q : m < k
      · rw [if_pos q, if_neg (by decide), ofNat_succ]
        exact ih (m + 1) (by omega) (by omega)
      · have : m = k := by omega
        subst this
        rw [if_neg q, if_pos rfl]
  have r4 : k_lowestFreeCell s = some (Int32.ofNat k) := r3 BIG 0 (by omega) (by unfold BIG; omega)
  have ne : ¬ Int32.ofNat k = -1 := fun e => by
    have := ofNat_nonneg (k := k) (by omega)
    rw [e] at this; exact this (by decide)
  -- bring to life
  obtain ⟨u, eu, Fu, lu, gu⟩ := own_ccf (sA s 0 ((gA s 0).set k 1)) k (by omega) (by simp [gA_sA, l1])
  have uI : ∀ f, gI u f = gI s f := fun f => by rw [Fu.1 f (by simp)]; simp [gI_sA]
  have uA : ∀ f, f ≠ 1 → gA u f = if f = 0 then (gA s 0).set k 1 else gA s f := fun f hf => by rw [Fu.2.2.1 f (by simpa using hf)]; simp [gA_sA]
  have b1 : k_bringToLife (Int32.ofNat k) s = some (sI (sA u 2 ((gA s 2).set k 0)) 4 (Int32.ofNat (k + 1))) := by
    unfold k_bringToLife
    rw [own_obj i0 (by omega), if_neg (by decide), ix_ofNat _ (by omega), a0 k (by omega), if_neg (by omega), Option.bind_some, if_pos rfl, st_ofNat _ _ (by omega) (by omega), Option.bind_some, eu, Option.bind_some, uA 2 (by decide), if_neg (by decide), st_ofNat _ _ (by omega) (by omega), Option.bind_some, uI, i4, ofNat_succ]
  obtain ⟨w, hw⟩ : ∃ w, w = sI (sA u 2 ((gA s 2).set k 0)) 4 (Int32.ofNat (k + 1)) := ⟨_, rfl⟩
  have wI : ∀ f, gI w f = if f = 4 then Int32.ofNat (k + 1) else gI s f := fun f => by rw [hw]; simp [gI_sI, gI_sA, uI]
  have wA : ∀ f, f ≠ 1 → gA w f = if f = 2 then (gA s 2).set k 0 else if f = 0 then (gA s 0).set k 1 else gA s f := fun f hf => by rw [hw]; simp [gA_sI, gA_sA, uA f hf]
  have w1 : gA w 1 = gA u 1 := by rw [hw]; simp [gA_sI, gA_sA]
  have b2 : k_tableInsert (Int32.ofNat k) w = some (1, sI (sA (sA w 4 ((gA s 4).set k (Int32.ofNat k))) 5 ((gA s 5).set k (Int32.ofNat k))) 6 (Int32.ofNat (k + 1))) := by
    unfold k_tableInsert
    rw [own_obj (by rw [wI, if_neg (by decide), i0]) (by omega), if_neg (by decide), wA 5 (by decide), if_neg (by decide), if_neg (by decide), ix_ofNat _ (by omega), a5 k (by omega) (by omega), Option.bind_some, if_pos rfl, show gI w 6 = Int32.ofNat k by simp [wI, i6], show gI w 3 = 16 by simp [wI, i3], if_pos ((lt_lit (by omega)).mpr (show k < 16 by omega)), if_pos ((lt_lit (by omega)).mpr (show k < 64 by omega)), wA 4 (by decide), if_neg (by decide), if_neg (by decide), st_ofNat _ _ (by omega) (by omega), Option.bind_some, st_ofNat _ _ (by omega) (by omega), Option.bind_some, ofNat_succ]
  obtain ⟨x, hx⟩ : ∃ x, x = sI (sA (sA w 4 ((gA s 4).set k (Int32.ofNat k))) 5 ((gA s 5).set k (Int32.ofNat k))) 6 (Int32.ofNat (k + 1)) := ⟨_, rfl⟩
  have xI : ∀ f, gI x f = if f = 6 then Int32.ofNat (k + 1) else if f = 4 then Int32.ofNat (k + 1) else gI s f := fun f => by rw [hx]; simp [gI_sI, gI_sA, wI]
  have b3 : k_rootPush (Int32.ofNat k) x = some (sI (sA x 3 ((gA s 3).set k (Int32.ofNat k))) 5 (Int32.ofNat (k + 1))) := by
    have x3 : gA x 3 = gA s 3 := by rw [hx]; simp [gA_sI, gA_sA, wA]
    unfold k_rootPush
    rw [show gI x 5 = Int32.ofNat k by simp [xI, i5], show gI x 2 = 4 by simp [xI, i2], if_pos ((lt_lit (by omega)).mpr hk), if_pos ((lt_lit (by omega)).mpr (show k < 16 by omega)), x3, st_ofNat _ _ (by omega) (by omega), Option.bind_some, ofNat_succ]
  refine ⟨sI (sA x 3 ((gA s 3).set k (Int32.ofNat k))) 5 (Int32.ofNat (k + 1)), ?_, ?_⟩
  · unfold k_alloc k_placeNewObject
    rw [r1, if_pos rfl, r2, if_pos rfl, r4, Option.bind_some, if_neg ne, b1, Option.bind_some, ← hw, b2, Option.bind_some, ← hx, b3, Option.bind_some, Option.bind_some]
  · obtain ⟨y, hy⟩ : ∃ y, y = sI (sA x 3 ((gA s 3).set k (Int32.ofNat k))) 5 (Int32.ofNat (k + 1)) := ⟨_, rfl⟩
    rw [← hy]
    have yI : ∀ f, gI y f = if f = 5 then Int32.ofNat (k + 1) else if f = 6 then Int32.ofNat (k + 1) else if f = 4 then Int32.ofNat (k + 1) else gI s f := fun f => by rw [hy]; simp [gI_sI, gI_sA, xI]
    have yA : ∀ f, f ≠ 1 → gA y f = if f = 3 then (gA s 3).set k (Int32.ofNat k) else if f = 5 then (gA s 5).set k (Int32.ofNat k) else if f = 4 then (gA s 4).set k (Int32.ofNat k) else if f = 2 then (gA s 2).set k 0 else if f = 0 then (gA s 0).set k 1 else gA s f := fun f hf => by rw [hy, hx]; simp [gA_sI, gA_sA, wA f hf]
    have y1 : gA y 1 = gA u 1 := by rw [hy, hx]; simp [gA_sI, gA_sA, w1]
    refine ⟨?_, ?_, ?_, ?_, ?_, ?_, ?_, ?_, ?_, ?_, ?_, ?_, ?_, ?_⟩
    · simp [own_len, yA, y1, lu, l0, l2, l3, l4, l5, l6, l7, l8, l9, l10]
    · simp [yI, i0]
    · simp [yI, i1]
    · simp [yI, i2]
    · simp [yI, i3]
    · simp [yI]
    · simp [yI]
    · simp [yI]
    · simp [yI, i8]
    · intro i hi
      rw [yA 0 (by decide)]
      simp
      by_cases q : i = k
      · subst q; rw [List.getElem?_set_self (by omega)]; simp
      · rw [List.getElem?_set_ne (by omega), a0 i hi]
        by_cases r : i < k
        · rw [if_pos r, if_pos (by omega)]
        · rw [if_neg r, if_neg (by omega)]
    · intro i hi
      rw [y1, gu i hi]
      by_cases q : 4 * k ≤ i ∧ i < 4 * k + 4
      · rw [if_pos q]
      · rw [if_neg q]; simp [gA_sA]; exact a1 i hi
    · intro i hi
      rw [yA 2 (by decide)]
      simp
      by_cases q : i = k
      · subst q; rw [List.getElem?_set_self (by omega)]
      · rw [List.getElem?_set_ne (by omega)]; exact a2 i hi
    · intro i hi
      rw [yA 3 (by decide)]
      simp
      by_cases q : i = k
      · subst q; rw [List.getElem?_set_self (by omega)]
      · rw [List.getElem?_set_ne (by omega)]; exact a3 i (by omega)
    · intro i h1 h2
      rw [yA 5 (by decide)]
      simp
      rw [List.getElem?_set_ne (by omega)]; exact a5 i (by omega) h2
theorem own_clampF (v : Int32) : ∃ F : Nat, 1 ≤ F ∧ F ≤ 4 ∧ k_clamp v 1 4 = Int32.ofNat F ∧ (if v < 1 then (1 : Int32) else if (4 : Int32) < v then 4 else v) = Int32.ofNat F := by
  unfold k_clamp
  by_cases h : v < 1
  · exact ⟨1, by omega, by omega, by rw [if_pos h]; rfl, by rw [if_pos h]; rfl⟩
  · by_cases h2 : 4 < v
    · exact ⟨4, by omega, by omega, by rw [if_neg h, if_pos h2]; rfl, by rw [if_neg h, if_pos h2]; rfl⟩
    · have h0 : ¬ v < 0 := by
        intro q
        rw [Int32.lt_iff_toInt_lt] at q h
        have : (0 : Int32).toInt = 0 := rfl
        have : (1 : Int32).toInt = 1 := rfl
        omega
      obtain ⟨e, hl⟩ := eq_ofNat h0
      have := toInt_clamp h0
      have a := h
      have b := h2
      rw [Int32.lt_iff_toInt_lt] at a b
      have : (1 : Int32).toInt = 1 := rfl
      have : (4 : Int32).toInt = 4 := rfl
      refine ⟨v.toNatClampNeg, by omega, by omega, ?_, ?_⟩
      · rw [if_neg h, if_neg h2]; exact e
      · rw [if_neg h, if_neg h2]; exact e
theorem own_root {F : Nat} {s : S} (h : own_A F 2 s) (v : Int32) : k_isRootSlot v s = if v = 0 then 1 else if v = 1 then 1 else 0 := by
  obtain ⟨_, _, _, _, _, _, i5, _⟩ := id h
  unfold k_isRootSlot
  rw [i5]
  by_cases a : v = 0
  · subst a; decide
  by_cases b : v = 1
  · subst b; decide
  rw [if_neg a, if_neg b]
  by_cases c : v < 0
  · rw [if_pos c]
  · rw [if_neg c, if_neg]
    intro d
    obtain ⟨e, hl⟩ := eq_ofNat c
    rw [e, ofNat_lt hl (by omega)] at d
    have : v.toNatClampNeg = 0 ∨ v.toNatClampNeg = 1 := by omega
    rcases this with q | q
    · rw [q] at e; exact a e
    · rw [q] at e; exact b e
theorem own_live {F : Nat} {s : S} (h : own_A F 2 s) {k : Nat} (hk : k < 2) : k_isLiveId (Int32.ofNat k) s = some 1 := by
  obtain ⟨_, i0, _, _, _, _, _, _, _, a0, _⟩ := id h
  unfold k_isLiveId
  rw [own_obj i0 (by omega), if_neg (by decide), ix_ofNat _ (by omega), a0 k (by omega), if_pos hk, Option.bind_some, if_neg (by decide)]
theorem law_true (v0 v1 v2 v3 : Int32) : ∃ t, law v0 v1 v2 v3 = some (1, t) := by
  obtain ⟨F, hF1, hF4, cF, dF⟩ := own_clampF v0
  obtain ⟨X, eX, lX, x0, x1, x2, x3⟩ : ∃ X, k_init 8 v0 4 16 = ((k_resetHeap X).bind fun r => (k_resetRoots r).bind fun r => (k_resetTable r).bind fun r => (k_resetScratch r).bind fun r => some (sI r 8 0)) ∧ own_len X ∧ gI X 0 = k_clamp 8 4 64 ∧ gI X 1 = k_clamp v0 1 4 ∧ gI X 2 = k_clamp 4 1 16 ∧ gI X 3 = k_clamp 16 (k_clamp 4 1 16 + 1) 64 := by
    refine ⟨_, by unfold k_init; rfl, ?_, ?_, ?_, ?_, ?_⟩
    · simp [own_len, gA_sI, gA_sA, rep_length]
    · simp [gI_sI]
    · simp [gI_sI]
    · simp [gI_sI]
    · simp [gI_sI]
  obtain ⟨s1, e1, J1, i4, a0, a2, a1⟩ := own_rh X X ⟨Fx.refl .., lX⟩
  obtain ⟨s2, e2, J2, i5, F2⟩ := own_rr X s1 J1
  obtain ⟨s3, e3, J3, i6, a5, F3⟩ := own_rt X s2 J2
  obtain ⟨s4, e4, J4, F4⟩ := own_rs X s3 J3
  have A0 : own_A F 0 (sI s4 8 0) := by
    refine ⟨?_, ?_, ?_, ?_, ?_, ?_, ?_, ?_, ?_, ?_, ?_, ?_, ?_, ?_⟩
    · have := J4.2
      simp [own_len, gA_sI] at this ⊢; exact this
    · simp [gI_sI]; rw [J4.1.1 0 (by simp), x0]; decide
    · simp [gI_sI]; rw [J4.1.1 1 (by simp), x1, cF]
    · simp [gI_sI]; rw [J4.1.1 2 (by simp), x2]; decide
    · simp [gI_sI]; rw [J4.1.1 3 (by simp), x3]; decide
    · simp [gI_sI]; rw [F4.1 4 (by simp), F3.1 4 (by simp), F2.1 4 (by simp), i4]
    · simp [gI_sI]; rw [F4.1 5 (by simp), F3.1 5 (by simp), i5]
    · simp [gI_sI]; rw [F4.1 6 (by simp), i6]
    · simp [gI_sI]
    · intro i hi; simp [gA_sI]; rw [F4.2.2.1 0 (by simp), F3.2.2.1 0 (by simp), F2.2.2.1 0 (by simp), a0 i hi]
    · intro i hi; simp only [gA_sI]; rw [F4.2.2.1 1 (by simp), F3.2.2.1 1 (by simp), F2.2.2.1 1 (by simp), a1 i hi]
    · intro i hi; simp only [gA_sI]; rw [F4.2.2.1 2 (by simp), F3.2.2.1 2 (by simp), F2.2.2.1 2 (by simp), a2 i hi]
    · intro i hi; omega
    · intro i _ hi; simp only [gA_sI]; rw [F4.2.2.1 5 (by simp), a5 i hi]
  obtain ⟨t, et, A1⟩ := own_alloc A0 (by omega)
  obtain ⟨s, es, A2⟩ := own_alloc A1 (by omega)
  unfold law
  rw [eX, e1, Option.bind_some, e2, Option.bind_some, e3, Option.bind_some, e4, Option.bind_some, Option.bind_some, et, Option.bind_some, es, Option.bind_some, dF]
  obtain ⟨⟨l0, l1, l2, l3, l4, l5, l6, l7, l8, l9, l10⟩, i0, i1, i2, i3, i4, i5, i6, i8, a0, a1, a2, a3, a5⟩ := id A2
  have n0 : nar .boolean 0 = 0 := by decide
  have n1 : nar .boolean 1 = 1 := by decide
  have fno : ∀ x : S, gI x 1 = Int32.ofNat F → k_isFieldNo v2 x = (if v2 < 0 then (0 : Int32) else if v2 < Int32.ofNat F then 1 else 0) := fun x hx => by unfold k_isFieldNo; rw [hx]
  have vsl : k_isValueSlot v3 s = (if v3 < (-1 : Int32) then (0 : Int32) else if (1 : Int32) < v3 then 0 else 1) := by
    unfold k_isValueSlot
    rw [own_root A2]
    have m1 : (-1 : Int32).toInt = -1 := by decide
    have z0 : (0 : Int32).toInt = 0 := rfl
    have z1 : (1 : Int32).toInt = 1 := rfl
    by_cases a : v3 = -1
    · subst a; decide
    by_cases b : v3 = 0
    · subst b; decide
    by_cases c : v3 = 1
    · subst c; decide
    rw [if_neg a, if_neg b, if_neg c, n0]
    by_cases d : v3 < -1
    · rw [if_pos d]
    · rw [if_neg d, if_pos]
      rw [Int32.lt_iff_toInt_lt] at d ⊢
      have a' : v3.toInt ≠ -1 := fun e => a (Int32.toInt_inj.mp (by rw [e, m1]))
      have b' : v3.toInt ≠ 0 := fun e => b (Int32.toInt_inj.mp (by rw [e, z0]))
      have c' : v3.toInt ≠ 1 := fun e => c (Int32.toInt_inj.mp (by rw [e, z1]))
      omega
  obtain ⟨fv, hfv⟩ : ∃ fv, fv = (if v2 < 0 then (0 : Int32) else if v2 < Int32.ofNat F then 1 else 0) := ⟨_, rfl⟩
  obtain ⟨vv, hvv⟩ : ∃ vv, vv = (if v3 < (-1 : Int32) then (0 : Int32) else if (1 : Int32) < v3 then 0 else 1) := ⟨_, rfl⟩
  have fno' := fno s i1
  rw [← hfv] at fno fno'
  rw [← hvv] at vsl
  have fld : ∀ k, k < 2 → k_field (Int32.ofNat k) v2 s = some (if fv = 0 then -6 else -1) := fun k hk => by
    unfold k_field k_readField
    rw [own_live A2 hk, Option.bind_some, if_neg (by decide), fno']
    by_cases q : fv = 0
    · simp [q]
    · have hv0 : ¬ v2 < 0 := fun e => q (by rw [hfv, if_pos e])
      have hvF : v2 < Int32.ofNat F := by
        by_cases r : v2 < Int32.ofNat F
        · exact r
        · exact absurd (by rw [hfv, if_neg hv0, if_neg r]) q
      obtain ⟨e, hl⟩ := eq_ofNat hv0
      have := clamp_lt hv0 hvF (by omega)
      rw [if_neg q, if_neg q, if_neg q, own_obj i0 (by omega), if_neg (by decide), e, show Int32.ofNat k * 4 = Int32.ofNat (k * 4) from (Int32.ofNat_mul k 4).symm, ofNat_add', ix_ofNat _ (by omega), a1 _ (by omega), Option.bind_some, Option.bind_some]
  have cntk : ∀ k, k < 2 → k_count (Int32.ofNat k) s = some 0 := fun k hk => by
    unfold k_count
    rw [own_live A2 hk, Option.bind_some, if_neg (by decide), ix_ofNat _ (by omega), a2 k (by omega), Option.bind_some]
  have f0 : k_field 0 v2 s = _ := fld 0 (by omega)
  have f1 : k_field 1 v2 s = _ := fld 1 (by omega)
  have c0 : k_count 0 s = _ := cntk 0 (by omega)
  have c1 : k_count 1 s = _ := cntk 1 (by omega)
  have e01 : Int32.ofNat 0 = 0 := rfl
  have e02 : Int32.ofNat (0 + 1) = 1 := rfl
  -- a refused store
  have bad : ∀ r : Int32, r ≠ 0 → k_storeCheck v1 v2 v3 s = some r → k_store v1 v2 v3 s = some (r, s) := fun r hr e => by
    unfold k_store; rw [e, Option.bind_some, if_neg hr]
  by_cases hroot : v1 = 0 ∨ v1 = 1
  · obtain ⟨a, ha2, rfl⟩ : ∃ a : Nat, a < 2 ∧ v1 = Int32.ofNat a := by
      rcases hroot with rfl | rfl
      · exact ⟨0, by omega, rfl⟩
      · exact ⟨1, by omega, rfl⟩
    have rt : k_isRootSlot (Int32.ofNat a) s = 1 := by
      rw [own_root A2]
      rcases hroot with e | e
      · rw [if_pos e]
      · rw [if_pos e]; split <;> rfl
    have hr1 : (if Int32.ofNat a = 0 then (1 : Int32) else if Int32.ofNat a = 1 then 1 else 0) = 1 := by
      rcases hroot with e | e
      · rw [if_pos e]
      · rw [if_pos e]; split <;> rfl
    by_cases qf : fv = 0
    · have es : k_store (Int32.ofNat a) v2 v3 s = some (-6, s) := bad (-6) (by decide) (by unfold k_storeCheck; rw [rt, if_neg (by decide), fno', if_pos qf])
      refine ⟨s, ?_⟩
      rw [es, Option.bind_some]
      simp [law_58, law_74, law_91, law_108, law_141, law_153, law_197, law_224, law_256, law_273, hr1, ← hfv, qf, f0, f1, c0, c1, k_tableSize, k_reconciliations, k_depth, i5, i6, i8]
    by_cases qv : vv = 0
    · have es : k_store (Int32.ofNat a) v2 v3 s = some (-5, s) := bad (-5) (by decide) (by unfold k_storeCheck; rw [rt, if_neg (by decide), fno', if_neg qf, vsl, if_pos qv])
      refine ⟨s, ?_⟩
      rw [es, Option.bind_some]
      have hv' : (if v3 < (-1 : Int32) then (0 : Int32) else if (1 : Int32) < v3 then 0 else 1) = 0 := by rw [← hvv]; exact qv
      simp [law_58, law_74, law_91, law_108, law_141, law_153, law_197, law_224, law_256, law_273, hr1, ← hfv, qf, hv', f0, f1, c0, c1, k_tableSize, k_reconciliations, k_depth, i5, i6, i8]
    -- a store that is done
    have hv0 : ¬ v2 < 0 := fun e => qf (by rw [hfv, if_pos e])
    have hvF : v2 < Int32.ofNat F := by
      by_cases r : v2 < Int32.ofNat F
      · exact r
      · exact absurd (by rw [hfv, if_neg hv0, if_neg r]) qf
    obtain ⟨f, hf⟩ : ∃ f, f = v2.toNatClampNeg := ⟨_, rfl⟩
    have ef : v2 = Int32.ofNat f := by rw [hf]; exact (eq_ofNat hv0).1
    have hfF : f < F := by rw [hf]; exact clamp_lt hv0 hvF (by omega)
    have hv' : (if v3 < (-1 : Int32) then (0 : Int32) else if (1 : Int32) < v3 then 0 else 1) = 1 := by
      rw [hvv] at qv
      by_cases d : v3 < -1
      · rw [if_pos d] at qv; exact absurd rfl qv
      · by_cases d2 : (1 : Int32) < v3
        · rw [if_neg d, if_pos d2] at qv; exact absurd rfl qv
        · rw [if_neg d, if_neg d2]
    have v3c : v3 = -1 ∨ v3 = Int32.ofNat 0 ∨ v3 = Int32.ofNat 1 := by
      have m1 : (-1 : Int32).toInt = -1 := by decide
      have z0 : (Int32.ofNat 0).toInt = 0 := rfl
      have z1 : (1 : Int32).toInt = 1 := rfl
      have z1' : (Int32.ofNat 1).toInt = 1 := rfl
      have d1 : ¬ v3 < -1 := fun d => by rw [if_pos d] at hv'; cases hv'
      have d2 : ¬ (1 : Int32) < v3 := fun d => by rw [if_neg d1, if_pos d] at hv'; cases hv'
      rw [Int32.lt_iff_toInt_lt] at d1 d2
      have : v3.toInt = -1 ∨ v3.toInt = 0 ∨ v3.toInt = 1 := by omega
      rcases this with e | e | e
      · exact Or.inl (Int32.toInt_inj.mp (by rw [e, m1]))
      · exact Or.inr (Or.inl (Int32.toInt_inj.mp (by rw [e, z0])))
      · exact Or.inr (Or.inr (Int32.toInt_inj.mp (by rw [e, z1'])))
    have ne1 : ∀ j : Nat, j < 2 → ¬ Int32.ofNat j = -1 := fun j hj e => by
      have := ofNat_nonneg (k := j) (by omega)
      rw [e] at this; exact this (by decide)
    have ra : ix (gA s 3) (Int32.ofNat a) = some (Int32.ofNat a) := by rw [ix_ofNat _ (by omega), a3 a ha2]
    have rootj : ∀ j : Nat, j < 2 → k_isRootSlot (Int32.ofNat j) s = 1 := fun j hj => by
      rw [own_root A2]
      have : j = 0 ∨ j = 1 := by omega
      rcases this with rfl | rfl <;> decide
    have sc : k_storeCheck (Int32.ofNat a) v2 v3 s = some 0 := by
      unfold k_storeCheck
      rw [rt, if_neg (by decide), fno', if_neg qf, vsl, if_neg qv, ra, Option.bind_some, if_neg (ne1 a ha2), Option.bind_some, own_live A2 ha2, Option.bind_some, if_neg (by decide)]
    have vs : k_valueOfSlot v3 s = some v3 := by
      unfold k_valueOfSlot
      rcases v3c with e | e | e
      · rw [if_pos e, e]
      · rw [e, if_neg (ne1 0 (by omega)), rootj 0 (by omega), if_neg (by decide), ix_ofNat _ (by omega), a3 0 (by omega), Option.bind_some]
      · rw [e, if_neg (ne1 1 (by omega)), rootj 1 (by omega), if_neg (by decide), ix_ofNat _ (by omega), a3 1 (by omega), Option.bind_some]
    have idx : Int32.ofNat a * 4 + v2 = Int32.ofNat (a * 4 + f) := by
      rw [ef, show Int32.ofNat a * 4 = Int32.ofNat (a * 4) from (Int32.ofNat_mul a 4).symm, ofNat_add']
    have rf : k_readField (Int32.ofNat a) v2 s = some (-1) := by
      unfold k_readField
      rw [own_obj i0 (by omega), if_neg (by decide), fno', if_neg qf, idx, ix_ofNat _ (by omega), a1 _ (by omega), Option.bind_some]
    have nr : k_storeNeedsReconcile (-1) v3 s = some 0 := by unfold k_storeNeedsReconcile; rw [if_pos rfl]
    have nobj : ∀ x : S, gI x 0 = 8 → k_isObjectId (-1) x = 0 := fun x _ => by unfold k_isObjectId; rw [if_pos (by decide)]
    -- the counts behind it
    obtain ⟨x, ex, xI, xA, xA2, xlen⟩ : ∃ x, k_refInc v3 s = some x ∧ (∀ g, gI x g = gI s g) ∧ (∀ g, g ≠ 2 → gA x g = gA s g) ∧ (∀ j, j < 2 → (gA x 2)[j]? = some (if v3 = Int32.ofNat j then 1 else 0)) ∧ (gA x 2).length = 64 := by
      rcases v3c with e | e | e
      · refine ⟨s, by unfold k_refInc; rw [e, nobj s i0, if_pos rfl], fun _ => rfl, fun _ _ => rfl, fun j hj => ?_, l2⟩
        rw [a2 j (by omega), if_neg (fun q => ne1 j hj (by rw [← q, e]))]
      · refine ⟨sA s 2 ((gA s 2).set 0 1), ?_, fun g => gI_sA .., fun g hg => by rw [gA_sA, if_neg hg], fun j hj => ?_, by simp [gA_sA, l2]⟩
        · unfold k_refInc
          rw [e, own_obj i0 (by omega), if_neg (by decide), ix_ofNat _ (by omega), a2 0 (by omega), Option.bind_some, st_ofNat _ _ (by omega) (by omega), Option.bind_some]; rfl
        · have : j = 0 ∨ j = 1 := by omega
          rw [gA_sA, if_pos rfl, e]
          rcases this with rfl | rfl
          · rw [List.getElem?_set_self (by omega), if_pos rfl]
          · rw [List.getElem?_set_ne (by omega), a2 1 (by omega), if_neg (by decide)]
      · refine ⟨sA s 2 ((gA s 2).set 1 1), ?_, fun g => gI_sA .., fun g hg => by rw [gA_sA, if_neg hg], fun j hj => ?_, by simp [gA_sA, l2]⟩
        · unfold k_refInc
          rw [e, own_obj i0 (by omega), if_neg (by decide), ix_ofNat _ (by omega), a2 1 (by omega), Option.bind_some, st_ofNat _ _ (by omega) (by omega), Option.bind_some]; rfl
        · have : j = 0 ∨ j = 1 := by omega
          rw [gA_sA, if_pos rfl, e]
          rcases this with rfl | rfl
          · rw [List.getElem?_set_ne (by omega), a2 0 (by omega), if_neg (by decide)]
          · rw [List.getElem?_set_self (by omega), if_pos rfl]
    obtain ⟨y, hy⟩ : ∃ y, y = sA x 1 ((gA s 1).set (a * 4 + f) v3) := ⟨_, rfl⟩
    have yI : ∀ g, gI y g = gI s g := fun g => by rw [hy, gI_sA, xI]
    have wf : k_writeFieldRaw (Int32.ofNat a) v2 v3 x = some y := by
      unfold k_writeFieldRaw
      rw [own_obj (by rw [xI, i0]) (by omega), if_neg (by decide), fno x (by rw [xI, i1]), if_neg qf, idx, xA 1 (by decide), st_ofNat _ _ (by omega) (by omega), Option.bind_some, hy]
    have ea : k_assignField (Int32.ofNat a) v2 v3 s = some y := by
      unfold k_assignField k_refDec
      rw [rf, Option.bind_some, nobj s i0, if_pos rfl, Option.bind_some, ex, Option.bind_some, wf, Option.bind_some]
    have en : k_noteZeroCount (-1) y = some () := by unfold k_noteZeroCount; rw [if_pos rfl]
    have es : k_store (Int32.ofNat a) v2 v3 s = some (0, y) := by
      unfold k_store
      rw [sc, Option.bind_some, if_pos rfl, ra, Option.bind_some, vs, Option.bind_some, rf, Option.bind_some, nr, Option.bind_some, if_pos rfl, ea, Option.bind_some, en, Option.bind_some]
    have y0 : gA y 0 = gA s 0 := by rw [hy, gA_sA, if_neg (by decide), xA 0 (by decide)]
    have y2 : gA y 2 = gA x 2 := by rw [hy, gA_sA, if_neg (by decide)]
    have y1 : gA y 1 = (gA s 1).set (a * 4 + f) v3 := by rw [hy, gA_sA, if_pos rfl]
    have ylive : ∀ j, j < 2 → k_isLiveId (Int32.ofNat j) y = some 1 := fun j hj => by
      unfold k_isLiveId
      rw [own_obj (by rw [yI, i0]) (by omega), if_neg (by decide), ix_ofNat _ (by omega), y0, a0 j (by omega), if_pos hj, Option.bind_some, if_neg (by decide)]
    have yfld : ∀ j, j < 2 → k_field (Int32.ofNat j) v2 y = some (if a = j then v3 else -1) := fun j hj => by
      unfold k_field k_readField
      rw [ylive j hj, Option.bind_some, if_neg (by decide), fno y (by rw [yI, i1]), if_neg qf, own_obj (by rw [yI, i0]) (by omega), if_neg (by decide), if_neg qf, ef, show Int32.ofNat j * 4 = Int32.ofNat (j * 4) from (Int32.ofNat_mul j 4).symm, ofNat_add', ix_ofNat _ (by omega), y1]
      by_cases q : a = j
      · subst q
        rw [List.getElem?_set_self (by omega), if_pos rfl, Option.bind_some, Option.bind_some]
      · rw [List.getElem?_set_ne (by omega), a1 _ (by omega), if_neg q, Option.bind_some, Option.bind_some]
    have ycnt : ∀ j, j < 2 → k_count (Int32.ofNat j) y = some (if v3 = Int32.ofNat j then 1 else 0) := fun j hj => by
      unfold k_count
      rw [ylive j hj, Option.bind_some, if_neg (by decide), ix_ofNat _ (by omega), y2, xA2 j hj, Option.bind_some]
    have g0 : k_field 0 v2 y = _ := yfld 0 (by omega)
    have g1 : k_field 1 v2 y = _ := yfld 1 (by omega)
    have d0 : k_count 0 y = _ := ycnt 0 (by omega)
    have d1 : k_count 1 y = _ := ycnt 1 (by omega)
    refine ⟨y, ?_⟩
    rw [es, Option.bind_some]
    have a01 : a = 0 ∨ a = 1 := by omega
    have hfv' : (if v2 < 0 then (0 : Int32) else if v2 < Int32.ofNat F then 1 else 0) = 1 := by rw [if_neg hv0, if_pos hvF]
    rcases a01 with rfl | rfl
    · simp [law_58, law_74, law_91, law_108, law_141, law_153, law_197, law_224, law_256, law_273, hfv', hv', g0, g1, d0, d1, k_tableSize, k_reconciliations, k_depth, yI, i5, i6, i8]
    · simp [law_58, law_74, law_91, law_108, law_141, law_153, law_197, law_224, law_256, law_273, hfv', hv', g0, g1, d0, d1, k_tableSize, k_reconciliations, k_depth, yI, i5, i6, i8]
  · have hr0 : (if v1 = 0 then (1 : Int32) else if v1 = 1 then 1 else 0) = 0 := by rw [if_neg (fun e => hroot (Or.inl e)), if_neg (fun e => hroot (Or.inr e))]
    have es : k_store v1 v2 v3 s = some (-5, s) := bad (-5) (by decide) (by unfold k_storeCheck; rw [own_root A2, hr0, if_pos rfl])
    refine ⟨s, ?_⟩
    rw [es, Option.bind_some]
    simp [law_58, law_74, law_91, law_108, law_141, law_153, law_197, law_224, law_256, law_273, hr0, ← hfv, f0, f1, c0, c1, k_tableSize, k_reconciliations, k_depth, i5, i6, i8]
set_option maxRecDepth 65536 in
set_option maxHeartbeats 40000000 in
theorem comes_1 {Post : Tables → Env → Array Value → State → Outcome → State → Prop} (hpost : ∀ tb e args s v u, (limb_1_1.after args s (.returned v) u = true ∧ limb_1_2.after args s (.returned v) u = true ∧ True) → FrameEnd s (.returned v) u (Jvm.fieldLocs frame_1_writes args s ++ Jvm.arrayLocs frame_1_arrays args s ++ Jvm.staticLocs frame_1_statics s) 32 1856 → Post tb e args s (.returned v) u) :
    ArmFor flags0 classFile x code maxLocals ret World_1 tables_1 room_1 Calls_1 rest_1 Pre_1 Post := by
  intro l hfl _ _ p e ha hc hk s m args below hf hA hF happ hP
  obtain ⟨hcalls, hrest, hpre⟩ := hP
  obtain ⟨-, -, -, hnamed, -, -, -, hat⟩ := (Spec.applies_iff hf).mp happ
  obtain ⟨hg, hn⟩ := and_e (Cond.before_iff.mp (show (Jvm.Cond.and given_1 narrow_1).before args s = true from hpre))
  obtain ⟨g0, b0⟩ := and_e hg
  obtain ⟨a0, b1⟩ := and_e b0
  obtain ⟨a1, b2⟩ := and_e b1
  obtain ⟨a2, b3⟩ := and_e b2
  have a3 := b3
  obtain ⟨w0, w1, w2, w3, rfl⟩ : ∃ w0 w1 w2 w3 : Value, args = #[w0, w1, w2, w3] := by
    have hs : args.size = 4 := by simpa [Cond.value, given_1] using g0
    obtain ⟨L⟩ := args
    match L, hs with
    | [w0, w1, w2, w3], _ => exact ⟨w0, w1, w2, w3, rfl⟩
  have hw := fun d (hd : d ∈ tables_1) => atoms_spec (ws := Jvm.Cond.code x code maxLocals ret :: tables_1) hat d (List.mem_cons_of_mem _ hd)
  have hfit : Fit s := fun {y c} hc i hi => by
    obtain ⟨ha, rfl⟩ := Array.getElem?_eq_some_iff.mp hc
    have q := List.all_eq_true.mp ((Array.all_eq_true_iff_forall_mem.mp hF) _ (Array.getElem_mem ha)) i (List.mem_range.mpr hi)
    simpa [Array.getElem?_eq_getElem hi] using q
  obtain ⟨i0, ei0⟩ := is_v a0
  obtain rfl : w0 = (.int i0) := Option.some.inj ei0
  obtain ⟨i1, ei1⟩ := is_v a1
  obtain rfl : w1 = (.int i1) := Option.some.inj ei1
  obtain ⟨i2, ei2⟩ := is_v a2
  obtain rfl : w2 = (.int i2) := Option.some.inj ei2
  obtain ⟨i3, ei3⟩ := is_v a3
  obtain rfl : w3 = (.int i3) := Option.some.inj ei3
  obtain ⟨t, ht⟩ := law_true i0 i1 i2 i3
  have C : Call PP m37 [.int i0, .int i1, .int i2, .int i3] (none, []) (some (.int ((1 : Int32), t).1), (none, [(11, ((1 : Int32), t).2)])) := call_of_go pl_1 rfl (fun h => by cases h) (law_ok i0 i1 i2 i3 _ ht)
  obtain ⟨n, o, h1, h2, h3, _, L, rfl, ⟨rfl, N, _⟩, hq⟩ := C l s _ tables_1 0 s.heap.size s.heap.size s.heap hw (facts1 hw) (Nat.le_refl _) (repW_none ..) (Nat.zero_le _) (fun _ => ⟨rfl, rfl, rfl⟩) p e ha hc hk s m _ below hf ((Spec.applies_iff_loose hf).mp happ).1 ⟨rfl, State.Warmed39.refl s, rfl⟩ trivial
  refine ⟨n, _, h1, h2, h3, hpost _ _ _ _ _ _ ⟨Cond.after_iff.mpr rfl, Cond.after_iff.mpr (eq_i res_at (Term.int_eval (1)) rfl), trivial⟩ ⟨hq.1, hq.2.1, (hq.2.2.sift fun y hy => Or.inr (N y hy)).mono (by decide) (by decide)⟩⟩
theorem main_1_1 : Claimed_1_1 := comes_1 fun _ _ _ _ _ _ h hF => ⟨h.1, hF⟩
theorem main_1_2 : Claimed_1_2 := comes_1 fun _ _ _ _ _ _ h hF => ⟨h.2.1, hF⟩
end Jvm.Pilot.@@N@@
namespace Jvm.Pilot.@@N@@
open Jvm Jvm.ClassFile Sem Op Lib Jvm.Free Jvm.Stand Jvm.Pilot.@@N@@.Jvm.D
/-! MADE BY PROGRAM (witnessworld.py) out of the Statement's table words and the real class files: 11 classes; the members and pool entries that the words name. The judged class is class 1, her method 1. -/
namespace start1
open Jvm.ClassFile
def u (s : String) : CpInfo := .utf8 (stringToUtf16 s)
/-- a pool by its gaps: so many unusable entries, then the entry; so many at the end -/
def gap : Nat → List CpInfo → List CpInfo
  | 0, r => r
  | n + 1, r => .unusable :: gap n r
def poolList (es : List (Nat × CpInfo)) (last : Nat) : List CpInfo := es.foldr (fun e r => gap e.1 (e.2 :: r)) (gap last [])
def pool (es : List (Nat × CpInfo)) (last : Nat) : Array CpInfo := ⟨poolList es last⟩
def fileOf (pool : Array CpInfo) (this : Nat) (attrs : Array Attribute := #[]) (ms : Array MethodInfo := #[]) (fl : Nat := 33) (sup : Nat := 0) (ifs : Array Nat := #[]) (fds : Array FieldInfo := #[]) : ClassFile where
  minorVersion := 0
  majorVersion := 65
  constantPool := pool
  accessFlags := fl
  thisClass := this
  superClass := sup
  interfaces := ifs
  fields := fds
  methods := ms
  attributes := attrs
def plain (name : String) (sup : Option ClassId) : Class where
  name := name
  kind := .ordinary
  loader := none
  accessFlags := 33
  super := sup
  interfaces := #[]
  cf := none
  fields := #[]
  methods := #[]
  instanceTypes := #[]
  staticTypes := #[]
  resolved := #[]
  callSites := []
  init := .initialized
  statics := none
  mirror := none

def pool0 : Array CpInfo := pool [(5, u "<init>"), (0, u "()V"), (1, .class_ 10), (1, u "java/lang/Object")] 113

def k0c0 : Code := { maxStack := 0, maxLocals := 1, code := object_method_1_code, exceptionTable := #[], attributes := #[] }
def k0m0 : Method := { name := "<init>", desc := "()V", sig := { parameters := [], returnType := none }, accessFlags := 1, code := some k0c0 }
/-- java/lang/Object -/
def k0 : Class := { plain "java/lang/Object" none with
  accessFlags := 33
  interfaces := #[]
  cf := some (fileOf pool0 8 #[] #[{ accessFlags := 1, nameIndex := 5, descriptorIndex := 6, attributes := #[] }] 33 0 #[] #[])
  fields := #[]
  methods := #[k0m0]
  instanceTypes := #[]
  staticTypes := #[]
  resolved := Array.replicate 124 none
  statics := none }

def pool1 : Array CpInfo := pool [(2, .class_ 4), (1, u "java/lang/Object"), (0, u "<init>"), (0, u "()V"), (0, .class_ 8), (0, u "DeferredCountY"), (0, .methodref 7 10), (0, .nameAndType 5 11), (0, u "(IIII)V"), (0, .methodref 7 13), (0, .nameAndType 14 15), (0, u "alloc"), (0, u "()I"), (0, .methodref 7 17), (0, .nameAndType 18 19), (0, u "store"), (0, u "(III)I"), (0, .methodref 7 21), (0, .nameAndType 22 23), (0, u "field"), (0, u "(II)I"), (0, .methodref 7 25), (0, .nameAndType 26 27), (0, u "count"), (0, u "(I)I"), (0, .methodref 7 29), (0, .nameAndType 30 15), (0, u "tableSize"), (0, .methodref 7 32), (0, .nameAndType 33 15), (0, u "reconciliations"), (0, .methodref 7 35), (0, .nameAndType 36 15), (0, u "depth"), (0, .class_ 38), (0, u "DeferredCountYL2"), (2, u "law"), (0, u "(IIII)Z")] 3

def k1m0 : Method := { name := "<init>", desc := "()V", sig := { parameters := [], returnType := none }, accessFlags := 1, code := none }
def k1c1 : Code := { maxStack := 6, maxLocals := 25, code := code, exceptionTable := #[], attributes := #[] }
def k1m1 : Method := { name := "law", desc := "(IIII)Z", sig := { parameters := [.int, .int, .int, .int], returnType := some .boolean }, accessFlags := 9, code := some k1c1 }
/-- DeferredCountYL2 -/
def k1 : Class := { plain "DeferredCountYL2" (some 0) with
  accessFlags := 49
  interfaces := #[]
  cf := some (fileOf pool1 37 #[] #[{ accessFlags := 1, nameIndex := 5, descriptorIndex := 6, attributes := #[] }, { accessFlags := 9, nameIndex := 41, descriptorIndex := 42, attributes := #[] }] 49 2 #[] #[])
  fields := #[]
  methods := #[k1m0, k1m1]
  instanceTypes := #[]
  staticTypes := #[]
  resolved := Array.replicate 46 none
  statics := none }

def pool2 : Array CpInfo := pool [(1, .methodref 2 3), (0, .class_ 4), (0, .nameAndType 5 6), (0, u "java/lang/Object"), (0, u "<init>"), (0, u "()V"), (0, .fieldref 8 9), (0, .class_ 10), (0, .nameAndType 11 12), (0, u "DeferredCountY"), (0, u "live"), (0, u "[Z"), (0, .fieldref 8 14), (0, .nameAndType 15 16), (0, u "cellFields"), (0, u "[I"), (0, .fieldref 8 18), (0, .nameAndType 19 16), (0, u "refs"), (0, .fieldref 8 21), (0, .nameAndType 22 16), (0, u "rootStack"), (0, .fieldref 8 24), (0, .nameAndType 25 16), (0, u "tableIds"), (0, .fieldref 8 27), (0, .nameAndType 28 16), (0, u "tablePos"), (0, .fieldref 8 30), (0, .nameAndType 31 12), (0, u "survivor"), (0, .fieldref 8 33), (0, .nameAndType 34 12), (0, u "rootHeld"), (0, .fieldref 8 36), (0, .nameAndType 37 12), (0, u "queued"), (0, .fieldref 8 39), (0, .nameAndType 40 16), (0, u "holders"), (0, .fieldref 8 42), (0, .nameAndType 43 16), (0, u "work"), (0, .methodref 8 45), (0, .nameAndType 46 47), (0, u "clamp"), (0, u "(III)I"), (0, .fieldref 8 49), (0, .nameAndType 50 51), (0, u "heapCells"), (0, u "I"), (0, .fieldref 8 53), (0, .nameAndType 54 51), (0, u "fieldsPer"), (0, .fieldref 8 56), (0, .nameAndType 57 51), (0, u "rootCap"), (0, .fieldref 8 59), (0, .nameAndType 60 51), (0, u "tableCap"), (0, .methodref 8 62), (0, .nameAndType 63 6), (0, u "resetHeap"), (0, .methodref 8 65), (0, .nameAndType 66 6), (0, u "resetRoots"), (0, .methodref 8 68), (0, .nameAndType 69 6), (0, u "resetTable"), (0, .methodref 8 71), (0, .nameAndType 72 6), (0, u "resetScratch"), (0, .fieldref 8 74), (0, .nameAndType 75 51), (0, u "runs"), (0, .methodref 8 77), (0, .nameAndType 78 79), (0, u "rootsFull"), (0, u "()Z"), (0, .methodref 8 81), (0, .nameAndType 82 79), (0, u "allocNeedsReconcile"), (3, u "()I"), (0, .methodref 8 88), (0, .nameAndType 89 86), (0, u "lowestFreeCell"), (0, .methodref 8 91), (0, .nameAndType 92 93), (0, u "placeNewObject"), (0, u "(I)V"), (3, u "(II)I"), (0, .methodref 8 99), (0, .nameAndType 100 97), (0, u "readField"), (0, .methodref 8 102), (0, .nameAndType 103 93), (0, u "rootPush"), (0, .methodref 8 105), (0, .nameAndType 106 47), (0, u "storeCheck"), (0, .methodref 8 108), (0, .nameAndType 109 110), (0, u "valueOfSlot"), (0, u "(I)I"), (0, .methodref 8 112), (0, .nameAndType 113 114), (0, u "storeNeedsReconcile"), (0, u "(II)Z"), (0, .methodref 8 116), (0, .nameAndType 117 118), (0, u "assignField"), (0, u "(III)V"), (0, .methodref 8 120), (0, .nameAndType 121 93), (0, u "noteZeroCount"), (3, .fieldref 8 126), (0, .nameAndType 127 51), (0, u "rootDepth"), (3, .methodref 8 132), (0, .nameAndType 133 134), (0, u "isRootSlot"), (0, u "(I)Z"), (0, .methodref 8 136), (0, .nameAndType 137 134), (0, u "isLiveId"), (0, .methodref 8 139), (0, .nameAndType 140 134), (0, u "isFieldNo"), (3, .fieldref 8 145), (0, .nameAndType 146 51), (0, u "tableLen"), (0, .fieldref 8 148), (0, .nameAndType 149 51), (0, u "liveTotal"), (0, .methodref 8 151), (0, .nameAndType 152 134), (0, u "isValueSlot"), (0, .methodref 8 154), (0, .nameAndType 155 79), (0, u "hasFreeCell"), (0, .methodref 8 157), (0, .nameAndType 158 79), (0, u "tableIsFull"), (0, .methodref 8 160), (0, .nameAndType 161 93), (0, u "bringToLife"), (0, .methodref 8 163), (0, .nameAndType 164 134), (0, u "tableInsert"), (0, .methodref 8 166), (0, .nameAndType 167 134), (0, u "isObjectId"), (0, .methodref 8 169), (0, .nameAndType 170 93), (0, u "refDec"), (0, .methodref 8 172), (0, .nameAndType 173 93), (0, u "refInc"), (0, .methodref 8 175), (0, .nameAndType 176 118), (0, u "writeFieldRaw"), (24, .fieldref 8 202), (0, .nameAndType 203 51), (0, u "workTop"), (15, .methodref 8 220), (0, .nameAndType 221 93), (0, u "clearCellFields"), (0, u "NIL"), (2, u "OK"), (1, u "ROOTS_FULL"), (1, u "ROOTS_EMPTY"), (1, u "HEAP_FULL"), (1, u "BAD_SLOT"), (1, u "BAD_FIELD"), (1, u "NULL_REF"), (1, u "BAD_OBJECT"), (1, u "MAX_HEAP"), (1, u "MAX_FIELDS"), (1, u "MAX_ROOTS"), (1, u "MAX_TABLE"), (0, u "(IIII)V"), (2, u "alloc"), (2, u "store"), (3, u "depth"), (2, u "field"), (0, u "count"), (1, u "tableSize"), (1, u "reconciliations")] 3

def k2c0 : Code := { maxStack := 4, maxLocals := 6, code := prog_1_method_1_code, exceptionTable := #[], attributes := #[] }
def k2m0 : Method := { name := "<init>", desc := "(IIII)V", sig := { parameters := [.int, .int, .int, .int], returnType := none }, accessFlags := 1, code := some k2c0 }
def k2c1 : Code := { maxStack := 2, maxLocals := 2, code := prog_1_method_2_code, exceptionTable := #[], attributes := #[] }
def k2m1 : Method := { name := "alloc", desc := "()I", sig := { parameters := [], returnType := some .int }, accessFlags := 1, code := some k2c1 }
def k2c2 : Code := { maxStack := 4, maxLocals := 8, code := prog_1_method_4_code, exceptionTable := #[], attributes := #[] }
def k2m2 : Method := { name := "store", desc := "(III)I", sig := { parameters := [.int, .int, .int], returnType := some .int }, accessFlags := 1, code := some k2c2 }
def k2c3 : Code := { maxStack := 1, maxLocals := 1, code := prog_1_method_8_code, exceptionTable := #[], attributes := #[] }
def k2m3 : Method := { name := "depth", desc := "()I", sig := { parameters := [], returnType := some .int }, accessFlags := 1, code := some k2c3 }
def k2c4 : Code := { maxStack := 3, maxLocals := 3, code := prog_1_method_11_code, exceptionTable := #[], attributes := #[] }
def k2m4 : Method := { name := "field", desc := "(II)I", sig := { parameters := [.int, .int], returnType := some .int }, accessFlags := 1, code := some k2c4 }
def k2c5 : Code := { maxStack := 2, maxLocals := 2, code := prog_1_method_12_code, exceptionTable := #[], attributes := #[] }
def k2m5 : Method := { name := "count", desc := "(I)I", sig := { parameters := [.int], returnType := some .int }, accessFlags := 1, code := some k2c5 }
def k2c6 : Code := { maxStack := 1, maxLocals := 1, code := prog_1_method_14_code, exceptionTable := #[], attributes := #[] }
def k2m6 : Method := { name := "tableSize", desc := "()I", sig := { parameters := [], returnType := some .int }, accessFlags := 1, code := some k2c6 }
def k2c7 : Code := { maxStack := 1, maxLocals := 1, code := prog_1_method_16_code, exceptionTable := #[], attributes := #[] }
def k2m7 : Method := { name := "reconciliations", desc := "()I", sig := { parameters := [], returnType := some .int }, accessFlags := 1, code := some k2c7 }
def k2c8 : Code := { maxStack := 3, maxLocals := 4, code := prog_1_method_18_code, exceptionTable := #[], attributes := #[] }
def k2m8 : Method := { name := "storeCheck", desc := "(III)I", sig := { parameters := [.int, .int, .int], returnType := some .int }, accessFlags := 2, code := some k2c8 }
def k2c9 : Code := { maxStack := 1, maxLocals := 1, code := prog_1_method_20_code, exceptionTable := #[], attributes := #[] }
def k2m9 : Method := { name := "allocNeedsReconcile", desc := "()Z", sig := { parameters := [], returnType := some .boolean }, accessFlags := 2, code := some k2c9 }
def k2c10 : Code := { maxStack := 2, maxLocals := 2, code := prog_1_method_21_code, exceptionTable := #[], attributes := #[] }
def k2m10 : Method := { name := "placeNewObject", desc := "(I)V", sig := { parameters := [.int], returnType := none }, accessFlags := 2, code := some k2c10 }
def k2c11 : Code := { maxStack := 2, maxLocals := 3, code := prog_1_method_22_code, exceptionTable := #[], attributes := #[] }
def k2m11 : Method := { name := "storeNeedsReconcile", desc := "(II)Z", sig := { parameters := [.int, .int], returnType := some .boolean }, accessFlags := 2, code := some k2c11 }
def k2c12 : Code := { maxStack := 4, maxLocals := 5, code := prog_1_method_23_code, exceptionTable := #[], attributes := #[] }
def k2m12 : Method := { name := "assignField", desc := "(III)V", sig := { parameters := [.int, .int, .int], returnType := none }, accessFlags := 2, code := some k2c12 }
def k2c13 : Code := { maxStack := 2, maxLocals := 2, code := prog_1_method_24_code, exceptionTable := #[], attributes := #[] }
def k2m13 : Method := { name := "noteZeroCount", desc := "(I)V", sig := { parameters := [.int], returnType := none }, accessFlags := 2, code := some k2c13 }
def k2c14 : Code := { maxStack := 2, maxLocals := 1, code := prog_1_method_38_code, exceptionTable := #[], attributes := #[] }
def k2m14 : Method := { name := "hasFreeCell", desc := "()Z", sig := { parameters := [], returnType := some .boolean }, accessFlags := 2, code := some k2c14 }
def k2c15 : Code := { maxStack := 2, maxLocals := 2, code := prog_1_method_39_code, exceptionTable := #[], attributes := #[] }
def k2m15 : Method := { name := "lowestFreeCell", desc := "()I", sig := { parameters := [], returnType := some .int }, accessFlags := 2, code := some k2c15 }
def k2c16 : Code := { maxStack := 3, maxLocals := 2, code := prog_1_method_40_code, exceptionTable := #[], attributes := #[] }
def k2m16 : Method := { name := "bringToLife", desc := "(I)V", sig := { parameters := [.int], returnType := none }, accessFlags := 2, code := some k2c16 }
def k2c17 : Code := { maxStack := 3, maxLocals := 4, code := prog_1_method_42_code, exceptionTable := #[], attributes := #[] }
def k2m17 : Method := { name := "clearCellFields", desc := "(I)V", sig := { parameters := [.int], returnType := none }, accessFlags := 2, code := some k2c17 }
def k2c18 : Code := { maxStack := 3, maxLocals := 3, code := prog_1_method_43_code, exceptionTable := #[], attributes := #[] }
def k2m18 : Method := { name := "readField", desc := "(II)I", sig := { parameters := [.int, .int], returnType := some .int }, accessFlags := 2, code := some k2c18 }
def k2c19 : Code := { maxStack := 3, maxLocals := 4, code := prog_1_method_44_code, exceptionTable := #[], attributes := #[] }
def k2m19 : Method := { name := "writeFieldRaw", desc := "(III)V", sig := { parameters := [.int, .int, .int], returnType := none }, accessFlags := 2, code := some k2c19 }
def k2c20 : Code := { maxStack := 4, maxLocals := 2, code := prog_1_method_45_code, exceptionTable := #[], attributes := #[] }
def k2m20 : Method := { name := "refInc", desc := "(I)V", sig := { parameters := [.int], returnType := none }, accessFlags := 2, code := some k2c20 }
def k2c21 : Code := { maxStack := 4, maxLocals := 2, code := prog_1_method_46_code, exceptionTable := #[], attributes := #[] }
def k2m21 : Method := { name := "refDec", desc := "(I)V", sig := { parameters := [.int], returnType := none }, accessFlags := 2, code := some k2c21 }
def k2c22 : Code := { maxStack := 2, maxLocals := 1, code := prog_1_method_47_code, exceptionTable := #[], attributes := #[] }
def k2m22 : Method := { name := "rootsFull", desc := "()Z", sig := { parameters := [], returnType := some .boolean }, accessFlags := 2, code := some k2c22 }
def k2c23 : Code := { maxStack := 3, maxLocals := 2, code := prog_1_method_48_code, exceptionTable := #[], attributes := #[] }
def k2m23 : Method := { name := "rootPush", desc := "(I)V", sig := { parameters := [.int], returnType := none }, accessFlags := 2, code := some k2c23 }
def k2c24 : Code := { maxStack := 2, maxLocals := 2, code := prog_1_method_50_code, exceptionTable := #[], attributes := #[] }
def k2m24 : Method := { name := "valueOfSlot", desc := "(I)I", sig := { parameters := [.int], returnType := some .int }, accessFlags := 2, code := some k2c24 }
def k2c25 : Code := { maxStack := 2, maxLocals := 1, code := prog_1_method_52_code, exceptionTable := #[], attributes := #[] }
def k2m25 : Method := { name := "tableIsFull", desc := "()Z", sig := { parameters := [], returnType := some .boolean }, accessFlags := 2, code := some k2c25 }
def k2c26 : Code := { maxStack := 3, maxLocals := 2, code := prog_1_method_53_code, exceptionTable := #[], attributes := #[] }
def k2m26 : Method := { name := "tableInsert", desc := "(I)Z", sig := { parameters := [.int], returnType := some .boolean }, accessFlags := 2, code := some k2c26 }
def k2c27 : Code := { maxStack := 3, maxLocals := 2, code := prog_1_method_54_code, exceptionTable := #[], attributes := #[] }
def k2m27 : Method := { name := "resetHeap", desc := "()V", sig := { parameters := [], returnType := none }, accessFlags := 2, code := some k2c27 }
def k2c28 : Code := { maxStack := 3, maxLocals := 2, code := prog_1_method_55_code, exceptionTable := #[], attributes := #[] }
def k2m28 : Method := { name := "resetRoots", desc := "()V", sig := { parameters := [], returnType := none }, accessFlags := 2, code := some k2c28 }
def k2c29 : Code := { maxStack := 3, maxLocals := 2, code := prog_1_method_56_code, exceptionTable := #[], attributes := #[] }
def k2m29 : Method := { name := "resetTable", desc := "()V", sig := { parameters := [], returnType := none }, accessFlags := 2, code := some k2c29 }
def k2c30 : Code := { maxStack := 3, maxLocals := 2, code := prog_1_method_57_code, exceptionTable := #[], attributes := #[] }
def k2m30 : Method := { name := "resetScratch", desc := "()V", sig := { parameters := [], returnType := none }, accessFlags := 2, code := some k2c30 }
def k2c31 : Code := { maxStack := 2, maxLocals := 3, code := prog_1_method_58_code, exceptionTable := #[], attributes := #[] }
def k2m31 : Method := { name := "clamp", desc := "(III)I", sig := { parameters := [.int, .int, .int], returnType := some .int }, accessFlags := 10, code := some k2c31 }
def k2c32 : Code := { maxStack := 2, maxLocals := 2, code := prog_1_method_59_code, exceptionTable := #[], attributes := #[] }
def k2m32 : Method := { name := "isObjectId", desc := "(I)Z", sig := { parameters := [.int], returnType := some .boolean }, accessFlags := 2, code := some k2c32 }
def k2c33 : Code := { maxStack := 2, maxLocals := 2, code := prog_1_method_60_code, exceptionTable := #[], attributes := #[] }
def k2m33 : Method := { name := "isLiveId", desc := "(I)Z", sig := { parameters := [.int], returnType := some .boolean }, accessFlags := 2, code := some k2c33 }
def k2c34 : Code := { maxStack := 2, maxLocals := 2, code := prog_1_method_61_code, exceptionTable := #[], attributes := #[] }
def k2m34 : Method := { name := "isFieldNo", desc := "(I)Z", sig := { parameters := [.int], returnType := some .boolean }, accessFlags := 2, code := some k2c34 }
def k2c35 : Code := { maxStack := 2, maxLocals := 2, code := prog_1_method_62_code, exceptionTable := #[], attributes := #[] }
def k2m35 : Method := { name := "isRootSlot", desc := "(I)Z", sig := { parameters := [.int], returnType := some .boolean }, accessFlags := 2, code := some k2c35 }
def k2c36 : Code := { maxStack := 2, maxLocals := 2, code := prog_1_method_63_code, exceptionTable := #[], attributes := #[] }
def k2m36 : Method := { name := "isValueSlot", desc := "(I)Z", sig := { parameters := [.int], returnType := some .boolean }, accessFlags := 2, code := some k2c36 }
/-- DeferredCountY -/
def k2 : Class := { plain "DeferredCountY" (some 0) with
  accessFlags := 49
  interfaces := #[]
  cf := some (fileOf pool2 8 #[] #[{ accessFlags := 1, nameIndex := 5, descriptorIndex := 248, attributes := #[] }, { accessFlags := 1, nameIndex := 251, descriptorIndex := 86, attributes := #[] }, { accessFlags := 1, nameIndex := 254, descriptorIndex := 47, attributes := #[] }, { accessFlags := 1, nameIndex := 258, descriptorIndex := 86, attributes := #[] }, { accessFlags := 1, nameIndex := 261, descriptorIndex := 97, attributes := #[] }, { accessFlags := 1, nameIndex := 262, descriptorIndex := 110, attributes := #[] }, { accessFlags := 1, nameIndex := 264, descriptorIndex := 86, attributes := #[] }, { accessFlags := 1, nameIndex := 266, descriptorIndex := 86, attributes := #[] }, { accessFlags := 2, nameIndex := 106, descriptorIndex := 47, attributes := #[] }, { accessFlags := 2, nameIndex := 82, descriptorIndex := 79, attributes := #[] }, { accessFlags := 2, nameIndex := 92, descriptorIndex := 93, attributes := #[] }, { accessFlags := 2, nameIndex := 113, descriptorIndex := 114, attributes := #[] }, { accessFlags := 2, nameIndex := 117, descriptorIndex := 118, attributes := #[] }, { accessFlags := 2, nameIndex := 121, descriptorIndex := 93, attributes := #[] }, { accessFlags := 2, nameIndex := 155, descriptorIndex := 79, attributes := #[] }, { accessFlags := 2, nameIndex := 89, descriptorIndex := 86, attributes := #[] }, { accessFlags := 2, nameIndex := 161, descriptorIndex := 93, attributes := #[] }, { accessFlags := 2, nameIndex := 221, descriptorIndex := 93, attributes := #[] }, { accessFlags := 2, nameIndex := 100, descriptorIndex := 97, attributes := #[] }, { accessFlags := 2, nameIndex := 176, descriptorIndex := 118, attributes := #[] }, { accessFlags := 2, nameIndex := 173, descriptorIndex := 93, attributes := #[] }, { accessFlags := 2, nameIndex := 170, descriptorIndex := 93, attributes := #[] }, { accessFlags := 2, nameIndex := 78, descriptorIndex := 79, attributes := #[] }, { accessFlags := 2, nameIndex := 103, descriptorIndex := 93, attributes := #[] }, { accessFlags := 2, nameIndex := 109, descriptorIndex := 110, attributes := #[] }, { accessFlags := 2, nameIndex := 158, descriptorIndex := 79, attributes := #[] }, { accessFlags := 2, nameIndex := 164, descriptorIndex := 134, attributes := #[] }, { accessFlags := 2, nameIndex := 63, descriptorIndex := 6, attributes := #[] }, { accessFlags := 2, nameIndex := 66, descriptorIndex := 6, attributes := #[] }, { accessFlags := 2, nameIndex := 69, descriptorIndex := 6, attributes := #[] }, { accessFlags := 2, nameIndex := 72, descriptorIndex := 6, attributes := #[] }, { accessFlags := 10, nameIndex := 46, descriptorIndex := 47, attributes := #[] }, { accessFlags := 2, nameIndex := 167, descriptorIndex := 134, attributes := #[] }, { accessFlags := 2, nameIndex := 137, descriptorIndex := 134, attributes := #[] }, { accessFlags := 2, nameIndex := 140, descriptorIndex := 134, attributes := #[] }, { accessFlags := 2, nameIndex := 133, descriptorIndex := 134, attributes := #[] }, { accessFlags := 2, nameIndex := 152, descriptorIndex := 134, attributes := #[] }] 49 2 #[] #[{ accessFlags := 25, nameIndex := 222, descriptorIndex := 51, attributes := #[] }, { accessFlags := 25, nameIndex := 225, descriptorIndex := 51, attributes := #[] }, { accessFlags := 25, nameIndex := 227, descriptorIndex := 51, attributes := #[] }, { accessFlags := 25, nameIndex := 229, descriptorIndex := 51, attributes := #[] }, { accessFlags := 25, nameIndex := 231, descriptorIndex := 51, attributes := #[] }, { accessFlags := 25, nameIndex := 233, descriptorIndex := 51, attributes := #[] }, { accessFlags := 25, nameIndex := 235, descriptorIndex := 51, attributes := #[] }, { accessFlags := 25, nameIndex := 237, descriptorIndex := 51, attributes := #[] }, { accessFlags := 25, nameIndex := 239, descriptorIndex := 51, attributes := #[] }, { accessFlags := 25, nameIndex := 241, descriptorIndex := 51, attributes := #[] }, { accessFlags := 25, nameIndex := 243, descriptorIndex := 51, attributes := #[] }, { accessFlags := 25, nameIndex := 245, descriptorIndex := 51, attributes := #[] }, { accessFlags := 25, nameIndex := 247, descriptorIndex := 51, attributes := #[] }, { accessFlags := 2, nameIndex := 50, descriptorIndex := 51, attributes := #[] }, { accessFlags := 2, nameIndex := 54, descriptorIndex := 51, attributes := #[] }, { accessFlags := 2, nameIndex := 57, descriptorIndex := 51, attributes := #[] }, { accessFlags := 2, nameIndex := 60, descriptorIndex := 51, attributes := #[] }, { accessFlags := 2, nameIndex := 11, descriptorIndex := 12, attributes := #[] }, { accessFlags := 2, nameIndex := 15, descriptorIndex := 16, attributes := #[] }, { accessFlags := 2, nameIndex := 19, descriptorIndex := 16, attributes := #[] }, { accessFlags := 2, nameIndex := 149, descriptorIndex := 51, attributes := #[] }, { accessFlags := 2, nameIndex := 22, descriptorIndex := 16, attributes := #[] }, { accessFlags := 2, nameIndex := 127, descriptorIndex := 51, attributes := #[] }, { accessFlags := 2, nameIndex := 25, descriptorIndex := 16, attributes := #[] }, { accessFlags := 2, nameIndex := 28, descriptorIndex := 16, attributes := #[] }, { accessFlags := 2, nameIndex := 146, descriptorIndex := 51, attributes := #[] }, { accessFlags := 2, nameIndex := 75, descriptorIndex := 51, attributes := #[] }, { accessFlags := 2, nameIndex := 31, descriptorIndex := 12, attributes := #[] }, { accessFlags := 2, nameIndex := 34, descriptorIndex := 12, attributes := #[] }, { accessFlags := 2, nameIndex := 37, descriptorIndex := 12, attributes := #[] }, { accessFlags := 2, nameIndex := 40, descriptorIndex := 16, attributes := #[] }, { accessFlags := 2, nameIndex := 43, descriptorIndex := 16, attributes := #[] }, { accessFlags := 2, nameIndex := 203, descriptorIndex := 51, attributes := #[] }])
  fields := #[{ name := "NIL", type := .int, accessFlags := 25, slot := 0, constantValue := 0 }, { name := "OK", type := .int, accessFlags := 25, slot := 1, constantValue := 0 }, { name := "ROOTS_FULL", type := .int, accessFlags := 25, slot := 2, constantValue := 0 }, { name := "ROOTS_EMPTY", type := .int, accessFlags := 25, slot := 3, constantValue := 0 }, { name := "HEAP_FULL", type := .int, accessFlags := 25, slot := 4, constantValue := 0 }, { name := "BAD_SLOT", type := .int, accessFlags := 25, slot := 5, constantValue := 0 }, { name := "BAD_FIELD", type := .int, accessFlags := 25, slot := 6, constantValue := 0 }, { name := "NULL_REF", type := .int, accessFlags := 25, slot := 7, constantValue := 0 }, { name := "BAD_OBJECT", type := .int, accessFlags := 25, slot := 8, constantValue := 0 }, { name := "MAX_HEAP", type := .int, accessFlags := 25, slot := 9, constantValue := 0 }, { name := "MAX_FIELDS", type := .int, accessFlags := 25, slot := 10, constantValue := 0 }, { name := "MAX_ROOTS", type := .int, accessFlags := 25, slot := 11, constantValue := 0 }, { name := "MAX_TABLE", type := .int, accessFlags := 25, slot := 12, constantValue := 0 }, { name := "heapCells", type := .int, accessFlags := 2, slot := 0, constantValue := 0 }, { name := "fieldsPer", type := .int, accessFlags := 2, slot := 1, constantValue := 0 }, { name := "rootCap", type := .int, accessFlags := 2, slot := 2, constantValue := 0 }, { name := "tableCap", type := .int, accessFlags := 2, slot := 3, constantValue := 0 }, { name := "live", type := (.array .boolean), accessFlags := 2, slot := 4, constantValue := 0 }, { name := "cellFields", type := (.array .int), accessFlags := 2, slot := 5, constantValue := 0 }, { name := "refs", type := (.array .int), accessFlags := 2, slot := 6, constantValue := 0 }, { name := "liveTotal", type := .int, accessFlags := 2, slot := 7, constantValue := 0 }, { name := "rootStack", type := (.array .int), accessFlags := 2, slot := 8, constantValue := 0 }, { name := "rootDepth", type := .int, accessFlags := 2, slot := 9, constantValue := 0 }, { name := "tableIds", type := (.array .int), accessFlags := 2, slot := 10, constantValue := 0 }, { name := "tablePos", type := (.array .int), accessFlags := 2, slot := 11, constantValue := 0 }, { name := "tableLen", type := .int, accessFlags := 2, slot := 12, constantValue := 0 }, { name := "runs", type := .int, accessFlags := 2, slot := 13, constantValue := 0 }, { name := "survivor", type := (.array .boolean), accessFlags := 2, slot := 14, constantValue := 0 }, { name := "rootHeld", type := (.array .boolean), accessFlags := 2, slot := 15, constantValue := 0 }, { name := "queued", type := (.array .boolean), accessFlags := 2, slot := 16, constantValue := 0 }, { name := "holders", type := (.array .int), accessFlags := 2, slot := 17, constantValue := 0 }, { name := "work", type := (.array .int), accessFlags := 2, slot := 18, constantValue := 0 }, { name := "workTop", type := .int, accessFlags := 2, slot := 19, constantValue := 0 }]
  methods := #[k2m0, k2m1, k2m2, k2m3, k2m4, k2m5, k2m6, k2m7, k2m8, k2m9, k2m10, k2m11, k2m12, k2m13, k2m14, k2m15, k2m16, k2m17, k2m18, k2m19, k2m20, k2m21, k2m22, k2m23, k2m24, k2m25, k2m26, k2m27, k2m28, k2m29, k2m30, k2m31, k2m32, k2m33, k2m34, k2m35, k2m36]
  instanceTypes := #[.int, .int, .int, .int, (.array .boolean), (.array .int), (.array .int), .int, (.array .int), .int, (.array .int), (.array .int), .int, .int, (.array .boolean), (.array .boolean), (.array .boolean), (.array .int), (.array .int), .int]
  staticTypes := #[.int, .int, .int, .int, .int, .int, .int, .int, .int, .int, .int, .int, .int]
  resolved := Array.replicate 270 none
  statics := none }

def pool3 : Array CpInfo := pool [(1, u "java/lang/Cloneable"), (0, .class_ 1), (0, u "java/lang/Object"), (0, .class_ 3)] 3

/-- java/lang/Cloneable -/
def k3 : Class := { plain "java/lang/Cloneable" (some 0) with
  accessFlags := 1537
  interfaces := #[]
  cf := some (fileOf pool3 2 #[] #[] 1537 4 #[] #[])
  fields := #[]
  methods := #[]
  instanceTypes := #[]
  staticTypes := #[]
  resolved := Array.replicate 8 none
  statics := none }

def pool4 : Array CpInfo := pool [(1, u "java/io/Serializable"), (0, .class_ 1), (0, u "java/lang/Object"), (0, .class_ 3)] 3

/-- java/io/Serializable -/
def k4 : Class := { plain "java/io/Serializable" (some 0) with
  accessFlags := 1537
  interfaces := #[]
  cf := some (fileOf pool4 2 #[] #[] 1537 4 #[] #[])
  fields := #[]
  methods := #[]
  instanceTypes := #[]
  staticTypes := #[]
  resolved := Array.replicate 8 none
  statics := none }

/-- the primitive boolean -/
def k5 : Class := { plain "boolean" none with kind := .primitive 'Z', accessFlags := 0x411 }
/-- [Z -/
def k6 : Class := { plain "[Z" (some 0) with kind := .array 5 .boolean, interfaces := #[3, 4], accessFlags := 1041 }

/-- the primitive byte -/
def k7 : Class := { plain "byte" none with kind := .primitive 'B', accessFlags := 0x411 }
/-- [B -/
def k8 : Class := { plain "[B" (some 0) with kind := .array 7 .byte, interfaces := #[3, 4], accessFlags := 1041 }

/-- the primitive int -/
def k9 : Class := { plain "int" none with kind := .primitive 'I', accessFlags := 0x411 }
/-- [I -/
def k10 : Class := { plain "[I" (some 0) with kind := .array 9 .int, interfaces := #[3, 4], accessFlags := 1041 }

def heap : Heap := #[]
def classes : Array Class := #[k0, k1, k2, k3, k4, k5, k6, k7, k8, k9, k10]
def interned : List (Array UInt16 × Addr) := []
def slotsUsed : Nat := 0
def theMethod : MethodId := ⟨1, 1⟩
def args0 : Array Value := #[.int 5, .int 5, .int 5, .int 5]
def aboutOver (below : List Frame) : State where
  vm := { classes := classes, interned := interned.toArray }
  heap := heap
  slotsUsed := slotsUsed
  threads := #[{ frames := .invoking theMethod args0 :: below }]
def below0 : List Frame := [.native { method := ⟨0, 0⟩, args := #[] }]
def about1 : State := aboutOver below0
def p0 : Program := .bare "" "" ""
def e0 : Env := launch0.env 0 0 0
theorem w_frames : about1.frames = Frame.invoking theMethod args0 :: below0 := rfl
set_option maxRecDepth 65536 in
theorem w_args : argsFit about1.vm theMethod args0 = true := by decide +kernel
set_option maxRecDepth 65536 in
theorem w_heap : heapFits about1 = true := by decide +kernel
set_option maxRecDepth 65536 in
theorem w_runnable : about1.curStatus? = some .runnable := by decide +kernel
set_option maxRecDepth 65536 in
theorem w_alone : about1.alone = true := by decide +kernel
set_option maxRecDepth 65536 in
theorem w_named : about1.methodNamed? x = some theMethod := by decide +kernel
set_option maxRecDepth 65536 in
theorem w_hears : about1.hears theMethod below0 = true := by decide +kernel
set_option maxRecDepth 65536 in
theorem w_ripe : about1.ripe theMethod args0 below0 = true := by decide +kernel
theorem w_running : about1.status = .running := rfl
set_option maxRecDepth 65536 in
theorem w_room : about1.hasRoom e0.platform room_1 = true :=
  launch0.hasRoom_least _ room_1 (by decide +kernel) (by decide +kernel) (by decide +kernel) (by decide +kernel) (by decide +kernel) (by decide +kernel)
theorem allAtoms_all (ts : List Jvm.Cond) (a : Array Jvm.Value) (st : Jvm.State) : (allAtoms ts).before a st = ts.all (fun c => c.before a st) := by
  induction ts with
  | nil => rfl
  | cons c t ih =>
    show (Jvm.Cond.and c (allAtoms t)).before a st = _
    rw [Jvm.Cond.before_and, ih, List.all_cons]
def words1 : List Jvm.Cond := Jvm.Cond.code x code maxLocals ret :: tables_1
/-- a 'code' word, met by the world's own term for the bytes: nothing is compared byte by byte -/
theorem code_word {y : MethodName} {bytes : ByteArray} {mx : Nat} {rt : Option FieldType} {a : Array Value} {s : State} {m : MethodId} {meth : Method} {c : Code} (h1 : s.methodNamed? y = some m) (h2 : s.vm.method? m = some meth) (h3 : meth.code = some c) (h4 : c.code = bytes)
    (h5 : (c.maxLocals == mx && c.exceptionTable.isEmpty && decide (c.maxStack ≤ mostOperands) && decide (meth.sig.returnType = rt) && !meth.locks && decide (parseMethodDescriptor y.desc = some meth.sig)) = true) : (Jvm.Cond.code y bytes mx rt).before a s = true := by
  simp only [Bool.and_eq_true, beq_iff_eq, Bool.not_eq_true', decide_eq_true_eq] at h5
  obtain ⟨⟨⟨⟨⟨g1, g2⟩, g3⟩, g4⟩, g5⟩, g6⟩ := h5
  simp [Cond.before, Cond.holds, Cond.value, h1, h2, h3, h4, g1, g2, g3, g4, g5, g6]
def isCode : Jvm.Cond → Bool
  | .code _ _ _ _ => true
  | _ => false
theorem all_split {L : List Jvm.Cond} {P : Jvm.Cond → Bool} (h1 : L.all (fun c => isCode c || P c) = true) (h2 : ∀ c ∈ L.filter isCode, P c = true) : L.all P = true := by
  refine List.all_eq_true.mpr fun c hc => ?_
  have h := List.all_eq_true.mp h1 c hc
  rcases Bool.eq_false_or_eq_true (isCode c) with hi | hi
  · exact h2 c (List.mem_filter.mpr ⟨hc, hi⟩)
  · simpa [hi] using h
set_option maxRecDepth 65536 in
theorem w_c0 : (Jvm.Cond.code x code maxLocals ret).before args0 about1 = true := code_word (m := ⟨1, 1⟩) (meth := k1m1) (c := k1c1) (by decide +kernel) rfl rfl rfl (by decide +kernel)
set_option maxRecDepth 65536 in
theorem w_c1 : (Jvm.Cond.code ({ cls := "DeferredCountY", name := "<init>", desc := "(IIII)V" } : Jvm.MethodName) prog_1_method_1_code (6 : Nat) (Option.none : Option Jvm.ClassFile.FieldType)).before args0 about1 = true := code_word (m := ⟨2, 0⟩) (meth := k2m0) (c := k2c0) (by decide +kernel) rfl rfl rfl (by decide +kernel)
set_option maxRecDepth 65536 in
theorem w_c2 : (Jvm.Cond.code ({ cls := "java/lang/Object", name := "<init>", desc := "()V" } : Jvm.MethodName) object_method_1_code (1 : Nat) (Option.none : Option Jvm.ClassFile.FieldType)).before args0 about1 = true := code_word (m := ⟨0, 0⟩) (meth := k0m0) (c := k0c0) (by decide +kernel) rfl rfl rfl (by decide +kernel)
set_option maxRecDepth 65536 in
theorem w_c3 : (Jvm.Cond.code ({ cls := "DeferredCountY", name := "clamp", desc := "(III)I" } : Jvm.MethodName) prog_1_method_58_code (3 : Nat) (Option.some Jvm.ClassFile.FieldType.int)).before args0 about1 = true := code_word (m := ⟨2, 31⟩) (meth := k2m31) (c := k2c31) (by decide +kernel) rfl rfl rfl (by decide +kernel)
set_option maxRecDepth 65536 in
theorem w_c4 : (Jvm.Cond.code ({ cls := "DeferredCountY", name := "resetHeap", desc := "()V" } : Jvm.MethodName) prog_1_method_54_code (2 : Nat) (Option.none : Option Jvm.ClassFile.FieldType)).before args0 about1 = true := code_word (m := ⟨2, 27⟩) (meth := k2m27) (c := k2c27) (by decide +kernel) rfl rfl rfl (by decide +kernel)
set_option maxRecDepth 65536 in
theorem w_c5 : (Jvm.Cond.code ({ cls := "DeferredCountY", name := "clearCellFields", desc := "(I)V" } : Jvm.MethodName) prog_1_method_42_code (4 : Nat) (Option.none : Option Jvm.ClassFile.FieldType)).before args0 about1 = true := code_word (m := ⟨2, 17⟩) (meth := k2m17) (c := k2c17) (by decide +kernel) rfl rfl rfl (by decide +kernel)
set_option maxRecDepth 65536 in
theorem w_c6 : (Jvm.Cond.code ({ cls := "DeferredCountY", name := "resetRoots", desc := "()V" } : Jvm.MethodName) prog_1_method_55_code (2 : Nat) (Option.none : Option Jvm.ClassFile.FieldType)).before args0 about1 = true := code_word (m := ⟨2, 28⟩) (meth := k2m28) (c := k2c28) (by decide +kernel) rfl rfl rfl (by decide +kernel)
set_option maxRecDepth 65536 in
theorem w_c7 : (Jvm.Cond.code ({ cls := "DeferredCountY", name := "resetTable", desc := "()V" } : Jvm.MethodName) prog_1_method_56_code (2 : Nat) (Option.none : Option Jvm.ClassFile.FieldType)).before args0 about1 = true := code_word (m := ⟨2, 29⟩) (meth := k2m29) (c := k2c29) (by decide +kernel) rfl rfl rfl (by decide +kernel)
set_option maxRecDepth 65536 in
theorem w_c8 : (Jvm.Cond.code ({ cls := "DeferredCountY", name := "resetScratch", desc := "()V" } : Jvm.MethodName) prog_1_method_57_code (2 : Nat) (Option.none : Option Jvm.ClassFile.FieldType)).before args0 about1 = true := code_word (m := ⟨2, 30⟩) (meth := k2m30) (c := k2c30) (by decide +kernel) rfl rfl rfl (by decide +kernel)
set_option maxRecDepth 65536 in
theorem w_c9 : (Jvm.Cond.code ({ cls := "DeferredCountY", name := "alloc", desc := "()I" } : Jvm.MethodName) prog_1_method_2_code (2 : Nat) (Option.some Jvm.ClassFile.FieldType.int)).before args0 about1 = true := code_word (m := ⟨2, 1⟩) (meth := k2m1) (c := k2c1) (by decide +kernel) rfl rfl rfl (by decide +kernel)
set_option maxRecDepth 65536 in
theorem w_c10 : (Jvm.Cond.code ({ cls := "DeferredCountY", name := "rootsFull", desc := "()Z" } : Jvm.MethodName) prog_1_method_47_code (1 : Nat) (Option.some Jvm.ClassFile.FieldType.boolean)).before args0 about1 = true := code_word (m := ⟨2, 22⟩) (meth := k2m22) (c := k2c22) (by decide +kernel) rfl rfl rfl (by decide +kernel)
set_option maxRecDepth 65536 in
theorem w_c11 : (Jvm.Cond.code ({ cls := "DeferredCountY", name := "allocNeedsReconcile", desc := "()Z" } : Jvm.MethodName) prog_1_method_20_code (1 : Nat) (Option.some Jvm.ClassFile.FieldType.boolean)).before args0 about1 = true := code_word (m := ⟨2, 9⟩) (meth := k2m9) (c := k2c9) (by decide +kernel) rfl rfl rfl (by decide +kernel)
set_option maxRecDepth 65536 in
theorem w_c12 : (Jvm.Cond.code ({ cls := "DeferredCountY", name := "hasFreeCell", desc := "()Z" } : Jvm.MethodName) prog_1_method_38_code (1 : Nat) (Option.some Jvm.ClassFile.FieldType.boolean)).before args0 about1 = true := code_word (m := ⟨2, 14⟩) (meth := k2m14) (c := k2c14) (by decide +kernel) rfl rfl rfl (by decide +kernel)
set_option maxRecDepth 65536 in
theorem w_c13 : (Jvm.Cond.code ({ cls := "DeferredCountY", name := "tableIsFull", desc := "()Z" } : Jvm.MethodName) prog_1_method_52_code (1 : Nat) (Option.some Jvm.ClassFile.FieldType.boolean)).before args0 about1 = true := code_word (m := ⟨2, 25⟩) (meth := k2m25) (c := k2c25) (by decide +kernel) rfl rfl rfl (by decide +kernel)
set_option maxRecDepth 65536 in
theorem w_c14 : (Jvm.Cond.code ({ cls := "DeferredCountY", name := "lowestFreeCell", desc := "()I" } : Jvm.MethodName) prog_1_method_39_code (2 : Nat) (Option.some Jvm.ClassFile.FieldType.int)).before args0 about1 = true := code_word (m := ⟨2, 15⟩) (meth := k2m15) (c := k2c15) (by decide +kernel) rfl rfl rfl (by decide +kernel)
set_option maxRecDepth 65536 in
theorem w_c15 : (Jvm.Cond.code ({ cls := "DeferredCountY", name := "placeNewObject", desc := "(I)V" } : Jvm.MethodName) prog_1_method_21_code (2 : Nat) (Option.none : Option Jvm.ClassFile.FieldType)).before args0 about1 = true := code_word (m := ⟨2, 10⟩) (meth := k2m10) (c := k2c10) (by decide +kernel) rfl rfl rfl (by decide +kernel)
set_option maxRecDepth 65536 in
theorem w_c16 : (Jvm.Cond.code ({ cls := "DeferredCountY", name := "bringToLife", desc := "(I)V" } : Jvm.MethodName) prog_1_method_40_code (2 : Nat) (Option.none : Option Jvm.ClassFile.FieldType)).before args0 about1 = true := code_word (m := ⟨2, 16⟩) (meth := k2m16) (c := k2c16) (by decide +kernel) rfl rfl rfl (by decide +kernel)
set_option maxRecDepth 65536 in
theorem w_c17 : (Jvm.Cond.code ({ cls := "DeferredCountY", name := "isObjectId", desc := "(I)Z" } : Jvm.MethodName) prog_1_method_59_code (2 : Nat) (Option.some Jvm.ClassFile.FieldType.boolean)).before args0 about1 = true := code_word (m := ⟨2, 32⟩) (meth := k2m32) (c := k2c32) (by decide +kernel) rfl rfl rfl (by decide +kernel)
set_option maxRecDepth 65536 in
theorem w_c18 : (Jvm.Cond.code ({ cls := "DeferredCountY", name := "tableInsert", desc := "(I)Z" } : Jvm.MethodName) prog_1_method_53_code (2 : Nat) (Option.some Jvm.ClassFile.FieldType.boolean)).before args0 about1 = true := code_word (m := ⟨2, 26⟩) (meth := k2m26) (c := k2c26) (by decide +kernel) rfl rfl rfl (by decide +kernel)
set_option maxRecDepth 65536 in
theorem w_c19 : (Jvm.Cond.code ({ cls := "DeferredCountY", name := "rootPush", desc := "(I)V" } : Jvm.MethodName) prog_1_method_48_code (2 : Nat) (Option.none : Option Jvm.ClassFile.FieldType)).before args0 about1 = true := code_word (m := ⟨2, 23⟩) (meth := k2m23) (c := k2c23) (by decide +kernel) rfl rfl rfl (by decide +kernel)
set_option maxRecDepth 65536 in
theorem w_c20 : (Jvm.Cond.code ({ cls := "DeferredCountY", name := "store", desc := "(III)I" } : Jvm.MethodName) prog_1_method_4_code (8 : Nat) (Option.some Jvm.ClassFile.FieldType.int)).before args0 about1 = true := code_word (m := ⟨2, 2⟩) (meth := k2m2) (c := k2c2) (by decide +kernel) rfl rfl rfl (by decide +kernel)
set_option maxRecDepth 65536 in
theorem w_c21 : (Jvm.Cond.code ({ cls := "DeferredCountY", name := "storeCheck", desc := "(III)I" } : Jvm.MethodName) prog_1_method_18_code (4 : Nat) (Option.some Jvm.ClassFile.FieldType.int)).before args0 about1 = true := code_word (m := ⟨2, 8⟩) (meth := k2m8) (c := k2c8) (by decide +kernel) rfl rfl rfl (by decide +kernel)
set_option maxRecDepth 65536 in
theorem w_c22 : (Jvm.Cond.code ({ cls := "DeferredCountY", name := "isRootSlot", desc := "(I)Z" } : Jvm.MethodName) prog_1_method_62_code (2 : Nat) (Option.some Jvm.ClassFile.FieldType.boolean)).before args0 about1 = true := code_word (m := ⟨2, 35⟩) (meth := k2m35) (c := k2c35) (by decide +kernel) rfl rfl rfl (by decide +kernel)
set_option maxRecDepth 65536 in
theorem w_c23 : (Jvm.Cond.code ({ cls := "DeferredCountY", name := "field", desc := "(II)I" } : Jvm.MethodName) prog_1_method_11_code (3 : Nat) (Option.some Jvm.ClassFile.FieldType.int)).before args0 about1 = true := code_word (m := ⟨2, 4⟩) (meth := k2m4) (c := k2c4) (by decide +kernel) rfl rfl rfl (by decide +kernel)
set_option maxRecDepth 65536 in
theorem w_c24 : (Jvm.Cond.code ({ cls := "DeferredCountY", name := "isLiveId", desc := "(I)Z" } : Jvm.MethodName) prog_1_method_60_code (2 : Nat) (Option.some Jvm.ClassFile.FieldType.boolean)).before args0 about1 = true := code_word (m := ⟨2, 33⟩) (meth := k2m33) (c := k2c33) (by decide +kernel) rfl rfl rfl (by decide +kernel)
set_option maxRecDepth 65536 in
theorem w_c25 : (Jvm.Cond.code ({ cls := "DeferredCountY", name := "isFieldNo", desc := "(I)Z" } : Jvm.MethodName) prog_1_method_61_code (2 : Nat) (Option.some Jvm.ClassFile.FieldType.boolean)).before args0 about1 = true := code_word (m := ⟨2, 34⟩) (meth := k2m34) (c := k2c34) (by decide +kernel) rfl rfl rfl (by decide +kernel)
set_option maxRecDepth 65536 in
theorem w_c26 : (Jvm.Cond.code ({ cls := "DeferredCountY", name := "count", desc := "(I)I" } : Jvm.MethodName) prog_1_method_12_code (2 : Nat) (Option.some Jvm.ClassFile.FieldType.int)).before args0 about1 = true := code_word (m := ⟨2, 5⟩) (meth := k2m5) (c := k2c5) (by decide +kernel) rfl rfl rfl (by decide +kernel)
set_option maxRecDepth 65536 in
theorem w_c27 : (Jvm.Cond.code ({ cls := "DeferredCountY", name := "tableSize", desc := "()I" } : Jvm.MethodName) prog_1_method_14_code (1 : Nat) (Option.some Jvm.ClassFile.FieldType.int)).before args0 about1 = true := code_word (m := ⟨2, 6⟩) (meth := k2m6) (c := k2c6) (by decide +kernel) rfl rfl rfl (by decide +kernel)
set_option maxRecDepth 65536 in
theorem w_c28 : (Jvm.Cond.code ({ cls := "DeferredCountY", name := "reconciliations", desc := "()I" } : Jvm.MethodName) prog_1_method_16_code (1 : Nat) (Option.some Jvm.ClassFile.FieldType.int)).before args0 about1 = true := code_word (m := ⟨2, 7⟩) (meth := k2m7) (c := k2c7) (by decide +kernel) rfl rfl rfl (by decide +kernel)
set_option maxRecDepth 65536 in
theorem w_c29 : (Jvm.Cond.code ({ cls := "DeferredCountY", name := "depth", desc := "()I" } : Jvm.MethodName) prog_1_method_8_code (1 : Nat) (Option.some Jvm.ClassFile.FieldType.int)).before args0 about1 = true := code_word (m := ⟨2, 3⟩) (meth := k2m3) (c := k2c3) (by decide +kernel) rfl rfl rfl (by decide +kernel)
set_option maxRecDepth 65536 in
theorem w_c30 : (Jvm.Cond.code ({ cls := "DeferredCountY", name := "isValueSlot", desc := "(I)Z" } : Jvm.MethodName) prog_1_method_63_code (2 : Nat) (Option.some Jvm.ClassFile.FieldType.boolean)).before args0 about1 = true := code_word (m := ⟨2, 36⟩) (meth := k2m36) (c := k2c36) (by decide +kernel) rfl rfl rfl (by decide +kernel)
set_option maxRecDepth 65536 in
theorem w_c31 : (Jvm.Cond.code ({ cls := "DeferredCountY", name := "readField", desc := "(II)I" } : Jvm.MethodName) prog_1_method_43_code (3 : Nat) (Option.some Jvm.ClassFile.FieldType.int)).before args0 about1 = true := code_word (m := ⟨2, 18⟩) (meth := k2m18) (c := k2c18) (by decide +kernel) rfl rfl rfl (by decide +kernel)
set_option maxRecDepth 65536 in
theorem w_c32 : (Jvm.Cond.code ({ cls := "DeferredCountY", name := "valueOfSlot", desc := "(I)I" } : Jvm.MethodName) prog_1_method_50_code (2 : Nat) (Option.some Jvm.ClassFile.FieldType.int)).before args0 about1 = true := code_word (m := ⟨2, 24⟩) (meth := k2m24) (c := k2c24) (by decide +kernel) rfl rfl rfl (by decide +kernel)
set_option maxRecDepth 65536 in
theorem w_c33 : (Jvm.Cond.code ({ cls := "DeferredCountY", name := "storeNeedsReconcile", desc := "(II)Z" } : Jvm.MethodName) prog_1_method_22_code (3 : Nat) (Option.some Jvm.ClassFile.FieldType.boolean)).before args0 about1 = true := code_word (m := ⟨2, 11⟩) (meth := k2m11) (c := k2c11) (by decide +kernel) rfl rfl rfl (by decide +kernel)
set_option maxRecDepth 65536 in
theorem w_c34 : (Jvm.Cond.code ({ cls := "DeferredCountY", name := "assignField", desc := "(III)V" } : Jvm.MethodName) prog_1_method_23_code (5 : Nat) (Option.none : Option Jvm.ClassFile.FieldType)).before args0 about1 = true := code_word (m := ⟨2, 12⟩) (meth := k2m12) (c := k2c12) (by decide +kernel) rfl rfl rfl (by decide +kernel)
set_option maxRecDepth 65536 in
theorem w_c35 : (Jvm.Cond.code ({ cls := "DeferredCountY", name := "refDec", desc := "(I)V" } : Jvm.MethodName) prog_1_method_46_code (2 : Nat) (Option.none : Option Jvm.ClassFile.FieldType)).before args0 about1 = true := code_word (m := ⟨2, 21⟩) (meth := k2m21) (c := k2c21) (by decide +kernel) rfl rfl rfl (by decide +kernel)
set_option maxRecDepth 65536 in
theorem w_c36 : (Jvm.Cond.code ({ cls := "DeferredCountY", name := "refInc", desc := "(I)V" } : Jvm.MethodName) prog_1_method_45_code (2 : Nat) (Option.none : Option Jvm.ClassFile.FieldType)).before args0 about1 = true := code_word (m := ⟨2, 20⟩) (meth := k2m20) (c := k2c20) (by decide +kernel) rfl rfl rfl (by decide +kernel)
set_option maxRecDepth 65536 in
theorem w_c37 : (Jvm.Cond.code ({ cls := "DeferredCountY", name := "writeFieldRaw", desc := "(III)V" } : Jvm.MethodName) prog_1_method_44_code (4 : Nat) (Option.none : Option Jvm.ClassFile.FieldType)).before args0 about1 = true := code_word (m := ⟨2, 19⟩) (meth := k2m19) (c := k2c19) (by decide +kernel) rfl rfl rfl (by decide +kernel)
set_option maxRecDepth 65536 in
theorem w_c38 : (Jvm.Cond.code ({ cls := "DeferredCountY", name := "noteZeroCount", desc := "(I)V" } : Jvm.MethodName) prog_1_method_24_code (2 : Nat) (Option.none : Option Jvm.ClassFile.FieldType)).before args0 about1 = true := code_word (m := ⟨2, 13⟩) (meth := k2m13) (c := k2c13) (by decide +kernel) rfl rfl rfl (by decide +kernel)
def codes1 : List Jvm.Cond := [Jvm.Cond.code x code maxLocals ret, Jvm.Cond.code ({ cls := "DeferredCountY", name := "<init>", desc := "(IIII)V" } : Jvm.MethodName) prog_1_method_1_code (6 : Nat) (Option.none : Option Jvm.ClassFile.FieldType), Jvm.Cond.code ({ cls := "java/lang/Object", name := "<init>", desc := "()V" } : Jvm.MethodName) object_method_1_code (1 : Nat) (Option.none : Option Jvm.ClassFile.FieldType), Jvm.Cond.code ({ cls := "DeferredCountY", name := "clamp", desc := "(III)I" } : Jvm.MethodName) prog_1_method_58_code (3 : Nat) (Option.some Jvm.ClassFile.FieldType.int), Jvm.Cond.code ({ cls := "DeferredCountY", name := "resetHeap", desc := "()V" } : Jvm.MethodName) prog_1_method_54_code (2 : Nat) (Option.none : Option Jvm.ClassFile.FieldType), Jvm.Cond.code ({ cls := "DeferredCountY", name := "clearCellFields", desc := "(I)V" } : Jvm.MethodName) prog_1_method_42_code (4 : Nat) (Option.none : Option Jvm.ClassFile.FieldType), Jvm.Cond.code ({ cls := "DeferredCountY", name := "resetRoots", desc := "()V" } : Jvm.MethodName) prog_1_method_55_code (2 : Nat) (Option.none : Option Jvm.ClassFile.FieldType), Jvm.Cond.code ({ cls := "DeferredCountY", name := "resetTable", desc := "()V" } : Jvm.MethodName) prog_1_method_56_code (2 : Nat) (Option.none : Option Jvm.ClassFile.FieldType), Jvm.Cond.code ({ cls := "DeferredCountY", name := "resetScratch", desc := "()V" } : Jvm.MethodName) prog_1_method_57_code (2 : Nat) (Option.none : Option Jvm.ClassFile.FieldType), Jvm.Cond.code ({ cls := "DeferredCountY", name := "alloc", desc := "()I" } : Jvm.MethodName) prog_1_method_2_code (2 : Nat) (Option.some Jvm.ClassFile.FieldType.int), Jvm.Cond.code ({ cls := "DeferredCountY", name := "rootsFull", desc := "()Z" } : Jvm.MethodName) prog_1_method_47_code (1 : Nat) (Option.some Jvm.ClassFile.FieldType.boolean), Jvm.Cond.code ({ cls := "DeferredCountY", name := "allocNeedsReconcile", desc := "()Z" } : Jvm.MethodName) prog_1_method_20_code (1 : Nat) (Option.some Jvm.ClassFile.FieldType.boolean), Jvm.Cond.code ({ cls := "DeferredCountY", name := "hasFreeCell", desc := "()Z" } : Jvm.MethodName) prog_1_method_38_code (1 : Nat) (Option.some Jvm.ClassFile.FieldType.boolean), Jvm.Cond.code ({ cls := "DeferredCountY", name := "tableIsFull", desc := "()Z" } : Jvm.MethodName) prog_1_method_52_code (1 : Nat) (Option.some Jvm.ClassFile.FieldType.boolean), Jvm.Cond.code ({ cls := "DeferredCountY", name := "lowestFreeCell", desc := "()I" } : Jvm.MethodName) prog_1_method_39_code (2 : Nat) (Option.some Jvm.ClassFile.FieldType.int), Jvm.Cond.code ({ cls := "DeferredCountY", name := "placeNewObject", desc := "(I)V" } : Jvm.MethodName) prog_1_method_21_code (2 : Nat) (Option.none : Option Jvm.ClassFile.FieldType), Jvm.Cond.code ({ cls := "DeferredCountY", name := "bringToLife", desc := "(I)V" } : Jvm.MethodName) prog_1_method_40_code (2 : Nat) (Option.none : Option Jvm.ClassFile.FieldType), Jvm.Cond.code ({ cls := "DeferredCountY", name := "isObjectId", desc := "(I)Z" } : Jvm.MethodName) prog_1_method_59_code (2 : Nat) (Option.some Jvm.ClassFile.FieldType.boolean), Jvm.Cond.code ({ cls := "DeferredCountY", name := "tableInsert", desc := "(I)Z" } : Jvm.MethodName) prog_1_method_53_code (2 : Nat) (Option.some Jvm.ClassFile.FieldType.boolean), Jvm.Cond.code ({ cls := "DeferredCountY", name := "rootPush", desc := "(I)V" } : Jvm.MethodName) prog_1_method_48_code (2 : Nat) (Option.none : Option Jvm.ClassFile.FieldType), Jvm.Cond.code ({ cls := "DeferredCountY", name := "store", desc := "(III)I" } : Jvm.MethodName) prog_1_method_4_code (8 : Nat) (Option.some Jvm.ClassFile.FieldType.int), Jvm.Cond.code ({ cls := "DeferredCountY", name := "storeCheck", desc := "(III)I" } : Jvm.MethodName) prog_1_method_18_code (4 : Nat) (Option.some Jvm.ClassFile.FieldType.int), Jvm.Cond.code ({ cls := "DeferredCountY", name := "isRootSlot", desc := "(I)Z" } : Jvm.MethodName) prog_1_method_62_code (2 : Nat) (Option.some Jvm.ClassFile.FieldType.boolean), Jvm.Cond.code ({ cls := "DeferredCountY", name := "field", desc := "(II)I" } : Jvm.MethodName) prog_1_method_11_code (3 : Nat) (Option.some Jvm.ClassFile.FieldType.int), Jvm.Cond.code ({ cls := "DeferredCountY", name := "isLiveId", desc := "(I)Z" } : Jvm.MethodName) prog_1_method_60_code (2 : Nat) (Option.some Jvm.ClassFile.FieldType.boolean), Jvm.Cond.code ({ cls := "DeferredCountY", name := "isFieldNo", desc := "(I)Z" } : Jvm.MethodName) prog_1_method_61_code (2 : Nat) (Option.some Jvm.ClassFile.FieldType.boolean), Jvm.Cond.code ({ cls := "DeferredCountY", name := "count", desc := "(I)I" } : Jvm.MethodName) prog_1_method_12_code (2 : Nat) (Option.some Jvm.ClassFile.FieldType.int), Jvm.Cond.code ({ cls := "DeferredCountY", name := "tableSize", desc := "()I" } : Jvm.MethodName) prog_1_method_14_code (1 : Nat) (Option.some Jvm.ClassFile.FieldType.int), Jvm.Cond.code ({ cls := "DeferredCountY", name := "reconciliations", desc := "()I" } : Jvm.MethodName) prog_1_method_16_code (1 : Nat) (Option.some Jvm.ClassFile.FieldType.int), Jvm.Cond.code ({ cls := "DeferredCountY", name := "depth", desc := "()I" } : Jvm.MethodName) prog_1_method_8_code (1 : Nat) (Option.some Jvm.ClassFile.FieldType.int), Jvm.Cond.code ({ cls := "DeferredCountY", name := "isValueSlot", desc := "(I)Z" } : Jvm.MethodName) prog_1_method_63_code (2 : Nat) (Option.some Jvm.ClassFile.FieldType.boolean), Jvm.Cond.code ({ cls := "DeferredCountY", name := "readField", desc := "(II)I" } : Jvm.MethodName) prog_1_method_43_code (3 : Nat) (Option.some Jvm.ClassFile.FieldType.int), Jvm.Cond.code ({ cls := "DeferredCountY", name := "valueOfSlot", desc := "(I)I" } : Jvm.MethodName) prog_1_method_50_code (2 : Nat) (Option.some Jvm.ClassFile.FieldType.int), Jvm.Cond.code ({ cls := "DeferredCountY", name := "storeNeedsReconcile", desc := "(II)Z" } : Jvm.MethodName) prog_1_method_22_code (3 : Nat) (Option.some Jvm.ClassFile.FieldType.boolean), Jvm.Cond.code ({ cls := "DeferredCountY", name := "assignField", desc := "(III)V" } : Jvm.MethodName) prog_1_method_23_code (5 : Nat) (Option.none : Option Jvm.ClassFile.FieldType), Jvm.Cond.code ({ cls := "DeferredCountY", name := "refDec", desc := "(I)V" } : Jvm.MethodName) prog_1_method_46_code (2 : Nat) (Option.none : Option Jvm.ClassFile.FieldType), Jvm.Cond.code ({ cls := "DeferredCountY", name := "refInc", desc := "(I)V" } : Jvm.MethodName) prog_1_method_45_code (2 : Nat) (Option.none : Option Jvm.ClassFile.FieldType), Jvm.Cond.code ({ cls := "DeferredCountY", name := "writeFieldRaw", desc := "(III)V" } : Jvm.MethodName) prog_1_method_44_code (4 : Nat) (Option.none : Option Jvm.ClassFile.FieldType), Jvm.Cond.code ({ cls := "DeferredCountY", name := "noteZeroCount", desc := "(I)V" } : Jvm.MethodName) prog_1_method_24_code (2 : Nat) (Option.none : Option Jvm.ClassFile.FieldType)]
set_option maxRecDepth 65536 in
theorem codes_eq : words1.filter isCode = codes1 := rfl
theorem w_codes : ∀ c ∈ words1.filter isCode, c.before args0 about1 = true := by
  rw [codes_eq]
  intro c hc
  simp only [codes1, List.mem_cons, List.not_mem_nil, or_false] at hc
  rcases hc with rfl | rfl | rfl | rfl | rfl | rfl | rfl | rfl | rfl | rfl | rfl | rfl | rfl | rfl | rfl | rfl | rfl | rfl | rfl | rfl | rfl | rfl | rfl | rfl | rfl | rfl | rfl | rfl | rfl | rfl | rfl | rfl | rfl | rfl | rfl | rfl | rfl | rfl | rfl
  · exact w_c0
  · exact w_c1
  · exact w_c2
  · exact w_c3
  · exact w_c4
  · exact w_c5
  · exact w_c6
  · exact w_c7
  · exact w_c8
  · exact w_c9
  · exact w_c10
  · exact w_c11
  · exact w_c12
  · exact w_c13
  · exact w_c14
  · exact w_c15
  · exact w_c16
  · exact w_c17
  · exact w_c18
  · exact w_c19
  · exact w_c20
  · exact w_c21
  · exact w_c22
  · exact w_c23
  · exact w_c24
  · exact w_c25
  · exact w_c26
  · exact w_c27
  · exact w_c28
  · exact w_c29
  · exact w_c30
  · exact w_c31
  · exact w_c32
  · exact w_c33
  · exact w_c34
  · exact w_c35
  · exact w_c36
  · exact w_c37
  · exact w_c38
set_option maxRecDepth 65536 in
theorem w_t1 : (words1.take 24).all (fun c => isCode c || c.before args0 about1) = true := by decide +kernel
set_option maxRecDepth 65536 in
theorem w_t2 : ((words1.drop 24).take 24).all (fun c => isCode c || c.before args0 about1) = true := by decide +kernel
set_option maxRecDepth 65536 in
theorem w_t3 : (((words1.drop 24).drop 24).take 24).all (fun c => isCode c || c.before args0 about1) = true := by decide +kernel
set_option maxRecDepth 65536 in
theorem w_t4 : ((((words1.drop 24).drop 24).drop 24).take 24).all (fun c => isCode c || c.before args0 about1) = true := by decide +kernel
set_option maxRecDepth 65536 in
theorem w_t5 : (((((words1.drop 24).drop 24).drop 24).drop 24).take 24).all (fun c => isCode c || c.before args0 about1) = true := by decide +kernel
set_option maxRecDepth 65536 in
theorem w_t6 : ((((((words1.drop 24).drop 24).drop 24).drop 24).drop 24).take 24).all (fun c => isCode c || c.before args0 about1) = true := by decide +kernel
set_option maxRecDepth 65536 in
theorem w_t7 : (((((((words1.drop 24).drop 24).drop 24).drop 24).drop 24).drop 24).take 24).all (fun c => isCode c || c.before args0 about1) = true := by decide +kernel
set_option maxRecDepth 65536 in
theorem w_t8 : ((((((((words1.drop 24).drop 24).drop 24).drop 24).drop 24).drop 24).drop 24).take 24).all (fun c => isCode c || c.before args0 about1) = true := by decide +kernel
set_option maxRecDepth 65536 in
theorem w_t9 : ((((((((words1.drop 24).drop 24).drop 24).drop 24).drop 24).drop 24).drop 24).drop 24).all (fun c => isCode c || c.before args0 about1) = true := by decide +kernel
theorem w_tables : (allAtoms (Jvm.Cond.code x code maxLocals ret :: tables_1)).before args0 about1 = true := by
  rw [allAtoms_all]
  show words1.all (fun c => c.before args0 about1) = true
  refine all_split ?_ w_codes
  rw [← List.take_append_drop 24 words1, List.all_append, w_t1, ← List.take_append_drop 24 (words1.drop 24), List.all_append, w_t2, ← List.take_append_drop 24 ((words1.drop 24).drop 24), List.all_append, w_t3, ← List.take_append_drop 24 (((words1.drop 24).drop 24).drop 24), List.all_append, w_t4, ← List.take_append_drop 24 ((((words1.drop 24).drop 24).drop 24).drop 24), List.all_append, w_t5, ← List.take_append_drop 24 (((((words1.drop 24).drop 24).drop 24).drop 24).drop 24), List.all_append, w_t6, ← List.take_append_drop 24 ((((((words1.drop 24).drop 24).drop 24).drop 24).drop 24).drop 24), List.all_append, w_t7, ← List.take_append_drop 24 (((((((words1.drop 24).drop 24).drop 24).drop 24).drop 24).drop 24).drop 24), List.all_append, w_t8, w_t9]
  rfl
set_option maxRecDepth 65536 in
theorem w_case : (Jvm.Cond.and given_1 narrow_1).before args0 about1 = true := by decide +kernel
theorem w_applies : (headSpec (Jvm.Cond.code x code maxLocals ret :: tables_1) room_1).applies x e0.platform about1 = true :=
  (Spec.applies_iff w_frames).mpr ⟨w_running, w_runnable, w_alone, w_named, w_hears, w_ripe, w_room, w_tables⟩
theorem atStart : AtStart classFile x code maxLocals ret World_1 tables_1 room_1 Calls_1 rest_1 Pre_1 launch0 p0 e0 about1 theMethod args0 below0 :=
  ⟨lists_1, trivial, launch0.admits_env _ _ _, launch0.least_env, fairChoices_fair.cas, fairChoices_fair.clock, w_frames, w_args, w_heap, w_applies, trivial, trivial, w_case⟩
end start1
theorem witness_1 : WitnessClaimed_1 := ⟨start1.p0, start1.e0, start1.about1, start1.theMethod, start1.args0, start1.below0, start1.atStart⟩
end Jvm.Pilot.@@N@@
