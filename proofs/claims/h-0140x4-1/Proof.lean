import JvmDerived
import JvmDerived.Pilot.@@N@@Statement
import JvmDerived.Pilot.@@N@@Code
set_option linter.unusedVariables false
set_option linter.unusedSimpArgs false
namespace Jvm.AM
open Sem ClassFile Op Lib Jvm.Stand Jvm.Free Jvm.LawKit Jvm.RoadKit
/-! ## 1. The abstract objects: one object of the class, its scalars and its arrays by number -/
abbrev S : Type := (Nat → Int32) × (Nat → Int64) × (Nat → List Int32) × (Nat → List Int64)
def upd {A : Type} (g : Nat → A) (f : Nat) (v : A) : Nat → A := fun x => if x = f then v else g x
def gI (s : S) (f : Nat) : Int32 := s.1 f
def gL (s : S) (f : Nat) : Int64 := s.2.1 f
def gA (s : S) (f : Nat) : List Int32 := s.2.2.1 f
def gB (s : S) (f : Nat) : List Int64 := s.2.2.2 f
def sI (s : S) (f : Nat) (v : Int32) : S := (upd s.1 f v, s.2)
def sL (s : S) (f : Nat) (v : Int64) : S := (s.1, upd s.2.1 f v, s.2.2)
def sA (s : S) (f : Nat) (v : List Int32) : S := (s.1, s.2.1, upd s.2.2.1 f v, s.2.2.2)
def sB (s : S) (f : Nat) (v : List Int64) : S := (s.1, s.2.1, s.2.2.1, upd s.2.2.2 f v)
def s0 : S := (fun _ => 0, fun _ => 0, fun _ => [], fun _ => [])
theorem gI_s0 (f : Nat) : gI s0 f = 0 := by simp only [gI, s0]
theorem gL_s0 (f : Nat) : gL s0 f = 0 := by simp only [gL, s0]
theorem gA_s0 (f : Nat) : gA s0 f = [] := by simp only [gA, s0]
theorem gB_s0 (f : Nat) : gB s0 f = [] := by simp only [gB, s0]
theorem gI_sI (s : S) (f g : Nat) (v : Int32) : gI (sI s f v) g = if g = f then v else gI s g := by simp only [gI, gL, gA, gB, sI, sL, sA, sB, upd]
theorem gI_sL (s : S) (f g : Nat) (v : Int64) : gI (sL s f v) g = gI s g := by simp only [gI, gL, gA, gB, sI, sL, sA, sB, upd]
theorem gI_sA (s : S) (f g : Nat) (v : List Int32) : gI (sA s f v) g = gI s g := by simp only [gI, gL, gA, gB, sI, sL, sA, sB, upd]
theorem gI_sB (s : S) (f g : Nat) (v : List Int64) : gI (sB s f v) g = gI s g := by simp only [gI, gL, gA, gB, sI, sL, sA, sB, upd]
theorem gL_sI (s : S) (f g : Nat) (v : Int32) : gL (sI s f v) g = gL s g := by simp only [gI, gL, gA, gB, sI, sL, sA, sB, upd]
theorem gL_sL (s : S) (f g : Nat) (v : Int64) : gL (sL s f v) g = if g = f then v else gL s g := by simp only [gI, gL, gA, gB, sI, sL, sA, sB, upd]
theorem gL_sA (s : S) (f g : Nat) (v : List Int32) : gL (sA s f v) g = gL s g := by simp only [gI, gL, gA, gB, sI, sL, sA, sB, upd]
theorem gL_sB (s : S) (f g : Nat) (v : List Int64) : gL (sB s f v) g = gL s g := by simp only [gI, gL, gA, gB, sI, sL, sA, sB, upd]
theorem gA_sI (s : S) (f g : Nat) (v : Int32) : gA (sI s f v) g = gA s g := by simp only [gI, gL, gA, gB, sI, sL, sA, sB, upd]
theorem gA_sL (s : S) (f g : Nat) (v : Int64) : gA (sL s f v) g = gA s g := by simp only [gI, gL, gA, gB, sI, sL, sA, sB, upd]
theorem gA_sA (s : S) (f g : Nat) (v : List Int32) : gA (sA s f v) g = if g = f then v else gA s g := by simp only [gI, gL, gA, gB, sI, sL, sA, sB, upd]
theorem gA_sB (s : S) (f g : Nat) (v : List Int64) : gA (sB s f v) g = gA s g := by simp only [gI, gL, gA, gB, sI, sL, sA, sB, upd]
theorem gB_sI (s : S) (f g : Nat) (v : Int32) : gB (sI s f v) g = gB s g := by simp only [gI, gL, gA, gB, sI, sL, sA, sB, upd]
theorem gB_sL (s : S) (f g : Nat) (v : Int64) : gB (sL s f v) g = gB s g := by simp only [gI, gL, gA, gB, sI, sL, sA, sB, upd]
theorem gB_sA (s : S) (f g : Nat) (v : List Int32) : gB (sA s f v) g = gB s g := by simp only [gI, gL, gA, gB, sI, sL, sA, sB, upd]
theorem gB_sB (s : S) (f g : Nat) (v : List Int64) : gB (sB s f v) g = if g = f then v else gB s g := by simp only [gI, gL, gA, gB, sI, sL, sA, sB, upd]
def rep {A : Type} (n : Nat) (x : A) : List A := List.replicate n x
theorem rep_length {A : Type} (n : Nat) (x : A) : (rep n x).length = n := by simp only [rep, List.length_replicate]
theorem rep_get {A : Type} (n : Nat) (x : A) (k : Nat) : (rep n x)[k]? = if k < n then some x else none := by simp only [rep, List.getElem?_replicate]
theorem rep_set {A : Type} (n : Nat) (x : A) (k : Nat) : (rep n x).set k x = rep n x := by simp only [rep, List.set_replicate_self]
/-- reading and writing a component -/
def ix {A : Type} (l : List A) (j : Int32) : Option A := if j < 0 then none else l[j.toNatClampNeg]?
def st {A : Type} (l : List A) (j : Int32) (x : A) : Option (List A) := if j < 0 then none else if j.toNatClampNeg < l.length then some (l.set j.toNatClampNeg x) else none
/-- the world of a run: the script array, if there is one; the objects made so far, each with the number of arrays that it has been given -/
abbrev W : Type := Option (List Int32) × List (Nat × S)
/-- the class: name, slots, scalar fields (name, descriptor, type), array fields in the order of their making (name, descriptor, component type, most slots) -/
abbrev CI : Type := String × Nat × List (String × String × FieldType) × List (String × String × FieldType × Nat)
def cN (c : CI) : String := c.1
def cF (c : CI) : Nat := c.2.1
def cS (c : CI) : List (String × String × FieldType) := c.2.2.1
def cA (c : CI) : List (String × String × FieldType × Nat) := c.2.2.2
def cK (c : CI) : Nat := (cA c).length
/-- the program: the sheet's words, the class -/
abbrev PI : Type := List Jvm.Cond × CI
/-- a method: name, bytes, variables, return type, room, most objects, whether it makes cells, cells and slots at its start -/
abbrev Meth : Type := MethodName × ByteArray × Nat × Option FieldType × Room × Nat × Bool × Nat × Nat
def mY (M : Meth) : MethodName := M.1
def mB (M : Meth) : ByteArray := M.2.1
def mL (M : Meth) : Nat := M.2.2.1
def mT (M : Meth) : Option FieldType := M.2.2.2.1
def mR (M : Meth) : Room := M.2.2.2.2.1
def mN (M : Meth) : Nat := M.2.2.2.2.2.1
def mTop (M : Meth) : Bool := M.2.2.2.2.2.2.1
def mUC (M : Meth) : Nat := M.2.2.2.2.2.2.2.1
def mUS (M : Meth) : Nat := M.2.2.2.2.2.2.2.2
/-! ## 2. Abstract references: 0 the script; j + 1 the cell at b + j -/
def con (α b : Nat) : Value → Value
  | .ref 0 => .ref α
  | .ref (j + 1) => .ref (b + j)
  | v => v
def cs (α b : Nat) : Slot → Slot
  | .val v => .val (con α b v)
  | .unset => .unset
  | .second => .second
def cL (α b : Nat) (L : List Slot) : Array Slot := (L.map (cs α b)).toArray
def cV (α b : Nat) (l : List Value) : List Value := l.map (con α b)
theorem con_cat (α b : Nat) (v : Value) : (con α b v).category = v.category := by
  cases v <;> try rfl
  rename_i a; cases a <;> rfl
theorem con_ref (α b : Nat) (v : Value) : (con α b v).isRef = v.isRef := by
  cases v <;> try rfl
  rename_i a; cases a <;> rfl
theorem cL_get {α b : Nat} {L : List Slot} {k : Nat} {x : Slot} (h : L[k]? = some x) : (cL α b L)[k]? = some (cs α b x) := by
  simp [cL, List.getElem?_toArray, List.getElem?_map, h]
theorem cL_size (α b : Nat) (L : List Slot) : (cL α b L).size = L.length := by simp [cL]
theorem cV_sum (α b : Nat) (l : List Value) : ((cV α b l).map fun v => v.category).sum = (l.map fun v => v.category).sum := by
  simp [cV, List.map_map, Function.comp_def, con_cat]
theorem setAt_map {α b : Nat} {l l' : Array Slot} {i : Nat} {x : Slot} (h : setAt l i x = some l') : setAt (l.map (cs α b)) i (cs α b x) = some (l'.map (cs α b)) := by
  unfold setAt at h ⊢
  split at h
  · rename_i q
    cases h
    rw [if_pos (by simpa using q)]
    simp [Array.map_setIfInBounds]
  · cases h
theorem storeSelf_map {α b : Nat} {l l' : Array Slot} {i : Nat} {v : Value} (h : storeSelf l i v = some l') : storeSelf (l.map (cs α b)) i (con α b v) = some (l'.map (cs α b)) := by
  simp only [storeSelf, Option.bind_eq_bind, Option.bind_eq_some_iff] at h ⊢
  obtain ⟨l1, h1, h2⟩ := h
  refine ⟨l1.map (cs α b), setAt_map (x := .val v) h1, ?_⟩
  rw [con_cat]
  split at h2
  · rename_i q
    rw [if_pos q]
    obtain ⟨x, h3, h4⟩ := Option.bind_eq_some_iff.mp h2
    refine Option.bind_eq_some_iff.mpr ⟨cs α b x, by simp [h3], ?_⟩
    cases x with
    | unset => exact setAt_map (x := .second) h4
    | second => exact setAt_map (x := .second) h4
    | val old =>
      simp only [cs, con_cat] at h4 ⊢
      split at h4
      · rename_i q2
        rw [if_pos q2]
        obtain ⟨y, h5, h6⟩ := Option.bind_eq_some_iff.mp h4
        exact Option.bind_eq_some_iff.mpr ⟨_, setAt_map (x := .unset) h5, setAt_map (x := .second) h6⟩
      · rename_i q2
        rw [if_neg q2]
        exact setAt_map (x := .second) h4
  · rename_i q
    rw [if_neg q]
    cases h2; rfl
theorem store_map {α b : Nat} {l l' : Array Slot} {i : Nat} {v : Value} (h : storeLocals l i v = some l') : storeLocals (l.map (cs α b)) i (con α b v) = some (l'.map (cs α b)) := by
  simp only [storeLocals, Option.bind_eq_bind, Option.bind_eq_some_iff] at h ⊢
  obtain ⟨x, h1, h2⟩ := h
  refine ⟨cs α b x, by simp [h1], ?_⟩
  cases x with
  | unset => exact storeSelf_map h2
  | second =>
    obtain ⟨y, h3, h4⟩ := Option.bind_eq_some_iff.mp h2
    exact Option.bind_eq_some_iff.mpr ⟨_, setAt_map (x := .unset) h3, storeSelf_map h4⟩
  | val old =>
    simp only [cs, con_cat] at h2 ⊢
    split at h2
    · rename_i q
      rw [if_pos q]
      obtain ⟨y, h3, h4⟩ := Option.bind_eq_some_iff.mp h2
      exact Option.bind_eq_some_iff.mpr ⟨_, setAt_map (x := .unset) h3, storeSelf_map h4⟩
    · rename_i q
      rw [if_neg q]
      exact storeSelf_map h2
theorem storeC {α b : Nat} {L L' : List Slot} {i : Nat} {v : Value} (h : storeLocals L.toArray i v = some L'.toArray) : storeLocals (cL α b L) i (con α b v) = some (cL α b L') := by
  have := store_map (α := α) (b := b) h
  simpa [cL] using this
theorem setAt_size {l l' : Array Slot} {i : Nat} {x : Slot} (h : setAt l i x = some l') : l'.size = l.size := by
  unfold setAt at h; split at h <;> cases h; simp
theorem storeSelf_size {l l' : Array Slot} {i : Nat} {v : Value} (h : storeSelf l i v = some l') : l'.size = l.size := by
  simp only [storeSelf, Option.bind_eq_bind, Option.bind_eq_some_iff] at h
  obtain ⟨l1, h1, h2⟩ := h
  have e1 := setAt_size h1
  split at h2
  · obtain ⟨x, h3, h4⟩ := Option.bind_eq_some_iff.mp h2
    cases x with
    | unset => exact (setAt_size h4).trans e1
    | second => exact (setAt_size h4).trans e1
    | val old =>
      dsimp only at h4
      split at h4
      · obtain ⟨y, h5, h6⟩ := Option.bind_eq_some_iff.mp h4
        exact (setAt_size h6).trans ((setAt_size h5).trans e1)
      · exact (setAt_size h4).trans e1
  · cases h2; exact e1
theorem store_size {l l' : Array Slot} {i : Nat} {v : Value} (h : storeLocals l i v = some l') : l'.size = l.size := by
  simp only [storeLocals, Option.bind_eq_bind, Option.bind_eq_some_iff] at h
  obtain ⟨x, h1, h2⟩ := h
  cases x with
  | unset => exact storeSelf_size h2
  | second =>
    obtain ⟨y, h3, h4⟩ := Option.bind_eq_some_iff.mp h2
    exact (storeSelf_size h4).trans (setAt_size h3)
  | val old =>
    dsimp only at h2
    split at h2
    · obtain ⟨y, h3, h4⟩ := Option.bind_eq_some_iff.mp h2
      exact (storeSelf_size h4).trans (setAt_size h3)
    · exact storeSelf_size h2
/-- a variable that may be written over by a value of one word -/
def k1 (o : Slot) : Prop := o = .unset ∨ ∃ w, o = .val w ∧ w.category = 1
def k2 (o o2 : Slot) : Prop := (o = .unset ∧ o2 = .unset) ∨ ∃ u, o = .val (.long u) ∧ o2 = .second
theorem setAt_l {L : List Slot} {k : Nat} {x : Slot} (h : k < L.length) : setAt L.toArray k x = some (L.set k x).toArray := by simp [setAt, h]
theorem get_l {L : List Slot} {k : Nat} {o : Slot} (h : L[k]? = some o) : L.toArray[k]? = some o := by rw [List.getElem?_toArray]; exact h
theorem store_u {L : List Slot} {k : Nat} {v : Value} (h : L[k]? = some .unset) : storeLocals L.toArray k v = storeSelf L.toArray k v := by
  simp only [storeLocals, Option.bind_eq_bind, get_l h, Option.bind_some]
theorem store_1 {L : List Slot} {k : Nat} {v w : Value} (h : L[k]? = some (.val w)) (hw : w.category = 1) : storeLocals L.toArray k v = storeSelf L.toArray k v := by
  simp only [storeLocals, Option.bind_eq_bind, get_l h, Option.bind_some]
  rw [if_neg (by rw [hw]; decide)]
theorem store_k {L : List Slot} {k : Nat} {v : Value} {o : Slot} (h : L[k]? = some o) (ho : k1 o) : storeLocals L.toArray k v = storeSelf L.toArray k v := by
  rcases ho with rfl | ⟨w, rfl, hw⟩
  · exact store_u h
  · exact store_1 h hw
theorem store_2 {L : List Slot} {k : Nat} {v w : Value} (h : L[k]? = some (.val w)) (hw : w.category = 2) (l2 : k + 1 < L.length) : storeLocals L.toArray k v = storeSelf (L.set (k + 1) .unset).toArray k v := by
  simp only [storeLocals, Option.bind_eq_bind, get_l h, Option.bind_some]
  rw [if_pos hw, setAt_l l2, Option.bind_some]
theorem self_1 {L : List Slot} {k : Nat} {v : Value} (hv : v.category = 1) (l : k < L.length) : storeSelf L.toArray k v = some (L.set k (.val v)).toArray := by
  simp only [storeSelf, Option.bind_eq_bind, setAt_l l, Option.bind_some]
  rw [if_neg (by rw [hv]; decide)]
theorem self_2 {L : List Slot} {k : Nat} {v : Value} {o : Slot} (hv : v.category = 2) (h : L[k + 1]? = some o) (ho : k1 o ∨ o = .second) (l : k < L.length) : storeSelf L.toArray k v = some ((L.set k (.val v)).set (k + 1) .second).toArray := by
  have l2 := (List.getElem?_eq_some_iff.mp h).1
  have e2 : (L.set k (.val v))[k + 1]? = some o := by rw [List.getElem?_set_ne (by omega)]; exact h
  simp only [storeSelf, Option.bind_eq_bind, setAt_l l, Option.bind_some]
  rw [if_pos hv, get_l e2, Option.bind_some]
  rcases ho with (rfl | ⟨w, rfl, hw⟩) | rfl
  · exact setAt_l (by rw [List.length_set]; exact l2)
  · dsimp only
    rw [if_neg (by rw [hw]; decide)]
    exact setAt_l (by rw [List.length_set]; exact l2)
  · exact setAt_l (by rw [List.length_set]; exact l2)
theorem self_3 {L : List Slot} {k : Nat} {v w : Value} (hv : v.category = 2) (h : L[k + 1]? = some (.val w)) (hw : w.category = 2) (l3 : k + 2 < L.length) (l : k < L.length) : storeSelf L.toArray k v = some (((L.set k (.val v)).set (k + 2) .unset).set (k + 1) .second).toArray := by
  have l2 := (List.getElem?_eq_some_iff.mp h).1
  have e2 : (L.set k (.val v))[k + 1]? = some (.val w) := by rw [List.getElem?_set_ne (by omega)]; exact h
  simp only [storeSelf, Option.bind_eq_bind, setAt_l l, Option.bind_some]
  rw [if_pos hv, get_l e2, Option.bind_some]
  dsimp only
  rw [if_pos hw, setAt_l (by rw [List.length_set]; exact l3), Option.bind_some, setAt_l (by rw [List.length_set, List.length_set]; exact l2)]
theorem stx {L : List Slot} {k : Nat} {o : Slot} {v : Value} (h : L[k]? = some o) (ho : k1 o) (hv : v.category = 1) : storeLocals L.toArray k v = some (L.set k (.val v)).toArray := by
  rw [store_k h ho, self_1 hv (List.getElem?_eq_some_iff.mp h).1]
theorem stx3 {L : List Slot} {k : Nat} {o o2 : Slot} {u : Int64} (h : L[k]? = some o) (h2 : L[k + 1]? = some o2) (ho : k1 o) (ho2 : k1 o2) : storeLocals L.toArray k (.long u) = some ((L.set k (.val (.long u))).set (k + 1) .second).toArray := by
  rw [store_k h ho, self_2 rfl h2 (Or.inl ho2) (List.getElem?_eq_some_iff.mp h).1]
theorem stx2 {L : List Slot} {k : Nat} {o o2 : Slot} {u : Int64} (h : L[k]? = some o) (h2 : L[k + 1]? = some o2) (ho : k2 o o2) : storeLocals L.toArray k (.long u) = some ((L.set k (.val (.long u))).set (k + 1) .second).toArray := by
  have l1 := (List.getElem?_eq_some_iff.mp h).1
  have l2 := (List.getElem?_eq_some_iff.mp h2).1
  rcases ho with ⟨rfl, rfl⟩ | ⟨u', rfl, rfl⟩
  · exact stx3 h h2 (Or.inl rfl) (Or.inl rfl)
  · rw [store_2 h rfl l2, self_2 (o := .unset) rfl (by rw [List.getElem?_set_self l2]) (Or.inl (Or.inl rfl)) (by rw [List.length_set]; exact l1)]
    rw [List.set_comm _ _ (show k + 1 ≠ k by omega), List.set_set]
theorem stx4 {L : List Slot} {k : Nat} {o2 : Slot} {w : Int64} {v : Value} (h : L[k]? = some (.val (.long w))) (h2 : L[k + 1]? = some o2) (hv : v.category = 1) : storeLocals L.toArray k v = some ((L.set (k + 1) .unset).set k (.val v)).toArray := by
  rw [store_2 h rfl (List.getElem?_eq_some_iff.mp h2).1, self_1 hv (by rw [List.length_set]; exact (List.getElem?_eq_some_iff.mp h).1)]
theorem stx5 {L : List Slot} {k : Nat} {o o3 : Slot} {w u : Int64} (h : L[k]? = some o) (ho : k1 o) (h2 : L[k + 1]? = some (.val (.long w))) (h3 : L[k + 2]? = some o3) : storeLocals L.toArray k (.long u) = some (((L.set k (.val (.long u))).set (k + 2) .unset).set (k + 1) .second).toArray := by
  rw [store_k h ho, self_3 rfl h2 rfl (List.getElem?_eq_some_iff.mp h3).1 (List.getElem?_eq_some_iff.mp h).1]
/-- a tail of dead variables -/
def wtf : Slot ⊕ Int64 → List Slot
  | .inl x => [x]
  | .inr u => [.val (.long u), .second]
def WT (D : List Slot) : Prop := ∃ l : List (Slot ⊕ Int64), D = l.flatMap wtf ∧ ∀ x, Sum.inl x ∈ l → k1 x
theorem wt0 : WT [] := ⟨[], rfl, fun _ h => nomatch h⟩
theorem wt1 {x : Slot} {D : List Slot} (h : k1 x) (W : WT D) : WT (x :: D) := by
  obtain ⟨l, rfl, g⟩ := W
  refine ⟨.inl x :: l, by simp [wtf], fun y hy => ?_⟩
  rcases List.mem_cons.mp hy with e | e
  · cases e; exact h
  · exact g y e
theorem wt2 {u : Int64} {D : List Slot} (W : WT D) : WT (.val (.long u) :: .second :: D) := by
  obtain ⟨l, rfl, g⟩ := W
  refine ⟨.inr u :: l, by simp [wtf], fun y hy => ?_⟩
  rcases List.mem_cons.mp hy with e | e
  · cases e
  · exact g y e
theorem wt12 {x y : Slot} {D : List Slot} (h : k2 x y) (W : WT D) : WT (x :: y :: D) := by
  rcases h with ⟨rfl, rfl⟩ | ⟨u, rfl, rfl⟩
  · exact wt1 (Or.inl rfl) (wt1 (Or.inl rfl) W)
  · exact wt2 W
theorem wt_cases {D : List Slot} (W : WT D) : D = [] ∨ (∃ x E, D = x :: E ∧ k1 x ∧ WT E) ∨ ∃ u E, D = .val (.long u) :: .second :: E ∧ WT E := by
  obtain ⟨l, rfl, g⟩ := W
  match l, g with
  | [], _ => exact Or.inl rfl
  | .inl x :: r, g => exact Or.inr (Or.inl ⟨x, r.flatMap wtf, by simp [wtf], g x (List.mem_cons_self ..), r, rfl, fun y hy => g y (List.mem_cons_of_mem _ hy)⟩)
  | .inr u :: r, g => exact Or.inr (Or.inr ⟨u, r.flatMap wtf, by simp [wtf], r, rfl, fun y hy => g y (List.mem_cons_of_mem _ hy)⟩)
theorem stT {L0 D : List Slot} {v : Value} {n : Nat} (W : WT D) (hl : D.length = n + 1) (hv : v.category = 1) : ∃ D', WT D' ∧ D'.length = n ∧ storeLocals (L0 ++ D).toArray L0.length v = some (L0 ++ ([.val v] : List Slot) ++ D').toArray := by
  rcases wt_cases W with rfl | ⟨x, E, rfl, hx, WE⟩ | ⟨u, E, rfl, WE⟩
  · simp at hl
  · refine ⟨E, WE, by simpa using hl, ?_⟩
    rw [stx (o := x) (by simp) hx hv]; simp
  · refine ⟨.unset :: E, wt1 (Or.inl rfl) WE, by simpa using hl, ?_⟩
    rw [stx4 (w := u) (o2 := .second) (by simp) (by rw [List.getElem?_append_right (by omega)]; simp) hv]
    simp [List.set_append]
theorem stT2 {L0 D : List Slot} {u : Int64} {n : Nat} (W : WT D) (hl : D.length = n + 2) : ∃ D', WT D' ∧ D'.length = n ∧ storeLocals (L0 ++ D).toArray L0.length (.long u) = some (L0 ++ ([.val (.long u), .second] : List Slot) ++ D').toArray := by
  rcases wt_cases W with rfl | ⟨x, E, rfl, hx, WE⟩ | ⟨w, E, rfl, WE⟩
  · simp at hl
  · rcases wt_cases WE with rfl | ⟨y, F, rfl, hy, WF⟩ | ⟨w, F, rfl, WF⟩
    · simp at hl
    · refine ⟨F, WF, by simpa using hl, ?_⟩
      rw [stx3 (o := x) (o2 := y) (by simp) (by rw [List.getElem?_append_right (by omega)]; simp) hx hy]
      simp [List.set_append]
    · refine ⟨.unset :: F, wt1 (Or.inl rfl) WF, by simpa using hl, ?_⟩
      rw [stx5 (o := x) (w := w) (o3 := .second) (by simp) hx (by rw [List.getElem?_append_right (by omega)]; simp) (by rw [List.getElem?_append_right (by omega)]; simp)]
      simp [List.set_append]
  · refine ⟨E, WE, by simpa using hl, ?_⟩
    rw [stx2 (o := .val (.long w)) (o2 := .second) (by simp) (by rw [List.getElem?_append_right (by omega)]; simp) (Or.inr ⟨w, rfl, rfl⟩)]
    simp [List.set_append]
/-- the variables at a method's entry -/
def argL : List Value → List Slot
  | [] => []
  | v :: r => if v.category = 2 then .val v :: .second :: argL r else .val v :: argL r
def entryL (as : List Value) (n : Nat) : List Slot := argL as ++ List.replicate (n - (argL as).length) .unset
theorem argL_fold : ∀ (as : List Value) (acc : List Slot), as.foldl (fun acc v => if v.category = 2 then (acc.push (.val v)).push .second else acc.push (.val v)) acc.toArray = (acc ++ argL as).toArray
  | [], acc => by simp [argL]
  | v :: r, acc => by
    simp only [List.foldl_cons, argL]
    split
    · rename_i q
      rw [show ((acc.toArray.push (Slot.val v)).push Slot.second) = (acc ++ [Slot.val v, Slot.second]).toArray by simp, argL_fold r]
      simp
    · rename_i q
      rw [show (acc.toArray.push (Slot.val v)) = (acc ++ [Slot.val v]).toArray by simp, argL_fold r]
      simp
theorem argL_map (α b : Nat) : ∀ as : List Value, argL (cV α b as) = (argL as).map (cs α b)
  | [] => rfl
  | v :: r => by
    have ih := argL_map α b r
    simp only [cV, List.map_cons, argL, con_cat] at ih ⊢
    split <;> simp [ih, cs]
theorem entry_locals (α b : Nat) (as : List Value) (n : Nat) : argsToLocals (cV α b as).toArray n = cL α b (entryL as n) := by
  have h := argL_fold (cV α b as) []
  simp only [List.nil_append] at h
  have h' : (cV α b as).toArray.foldl (fun acc v => if v.category = 2 then (acc.push (Slot.val v)).push Slot.second else acc.push (Slot.val v)) #[] = (argL (cV α b as)).toArray := by
    rw [← h]; simp
  simp only [argsToLocals]
  rw [h', argL_map]
  simp [cL, entryL, List.map_append, cs]
/-! ## 3. What the heap shows -/
def scV (ty : FieldType) (s : S) (f : Nat) : Value := match ty with
  | .long => .long (gL s f)
  | _ => .int (gI s f)
def arV (ty : FieldType) (s : S) (q : Nat) : List Value := match ty with
  | .long => (gB s q).map .long
  | _ => (gA s q).map .int
def Ar (Z : State) (h : Heap) (a : Nat) (ty : FieldType) (vs : List Value) : Prop := ∃ c : Cell, Arr Z h a c ty ∧ c.slots = vs.toArray
def Rep1 (Z : State) (ci : CI) (h : Heap) (b : Nat) (o : Nat × S) : Prop :=
  Exa Z h b (cN ci) ∧ (∀ f x, (cS ci)[f]? = some x → Fld Z h b (cN ci) x.1 x.2.1 (scV x.2.2 o.2 f)) ∧
  (∀ q x, (cA ci)[q]? = some x → Fld Z h b (cN ci) x.1 x.2.1 (if q < o.1 then .ref (b + 1 + q) else .null)) ∧
  (∀ q x, (cA ci)[q]? = some x → q < o.1 → Ar Z h (b + 1 + q) x.2.2.1 (arV x.2.2.1 o.2 q))
def RepW (Z : State) (ci : CI) (α b : Nat) (w : W) (h : Heap) : Prop :=
  (∀ l, w.1 = some l → Ar Z h α .int (l.map .int) ∧ α < b) ∧ ∀ i o, w.2[i]? = some o → Rep1 Z ci h (b + (cK ci + 1) * i) o
def Frm (lo hi : Nat) (h0 h : Heap) : Prop := ∀ (x : Nat) (c : Cell), h0[x]? = some c → (x < lo ∨ hi ≤ x) → h[x]? = some c
def usedC (w : W) : Nat := (w.2.map fun o => 1 + o.1).sum
def usedS (ci : CI) (w : W) : Nat := (w.2.map fun o => cF ci + (((cA ci).take o.1).map fun x => x.2.2.2).sum).sum
/-- what the sheet says of the class -/
def Facts (Z : State) (a0 : Array Value) (ci : CI) : Prop :=
  (Jvm.Cond.instantiable (cN ci) (cF ci)).before a0 Z = true ∧ (Jvm.Cond.initialized (cN ci)).before a0 Z = true ∧
  (∀ (f : Nat) (x : String × String × FieldType), (cS ci)[f]? = some x → Laid Z a0 (cN ci) (cN ci) x.1 x.2.1 ∧ parseFieldDescriptor x.2.1 = some x.2.2) ∧
  (∀ (q : Nat) (x : String × String × FieldType × Nat), (cA ci)[q]? = some x → Laid Z a0 (cN ci) (cN ci) x.1 x.2.1 ∧ parseFieldDescriptor x.2.1 = some (.array x.2.2.1)) ∧
  ((cS ci).map (fun x => x.1) ++ (cA ci).map (fun x => x.1)).Nodup ∧ (∀ f x, (cS ci)[f]? = some x → defaultValue x.2.2 = scV x.2.2 s0 f) ∧ (cN ci ≠ "java/lang/invoke/MethodHandle" ∧ cN ci ≠ "java/lang/invoke/VarHandle")
theorem nq {a b : Nat} (h : a ≠ b) : @Ne Addr a b := h
theorem Ar.frm {Z : State} {h h' : Heap} {a : Nat} {ty : FieldType} {vs : List Value} (A : Ar Z h a ty vs) (k : ∀ c, h[a]? = some c → h'[a]? = some c) : Ar Z h' a ty vs := by
  obtain ⟨c, ⟨q1, q2⟩, q3⟩ := A; exact ⟨c, ⟨k c q1, q2⟩, q3⟩
theorem fld_frm {Z : State} {h h' : Heap} {a : Nat} {C n d : String} {v : Value} (F : Fld Z h a C n d v) (k : ∀ c, h[a]? = some c → h'[a]? = some c) : Fld Z h' a C n d v := by
  obtain ⟨cell, cf, kc, i, f, h1, r⟩ := F; exact ⟨cell, cf, kc, i, f, k _ h1, r⟩
theorem exa_frm {Z : State} {h h' : Heap} {a : Nat} {C : String} (F : Exa Z h a C) (k : ∀ c, h[a]? = some c → h'[a]? = some c) : Exa Z h' a C := by
  obtain ⟨cell, kc, h1, r⟩ := F; exact ⟨cell, kc, k _ h1, r⟩
theorem get_lt {A : Type} {l : List A} {i : Nat} {x : A} (h : l[i]? = some x) : i < l.length := (List.getElem?_eq_some_iff.mp h).1
theorem Rep1.frm {Z : State} {ci : CI} {h h' : Heap} {b : Nat} {o : Nat × S} (F : Rep1 Z ci h b o) (k : ∀ x c, b ≤ x → x < b + (cK ci + 1) → h[x]? = some c → h'[x]? = some c) : Rep1 Z ci h' b o := by
  obtain ⟨f1, f2, f3, f4⟩ := F
  refine ⟨exa_frm f1 fun c => k b c (Nat.le_refl _) (by omega), fun f x hx => fld_frm (f2 f x hx) fun c => k b c (Nat.le_refl _) (by omega), fun q x hx => fld_frm (f3 q x hx) fun c => k b c (Nat.le_refl _) (by omega), fun q x hx hq => (f4 q x hx hq).frm fun c => k _ c (by omega) ?_⟩
  have := get_lt hx
  simp only [cK]; omega
theorem RepW.ext {Z : State} {ci : CI} {α b : Nat} {w : W} {h h' : Heap} (F : RepW Z ci α b w h) (E : Ext h h') : RepW Z ci α b w h' :=
  ⟨fun l hl => ⟨((F.1 l hl).1).frm fun c q => E.2 _ _ q, (F.1 l hl).2⟩, fun i o ho => (F.2 i o ho).frm fun x c _ _ q => E.2 _ _ q⟩
theorem Frm.refl (lo hi : Nat) (h : Heap) : Frm lo hi h h := fun _ _ q _ => q
theorem Frm.trans {lo hi : Nat} {h0 h1 h2 : Heap} (A : Frm lo hi h0 h1) (B : Frm lo hi h1 h2) : Frm lo hi h0 h2 := fun x c q r => B x c (A x c q r) r
theorem Frm.wide {lo hi lo' hi' : Nat} {h0 h1 : Heap} (A : Frm lo hi h0 h1) (q1 : lo' ≤ lo) (q2 : hi ≤ hi') : Frm lo' hi' h0 h1 := fun x c q r => A x c q (by omega)
theorem Frm.ext {lo hi : Nat} {h0 h1 h2 : Heap} (A : Frm lo hi h0 h1) (E : Ext h1 h2) : Frm lo hi h0 h2 := fun x c q r => E.2 _ _ (A x c q r)
theorem Frm.wr {lo hi : Nat} {h0 h1 h2 : Heap} {a : Nat} {sl : Nat} {v : Value} (A : Frm lo hi h0 h1) (Wt : Wr h1 h2 a sl v) (q1 : lo ≤ a) (q2 : a < hi) : Frm lo hi h0 h2 := fun x c q r => by
  have q3 := A x c q r
  obtain ⟨c', e1, -, -, -, e5, -⟩ := wr_at Wt q3
  have : x ≠ a := by omega
  rw [← e5 this]; exact e1
/-! ## 4. The walk -/
def Ok (P : PI) (M : Meth) (Z : State) (a0 : Array Value) (p : Program) (R : Room) (s : State) (m : MethodId) (meth : Method) (c : Code) (b n0 : Nat) (h0 : Heap) (uC uS : Nat) : Prop :=
  (∀ d ∈ P.1, d.before a0 Z = true) ∧ Facts Z a0 P.2 ∧ p.tables.exec = Jvm.exec ∧ Z.Warmed39 s.vm ∧ s.vm.findClass (mY M).cls = some m.cls ∧ c.code = mB M ∧ c.maxLocals = mL M ∧ meth.sig.returnType = mT M ∧ meth.name = (mY M).name ∧ R = mR M ∧ n0 ≤ b ∧
  (mTop M = true → h0.size = b + uC ∧ uC = mUC M ∧ uS = mUS M) ∧ s.heap.size = h0.size
def Inv (P : PI) (M : Meth) (l : Launch) (Z : State) (p : Program) (e : Env) (R : Room) (s : State) (m : MethodId) (args : Array Value) (below : List Frame) (meth : Method) (c : Code) (α b n0 : Nat) (h0 : Heap) (uC uS : Nat) (w : W) (T : State) (locs : List Loc) (cells slots : Nat) : Prop :=
  Stand p l e R s m args below meth c T locs cells slots ∧ RepW Z P.2 α b w T.heap ∧ Frm b (b + (cK P.2 + 1) * mN M) h0 T.heap ∧ Fr n0 locs ∧ T.heap.size = h0.size + cells ∧ cells + uC = usedC w ∧ slots + uS = usedS P.2 w ∧ cells ≤ R.cells ∧ slots ≤ R.slots ∧ w.2.length ≤ mN M
def Lv (e : Env) (T : State) (m : MethodId) (r : Option Value) (fs : List Frame) : Prop := ∀ (f : JFrame) (acts : List Action), f.method = m → f.locked = none → f.entered = [] → (doReturn e (T.setTop f) acts r).1 = T.setFrames fs
/-- from here the invocation comes to its end, with this value and this world -/
def Go (P : PI) (M : Meth) (pc : Nat) (L : List Slot) (st : List Value) (w : W) (out : Option Value × W) : Prop :=
  L.length = mL M → ∀ (l : Launch) (Z : State) (a0 : Array Value) (p : Program) (e : Env) (R : Room) (s : State) (m : MethodId) (args : Array Value) (below : List Frame) (meth : Method) (c : Code) (α b n0 : Nat) (h0 : Heap) (uC uS : Nat),
    Ok P M Z a0 p R s m meth c b n0 h0 uC uS → ∀ (T : State) (locs : List Loc) (cells slots : Nat), Inv P M l Z p e R s m args below meth c α b n0 h0 uC uS w T locs cells slots →
    ∃ (T' : State) (locs' : List Loc) (cells' slots' : Nat), Inv P M l Z p e R s m args below meth c α b n0 h0 uC uS out.2 T' locs' cells' slots' ∧
      ∀ fs, Lv e T' m (out.1.map (con α b)) fs → Steps p.tables e below (T.setTop (mkF m pc (cL α b L) (cV α b st))) (T'.setFrames fs)
section Rules
variable {P : PI} {M : Meth} {pc pc' : Nat} {L L' : List Slot} {st st' : List Value} {w w' : W} {out : Option Value × W} {x y z v : Int32} {u r : Int64}
theorem go_mv (hL : L.length = mL M → L'.length = mL M)
    (H : ∀ {p : Program} {e : Env} {below : List Frame} {T target : State} {m : MethodId} {c : Code}, At T m c below → p.tables.exec = Jvm.exec → c.code = mB M → ∀ α b : Nat, Steps p.tables e below (T.setTop (mkF m pc' (cL α b L') (cV α b st'))) target → Steps p.tables e below (T.setTop (mkF m pc (cL α b L) (cV α b st))) target)
    (k : Go P M pc' L' st' w out) : Go P M pc L st w out := by
  intro hl l Z a0 p e R s m args below meth c α b n0 h0 uC uS ok T locs cells slots I
  obtain ⟨T', l', c', n', I', fin⟩ := k (hL hl) l Z a0 p e R s m args below meth c α b n0 h0 uC uS ok T locs cells slots I
  exact ⟨T', l', c', n', I', fun fs hv => H I.1.here ok.2.2.1 ok.2.2.2.2.2.1 α b (fin fs hv)⟩
theorem go_ch (H : ∀ (l : Launch) (Z : State) (a0 : Array Value) (p : Program) (e : Env) (R : Room) (s : State) (m : MethodId) (args : Array Value) (below : List Frame) (meth : Method) (c : Code) (α b n0 : Nat) (h0 : Heap) (uC uS : Nat),
      Ok P M Z a0 p R s m meth c b n0 h0 uC uS → L.length = mL M → ∀ (T : State) (locs : List Loc) (cells slots : Nat), Inv P M l Z p e R s m args below meth c α b n0 h0 uC uS w T locs cells slots →
      ∃ (T' : State) (locs' : List Loc) (cells' slots' : Nat), Inv P M l Z p e R s m args below meth c α b n0 h0 uC uS w' T' locs' cells' slots' ∧
        ∀ target, Steps p.tables e below (T'.setTop (mkF m pc' (cL α b L) (cV α b st'))) target → Steps p.tables e below (T.setTop (mkF m pc (cL α b L) (cV α b st))) target)
    (k : Go P M pc' L st' w' out) : Go P M pc L st w out := by
  intro hl l Z a0 p e R s m args below meth c α b n0 h0 uC uS ok T locs cells slots I
  obtain ⟨T1, l1, c1, n1, I1, h1⟩ := H l Z a0 p e R s m args below meth c α b n0 h0 uC uS ok hl T locs cells slots I
  obtain ⟨T', l', c', n', I', fin⟩ := k hl l Z a0 p e R s m args below meth c α b n0 h0 uC uS ok T1 l1 c1 n1 I1
  exact ⟨T', l', c', n', I', fun fs hv => h1 _ (fin fs hv)⟩
/-! ### loads, stores, constants -/
theorem go_iloadN {k : Fin 4} (d : decode (mB M) pc = .ok (.iload_n k, 1)) (hl : L[k.val]? = some (.val (.int v))) (g : Go P M (pc + 1) L (.int v :: st) w out) : Go P M pc L (st) w out :=
  go_mv id (fun h hx hc α b r => XS.iloadN (g := mkF _ pc (cL α b L) (cV α b (st))) h hx rfl (hb hc d) (cL_get hl) r) g
theorem go_iload {k : Nat} (d : decode (mB M) pc = .ok (.iload k, 2)) (hl : L[k]? = some (.val (.int v))) (g : Go P M (pc + 2) L (.int v :: st) w out) : Go P M pc L (st) w out :=
  go_mv id (fun h hx hc α b r => XS.iload (g := mkF _ pc (cL α b L) (cV α b (st))) h hx rfl (hb hc d) (cL_get hl) r) g
theorem go_lloadN {k : Fin 4} (d : decode (mB M) pc = .ok (.lload_n k, 1)) (hl : L[k.val]? = some (.val (.long u))) (g : Go P M (pc + 1) L (.long u :: st) w out) : Go P M pc L (st) w out :=
  go_mv id (fun h hx hc α b r => XT.lloadN (g := mkF _ pc (cL α b L) (cV α b (st))) h hx rfl (hb hc d) (cL_get hl) r) g
theorem go_lload {k : Nat} (d : decode (mB M) pc = .ok (.lload k, 2)) (hl : L[k]? = some (.val (.long u))) (g : Go P M (pc + 2) L (.long u :: st) w out) : Go P M pc L (st) w out :=
  go_mv id (fun h hx hc α b r => XT.lload (g := mkF _ pc (cL α b L) (cV α b (st))) h hx rfl (hb hc d) (cL_get hl) r) g
theorem go_aloadN {k : Fin 4} {a : Nat} (d : decode (mB M) pc = .ok (.aload_n k, 1)) (hl : L[k.val]? = some (.val (.ref a))) (g : Go P M (pc + 1) L (.ref a :: st) w out) : Go P M pc L (st) w out :=
  go_mv id (fun h hx hc α b r => XS.aloadN (g := mkF _ pc (cL α b L) (cV α b (st))) h hx rfl (hb hc d) (cL_get hl) (con_ref α b (.ref a)) r) g
theorem go_aload {k : Nat} {a : Nat} (d : decode (mB M) pc = .ok (.aload k, 2)) (hl : L[k]? = some (.val (.ref a))) (g : Go P M (pc + 2) L (.ref a :: st) w out) : Go P M pc L (st) w out :=
  go_mv id (fun h hx hc α b r => XS.aload (g := mkF _ pc (cL α b L) (cV α b (st))) h hx rfl (hb hc d) (cL_get hl) (con_ref α b (.ref a)) r) g
theorem go_istoreN {k : Fin 4} (d : decode (mB M) pc = .ok (.istore_n k, 1)) (hl : storeLocals L.toArray k.val (.int x) = some L'.toArray) (g : Go P M (pc + 1) L' (st) w out) : Go P M pc L (.int x :: st) w out :=
  go_mv (fun q => by have := store_size hl; simp at this; omega) (fun h hx hc α b r => XS.istoreN (g := mkF _ pc (cL α b L) (cV α b (.int x :: st))) h hx rfl (hb hc d) rfl (storeC hl) r) g
theorem go_istore {k : Nat} (d : decode (mB M) pc = .ok (.istore k, 2)) (hl : storeLocals L.toArray k (.int x) = some L'.toArray) (g : Go P M (pc + 2) L' (st) w out) : Go P M pc L (.int x :: st) w out :=
  go_mv (fun q => by have := store_size hl; simp at this; omega) (fun h hx hc α b r => XS.istore (g := mkF _ pc (cL α b L) (cV α b (.int x :: st))) h hx rfl (hb hc d) rfl (storeC hl) r) g
theorem go_lstoreN {k : Fin 4} (d : decode (mB M) pc = .ok (.lstore_n k, 1)) (hl : storeLocals L.toArray k.val (.long u) = some L'.toArray) (g : Go P M (pc + 1) L' (st) w out) : Go P M pc L (.long u :: st) w out :=
  go_mv (fun q => by have := store_size hl; simp at this; omega) (fun h hx hc α b r => XT.lstoreN (g := mkF _ pc (cL α b L) (cV α b (.long u :: st))) h hx rfl (hb hc d) rfl (storeC hl) r) g
theorem go_lstore {k : Nat} (d : decode (mB M) pc = .ok (.lstore k, 2)) (hl : storeLocals L.toArray k (.long u) = some L'.toArray) (g : Go P M (pc + 2) L' (st) w out) : Go P M pc L (.long u :: st) w out :=
  go_mv (fun q => by have := store_size hl; simp at this; omega) (fun h hx hc α b r => XT.lstore (g := mkF _ pc (cL α b L) (cV α b (.long u :: st))) h hx rfl (hb hc d) rfl (storeC hl) r) g
theorem go_astoreN {k : Fin 4} {a : Nat} (d : decode (mB M) pc = .ok (.astore_n k, 1)) (hl : storeLocals L.toArray k.val (.ref a) = some L'.toArray) (g : Go P M (pc + 1) L' (st) w out) : Go P M pc L (.ref a :: st) w out :=
  go_mv (fun q => by have := store_size hl; simp at this; omega) (fun h hx hc α b r => XS.astoreN (g := mkF _ pc (cL α b L) (cV α b (.ref a :: st))) h hx rfl (hb hc d) rfl (con_ref α b (.ref a)) (storeC hl) r) g
theorem go_astore {k : Nat} {a : Nat} (d : decode (mB M) pc = .ok (.astore k, 2)) (hl : storeLocals L.toArray k (.ref a) = some L'.toArray) (g : Go P M (pc + 2) L' (st) w out) : Go P M pc L (.ref a :: st) w out :=
  go_mv (fun q => by have := store_size hl; simp at this; omega) (fun h hx hc α b r => XS.astore (g := mkF _ pc (cL α b L) (cV α b (.ref a :: st))) h hx rfl (hb hc d) rfl (con_ref α b (.ref a)) (storeC hl) r) g
theorem go_istoreNT {k : Fin 4} {L0 L1 D : List Slot} {n : Nat} (d : decode (mB M) pc = .ok (.istore_n k, 1)) (hk : k.val = L0.length) (h1 : L1 = L0 ++ [.val (.int x)]) (W : WT D) (hl : D.length = n + 1) (g : ∀ D', WT D' → D'.length = n → Go P M (pc + 1) (L1 ++ D') st w out) : Go P M pc (L0 ++ D) (.int x :: st) w out := by
  obtain ⟨D', W', l', e⟩ := stT (L0 := L0) (v := .int x) W hl rfl
  subst h1
  exact go_istoreN d (by rw [hk]; exact e) (g D' W' l')
theorem go_istoreT {k : Nat} {L0 L1 D : List Slot} {n : Nat} (d : decode (mB M) pc = .ok (.istore k, 2)) (hk : k = L0.length) (h1 : L1 = L0 ++ [.val (.int x)]) (W : WT D) (hl : D.length = n + 1) (g : ∀ D', WT D' → D'.length = n → Go P M (pc + 2) (L1 ++ D') st w out) : Go P M pc (L0 ++ D) (.int x :: st) w out := by
  obtain ⟨D', W', l', e⟩ := stT (L0 := L0) (v := .int x) W hl rfl
  subst h1
  exact go_istore d (by rw [hk]; exact e) (g D' W' l')
theorem go_astoreNT {k : Fin 4} {L0 L1 D : List Slot} {n : Nat} {a : Nat} (d : decode (mB M) pc = .ok (.astore_n k, 1)) (hk : k.val = L0.length) (h1 : L1 = L0 ++ [.val (.ref a)]) (W : WT D) (hl : D.length = n + 1) (g : ∀ D', WT D' → D'.length = n → Go P M (pc + 1) (L1 ++ D') st w out) : Go P M pc (L0 ++ D) (.ref a :: st) w out := by
  obtain ⟨D', W', l', e⟩ := stT (L0 := L0) (v := .ref a) W hl rfl
  subst h1
  exact go_astoreN d (by rw [hk]; exact e) (g D' W' l')
theorem go_astoreT {k : Nat} {L0 L1 D : List Slot} {n : Nat} {a : Nat} (d : decode (mB M) pc = .ok (.astore k, 2)) (hk : k = L0.length) (h1 : L1 = L0 ++ [.val (.ref a)]) (W : WT D) (hl : D.length = n + 1) (g : ∀ D', WT D' → D'.length = n → Go P M (pc + 2) (L1 ++ D') st w out) : Go P M pc (L0 ++ D) (.ref a :: st) w out := by
  obtain ⟨D', W', l', e⟩ := stT (L0 := L0) (v := .ref a) W hl rfl
  subst h1
  exact go_astore d (by rw [hk]; exact e) (g D' W' l')
theorem go_lstoreNT {k : Fin 4} {L0 L1 D : List Slot} {n : Nat} (d : decode (mB M) pc = .ok (.lstore_n k, 1)) (hk : k.val = L0.length) (h1 : L1 = L0 ++ [.val (.long u), .second]) (W : WT D) (hl : D.length = n + 2) (g : ∀ D', WT D' → D'.length = n → Go P M (pc + 1) (L1 ++ D') st w out) : Go P M pc (L0 ++ D) (.long u :: st) w out := by
  obtain ⟨D', W', l', e⟩ := stT2 (L0 := L0) (u := u) W hl
  subst h1
  exact go_lstoreN d (by rw [hk]; exact e) (g D' W' l')
theorem go_lstoreT {k : Nat} {L0 L1 D : List Slot} {n : Nat} (d : decode (mB M) pc = .ok (.lstore k, 2)) (hk : k = L0.length) (h1 : L1 = L0 ++ [.val (.long u), .second]) (W : WT D) (hl : D.length = n + 2) (g : ∀ D', WT D' → D'.length = n → Go P M (pc + 2) (L1 ++ D') st w out) : Go P M pc (L0 ++ D) (.long u :: st) w out := by
  obtain ⟨D', W', l', e⟩ := stT2 (L0 := L0) (u := u) W hl
  subst h1
  exact go_lstore d (by rw [hk]; exact e) (g D' W' l')
theorem go_iconst {i : Int} (d : decode (mB M) pc = .ok (.iconst i, 1)) (hv : v = Int32.ofInt i) (g : Go P M (pc + 1) L (.int v :: st) w out) : Go P M pc L (st) w out :=
  go_mv id (fun h hx hc α b r => XS.iconst (g := mkF _ pc (cL α b L) (cV α b (st))) h hx rfl (hb hc d) (hv ▸ r)) g
theorem go_bipush {i : Int} (d : decode (mB M) pc = .ok (.bipush i, 2)) (hv : v = (Int8.ofInt i).toInt32) (g : Go P M (pc + 2) L (.int v :: st) w out) : Go P M pc L (st) w out :=
  go_mv id (fun h hx hc α b r => XS.bipush (g := mkF _ pc (cL α b L) (cV α b (st))) h hx rfl (hb hc d) (hv ▸ r)) g
theorem go_sipush {i : Int} (d : decode (mB M) pc = .ok (.sipush i, 3)) (hv : v = (Int16.ofInt i).toInt32) (g : Go P M (pc + 3) L (.int v :: st) w out) : Go P M pc L (st) w out :=
  go_mv id (fun h hx hc α b r => XS.sipush (g := mkF _ pc (cL α b L) (cV α b (st))) h hx rfl (hb hc d) (hv ▸ r)) g
theorem go_lconst {i : Fin 2} (d : decode (mB M) pc = .ok (.lconst i, 1)) (hv : u = Int64.ofNat i) (g : Go P M (pc + 1) L (.long u :: st) w out) : Go P M pc L (st) w out :=
  go_mv id (fun h hx hc α b r => XT.lconst (g := mkF _ pc (cL α b L) (cV α b (st))) h hx rfl (hb hc d) (hv ▸ r)) g
theorem go_dup  (d : decode (mB M) pc = .ok (.dup, 1))  (g : Go P M (pc + 1) L (.int x :: .int x :: st) w out) : Go P M pc L (.int x :: st) w out :=
  go_mv id (fun h hx hc α b r => XS.dup (g := mkF _ pc (cL α b L) (cV α b (.int x :: st))) h hx rfl (hb hc d) rfl rfl r) g
theorem go_dupR {a : Nat} (d : decode (mB M) pc = .ok (.dup, 1))  (g : Go P M (pc + 1) L (.ref a :: .ref a :: st) w out) : Go P M pc L (.ref a :: st) w out :=
  go_mv id (fun h hx hc α b r => XS.dup (g := mkF _ pc (cL α b L) (cV α b (.ref a :: st))) h hx rfl (hb hc d) rfl (con_cat α b (.ref a)) r) g
theorem go_dup2 {a : Nat} (d : decode (mB M) pc = .ok (.dup2, 1))  (g : Go P M (pc + 1) L (.int x :: .ref a :: .int x :: .ref a :: st) w out) : Go P M pc L (.int x :: .ref a :: st) w out :=
  go_mv id (fun h hx hc α b r => XT.dup2 (g := mkF _ pc (cL α b L) (cV α b (.int x :: .ref a :: st))) h hx rfl (hb hc d) rfl rfl (con_cat α b (.ref a)) r) g
theorem go_dup2I  (d : decode (mB M) pc = .ok (.dup2, 1))  (g : Go P M (pc + 1) L (.int x :: .int y :: .int x :: .int y :: st) w out) : Go P M pc L (.int x :: .int y :: st) w out :=
  go_mv id (fun h hx hc α b r => XT.dup2 (g := mkF _ pc (cL α b L) (cV α b (.int x :: .int y :: st))) h hx rfl (hb hc d) rfl rfl rfl r) g
theorem go_dup2L  (d : decode (mB M) pc = .ok (.dup2, 1))  (g : Go P M (pc + 1) L (.long u :: .long u :: st) w out) : Go P M pc L (.long u :: st) w out :=
  go_mv id (fun h hx hc α b r => XT.dup2L (g := mkF _ pc (cL α b L) (cV α b (.long u :: st))) h hx rfl (hb hc d) rfl r) g
theorem go_pop  (d : decode (mB M) pc = .ok (.pop, 1))  (g : Go P M (pc + 1) L (st) w out) : Go P M pc L (.int x :: st) w out :=
  go_mv id (fun h hx hc α b r => XT.pop (g := mkF _ pc (cL α b L) (cV α b (.int x :: st))) h hx rfl (hb hc d) rfl rfl r) g
theorem go_iadd  (d : decode (mB M) pc = .ok (.iadd, 1))  (g : Go P M (pc + 1) L (.int (x + y) :: st) w out) : Go P M pc L (.int y :: .int x :: st) w out :=
  go_mv id (fun h hx hc α b r => XS.iadd (g := mkF _ pc (cL α b L) (cV α b (.int y :: .int x :: st))) h hx rfl (hb hc d) rfl r) g
theorem go_isub  (d : decode (mB M) pc = .ok (.isub, 1))  (g : Go P M (pc + 1) L (.int (x - y) :: st) w out) : Go P M pc L (.int y :: .int x :: st) w out :=
  go_mv id (fun h hx hc α b r => XS.isub (g := mkF _ pc (cL α b L) (cV α b (.int y :: .int x :: st))) h hx rfl (hb hc d) rfl r) g
theorem go_imul  (d : decode (mB M) pc = .ok (.imul, 1))  (g : Go P M (pc + 1) L (.int (x * y) :: st) w out) : Go P M pc L (.int y :: .int x :: st) w out :=
  go_mv id (fun h hx hc α b r => XS.imul (g := mkF _ pc (cL α b L) (cV α b (.int y :: .int x :: st))) h hx rfl (hb hc d) rfl r) g
theorem go_iand  (d : decode (mB M) pc = .ok (.iand, 1))  (g : Go P M (pc + 1) L (.int (x &&& y) :: st) w out) : Go P M pc L (.int y :: .int x :: st) w out :=
  go_mv id (fun h hx hc α b r => XS.iand (g := mkF _ pc (cL α b L) (cV α b (.int y :: .int x :: st))) h hx rfl (hb hc d) rfl r) g
theorem go_ior  (d : decode (mB M) pc = .ok (.ior, 1))  (g : Go P M (pc + 1) L (.int (x ||| y) :: st) w out) : Go P M pc L (.int y :: .int x :: st) w out :=
  go_mv id (fun h hx hc α b r => XT.ior (g := mkF _ pc (cL α b L) (cV α b (.int y :: .int x :: st))) h hx rfl (hb hc d) rfl r) g
theorem go_ixor  (d : decode (mB M) pc = .ok (.ixor, 1))  (g : Go P M (pc + 1) L (.int (x ^^^ y) :: st) w out) : Go P M pc L (.int y :: .int x :: st) w out :=
  go_mv id (fun h hx hc α b r => XT.ixor (g := mkF _ pc (cL α b L) (cV α b (.int y :: .int x :: st))) h hx rfl (hb hc d) rfl r) g
theorem go_ishl  (d : decode (mB M) pc = .ok (.ishl, 1))  (g : Go P M (pc + 1) L (.int (x <<< (y &&& 31)) :: st) w out) : Go P M pc L (.int y :: .int x :: st) w out :=
  go_mv id (fun h hx hc α b r => XT.ishl (g := mkF _ pc (cL α b L) (cV α b (.int y :: .int x :: st))) h hx rfl (hb hc d) rfl r) g
theorem go_ishr  (d : decode (mB M) pc = .ok (.ishr, 1))  (g : Go P M (pc + 1) L (.int (x >>> (y &&& 31)) :: st) w out) : Go P M pc L (.int y :: .int x :: st) w out :=
  go_mv id (fun h hx hc α b r => XT.ishr (g := mkF _ pc (cL α b L) (cV α b (.int y :: .int x :: st))) h hx rfl (hb hc d) rfl r) g
theorem go_iushr  (d : decode (mB M) pc = .ok (.iushr, 1))  (g : Go P M (pc + 1) L (.int (XT.ushr x y) :: st) w out) : Go P M pc L (.int y :: .int x :: st) w out :=
  go_mv id (fun h hx hc α b r => XT.iushr (g := mkF _ pc (cL α b L) (cV α b (.int y :: .int x :: st))) h hx rfl (hb hc d) rfl r) g
theorem go_idiv  (d : decode (mB M) pc = .ok (.idiv, 1)) (hy : y ≠ 0) (g : Go P M (pc + 1) L (.int (x / y) :: st) w out) : Go P M pc L (.int y :: .int x :: st) w out :=
  go_mv id (fun h hx hc α b r => XS.idiv (g := mkF _ pc (cL α b L) (cV α b (.int y :: .int x :: st))) h hx rfl (hb hc d) rfl hy r) g
theorem go_irem  (d : decode (mB M) pc = .ok (.irem, 1)) (hy : y ≠ 0) (g : Go P M (pc + 1) L (.int (x % y) :: st) w out) : Go P M pc L (.int y :: .int x :: st) w out :=
  go_mv id (fun h hx hc α b r => XS.irem (g := mkF _ pc (cL α b L) (cV α b (.int y :: .int x :: st))) h hx rfl (hb hc d) rfl hy (by rw [irem_eq_mod x y]; exact r)) g
theorem go_ineg  (d : decode (mB M) pc = .ok (.ineg, 1))  (g : Go P M (pc + 1) L (.int (-x) :: st) w out) : Go P M pc L (.int x :: st) w out :=
  go_mv id (fun h hx hc α b r => XS.ineg (g := mkF _ pc (cL α b L) (cV α b (.int x :: st))) h hx rfl (hb hc d) rfl r) g
theorem go_ladd  (d : decode (mB M) pc = .ok (.ladd, 1))  (g : Go P M (pc + 1) L (.long (u + r) :: st) w out) : Go P M pc L (.long r :: .long u :: st) w out :=
  go_mv id (fun h hx hc α b k => XT.ladd (g := mkF _ pc (cL α b L) (cV α b (.long r :: .long u :: st))) h hx rfl (hb hc d) rfl k) g
theorem go_lsub  (d : decode (mB M) pc = .ok (.lsub, 1))  (g : Go P M (pc + 1) L (.long (u - r) :: st) w out) : Go P M pc L (.long r :: .long u :: st) w out :=
  go_mv id (fun h hx hc α b k => XT.lsub (g := mkF _ pc (cL α b L) (cV α b (.long r :: .long u :: st))) h hx rfl (hb hc d) rfl k) g
theorem go_lmul  (d : decode (mB M) pc = .ok (.lmul, 1))  (g : Go P M (pc + 1) L (.long (u * r) :: st) w out) : Go P M pc L (.long r :: .long u :: st) w out :=
  go_mv id (fun h hx hc α b k => XT.lmul (g := mkF _ pc (cL α b L) (cV α b (.long r :: .long u :: st))) h hx rfl (hb hc d) rfl k) g
theorem go_land  (d : decode (mB M) pc = .ok (.land, 1))  (g : Go P M (pc + 1) L (.long (u &&& r) :: st) w out) : Go P M pc L (.long r :: .long u :: st) w out :=
  go_mv id (fun h hx hc α b k => XT.land (g := mkF _ pc (cL α b L) (cV α b (.long r :: .long u :: st))) h hx rfl (hb hc d) rfl k) g
theorem go_lor  (d : decode (mB M) pc = .ok (.lor, 1))  (g : Go P M (pc + 1) L (.long (u ||| r) :: st) w out) : Go P M pc L (.long r :: .long u :: st) w out :=
  go_mv id (fun h hx hc α b k => XT.lor (g := mkF _ pc (cL α b L) (cV α b (.long r :: .long u :: st))) h hx rfl (hb hc d) rfl k) g
theorem go_lxor  (d : decode (mB M) pc = .ok (.lxor, 1))  (g : Go P M (pc + 1) L (.long (u ^^^ r) :: st) w out) : Go P M pc L (.long r :: .long u :: st) w out :=
  go_mv id (fun h hx hc α b k => XT.lxor (g := mkF _ pc (cL α b L) (cV α b (.long r :: .long u :: st))) h hx rfl (hb hc d) rfl k) g
theorem go_lshl  (d : decode (mB M) pc = .ok (.lshl, 1))  (g : Go P M (pc + 1) L (.long (u <<< (y.toInt64 &&& 63)) :: st) w out) : Go P M pc L (.int y :: .long u :: st) w out :=
  go_mv id (fun h hx hc α b r => XT.lshl (g := mkF _ pc (cL α b L) (cV α b (.int y :: .long u :: st))) h hx rfl (hb hc d) rfl r) g
theorem go_lshr  (d : decode (mB M) pc = .ok (.lshr, 1))  (g : Go P M (pc + 1) L (.long (u >>> (y.toInt64 &&& 63)) :: st) w out) : Go P M pc L (.int y :: .long u :: st) w out :=
  go_mv id (fun h hx hc α b r => XT.lshr (g := mkF _ pc (cL α b L) (cV α b (.int y :: .long u :: st))) h hx rfl (hb hc d) rfl r) g
theorem go_lushr  (d : decode (mB M) pc = .ok (.lushr, 1))  (g : Go P M (pc + 1) L (.long (XT.ushrL u y) :: st) w out) : Go P M pc L (.int y :: .long u :: st) w out :=
  go_mv id (fun h hx hc α b r => XT.lushr (g := mkF _ pc (cL α b L) (cV α b (.int y :: .long u :: st))) h hx rfl (hb hc d) rfl r) g
theorem go_lcmp  (d : decode (mB M) pc = .ok (.lcmp, 1))  (g : Go P M (pc + 1) L (.int (XT.cmpL u r) :: st) w out) : Go P M pc L (.long r :: .long u :: st) w out :=
  go_mv id (fun h hx hc α b k => XT.lcmp (g := mkF _ pc (cL α b L) (cV α b (.long r :: .long u :: st))) h hx rfl (hb hc d) rfl k) g
theorem go_i2l  (d : decode (mB M) pc = .ok (.i2l, 1))  (g : Go P M (pc + 1) L (.long x.toInt64 :: st) w out) : Go P M pc L (.int x :: st) w out :=
  go_mv id (fun h hx hc α b r => XT.i2l (g := mkF _ pc (cL α b L) (cV α b (.int x :: st))) h hx rfl (hb hc d) rfl r) g
theorem go_l2i  (d : decode (mB M) pc = .ok (.l2i, 1))  (g : Go P M (pc + 1) L (.int u.toInt32 :: st) w out) : Go P M pc L (.long u :: st) w out :=
  go_mv id (fun h hx hc α b r => XT.l2i (g := mkF _ pc (cL α b L) (cV α b (.long u :: st))) h hx rfl (hb hc d) rfl r) g
theorem go_i2b  (d : decode (mB M) pc = .ok (.i2b, 1))  (g : Go P M (pc + 1) L (.int x.toInt8.toInt32 :: st) w out) : Go P M pc L (.int x :: st) w out :=
  go_mv id (fun h hx hc α b r => XT.i2b (g := mkF _ pc (cL α b L) (cV α b (.int x :: st))) h hx rfl (hb hc d) rfl r) g
theorem go_iinc {k : Nat} {i : Int} (d : decode (mB M) pc = .ok (.iinc k i, 3)) (h1 : L[k]? = some (.val (.int x))) (hv : v = Int32.ofInt i) (hl : storeLocals L.toArray k (.int (x + v)) = some L'.toArray) (g : Go P M (pc + 3) L' (st) w out) : Go P M pc L (st) w out :=
  by subst hv; exact go_mv (fun q => by have := store_size hl; simp at this; omega) (fun h hx hc α b r => XS.iinc (g := mkF _ pc (cL α b L) (cV α b (st))) h hx rfl (hb hc d) (cL_get h1) (storeC hl) r) g
theorem go_goto {o : Int} (d : decode (mB M) pc = .ok (.goto o, 3)) (hp : 0 ≤ (pc : Int) + o ∧ ((pc : Int) + o).toNat = pc') (g : Go P M pc' L (st) w out) : Go P M pc L (st) w out :=
  go_mv id (fun h hx hc α b r => XS.goto (g := mkF _ pc (cL α b L) (cV α b (st))) h hx rfl rfl (hb hc d) hp.1 hp.2 r) g
theorem go_ifY {cd : ClassFile.Cond} {o : Int} (d : decode (mB M) pc = .ok (.ifCond cd o, 3)) (hq : ifCond.holds cd x = true) (hp : 0 ≤ (pc : Int) + o ∧ ((pc : Int) + o).toNat = pc') (g : Go P M pc' L (st) w out) : Go P M pc L (.int x :: st) w out :=
  go_mv id (fun h hx hc α b r => XS.ifYes (g := mkF _ pc (cL α b L) (cV α b (.int x :: st))) h hx rfl rfl (hb hc d) rfl hq hp.1 hp.2 r) g
theorem go_ifN {cd : ClassFile.Cond} {o : Int} (d : decode (mB M) pc = .ok (.ifCond cd o, 3)) (hq : ifCond.holds cd x = false) (g : Go P M (pc + 3) L (st) w out) : Go P M pc L (.int x :: st) w out :=
  go_mv id (fun h hx hc α b r => XS.ifNo (g := mkF _ pc (cL α b L) (cV α b (.int x :: st))) h hx rfl (hb hc d) rfl hq r) g
theorem go_icY {cd : ClassFile.Cond} {o : Int} (d : decode (mB M) pc = .ok (.if_icmp cd o, 3)) (hq : if_icmp.holds cd x y = true) (hp : 0 ≤ (pc : Int) + o ∧ ((pc : Int) + o).toNat = pc') (g : Go P M pc' L (st) w out) : Go P M pc L (.int y :: .int x :: st) w out :=
  go_mv id (fun h hx hc α b r => XS.icmpYes (g := mkF _ pc (cL α b L) (cV α b (.int y :: .int x :: st))) h hx rfl rfl (hb hc d) rfl hq hp.1 hp.2 r) g
theorem go_icN {cd : ClassFile.Cond} {o : Int} (d : decode (mB M) pc = .ok (.if_icmp cd o, 3)) (hq : if_icmp.holds cd x y = false) (g : Go P M (pc + 3) L (st) w out) : Go P M pc L (.int y :: .int x :: st) w out :=
  go_mv id (fun h hx hc α b r => XS.icmpNo (g := mkF _ pc (cL α b L) (cV α b (.int y :: .int x :: st))) h hx rfl (hb hc d) rfl hq r) g
theorem go_nonnull {o : Int} (d : decode (mB M) pc = .ok (.ifnonnull o, 3)) (hp : 0 ≤ (pc : Int) + o ∧ ((pc : Int) + o).toNat = pc') (g : Go P M pc' L st w out) : Go P M pc L (.ref 0 :: st) w out :=
  go_mv id (fun h hx hc α b r => XT.ifnonnullYes (g := mkF _ pc (cL α b L) (cV α b (.ref 0 :: st))) (b := α) h hx rfl rfl (hb hc d) rfl hp.1 hp.2 r) g
theorem go_tswIn {dflt low high : Int} {offs : Array Int} {len : Nat} {o : Int} (d : decode (mB M) pc = .ok (.tableswitch dflt low high offs, len)) (hin : ¬ (x.toInt < low ∨ x.toInt > high)) (hoff : offs[(x.toInt - low).toNat]? = some o) (hp : 0 ≤ (pc : Int) + o ∧ ((pc : Int) + o).toNat = pc') (g : Go P M pc' L st w out) : Go P M pc L (.int x :: st) w out :=
  go_mv id (fun h hx hc α b r => XS.tswIn (g := mkF _ pc (cL α b L) (cV α b (.int x :: st))) h hx rfl rfl (hb hc d) rfl hin hoff hp.1 hp.2 r) g
theorem go_tswOut {dflt low high : Int} {offs : Array Int} {len : Nat} (d : decode (mB M) pc = .ok (.tableswitch dflt low high offs, len)) (hout : x.toInt < low ∨ x.toInt > high) (hp : 0 ≤ (pc : Int) + dflt ∧ ((pc : Int) + dflt).toNat = pc') (g : Go P M pc' L st w out) : Go P M pc L (.int x :: st) w out :=
  go_mv id (fun h hx hc α b r => XS.tswOut (g := mkF _ pc (cL α b L) (cV α b (.int x :: st))) h hx rfl rfl (hb hc d) rfl hout hp.1 hp.2 r) g
/-! ### constants of the pool -/
theorem go_ldc {k : Nat} (d : decode (mB M) pc = .ok (.ldc k, 2)) (hk : Jvm.Cond.constant (mY M).cls k v ∈ P.1) (g : Go P M (pc + 2) L (.int v :: st) w out) : Go P M pc L st w out :=
  go_ch (fun l Z a0 p e R s m args below meth c α b n0 h0 uC uS ok hl T locs cells slots I => ⟨T, locs, cells, slots, I, fun target r => Stand.ldcI (g := mkF m pc (cL α b L) (cV α b st)) I.1 ok.2.2.1 ok.2.2.2.2.1 (mvT ok.2.2.2.1 (ok.1 _ hk)) rfl (hb ok.2.2.2.2.2.1 d) r⟩) g
theorem go_ldcW {k : Nat} (d : decode (mB M) pc = .ok (.ldc_w k, 3)) (hk : Jvm.Cond.constant (mY M).cls k v ∈ P.1) (g : Go P M (pc + 3) L (.int v :: st) w out) : Go P M pc L st w out :=
  go_ch (fun l Z a0 p e R s m args below meth c α b n0 h0 uC uS ok hl T locs cells slots I => ⟨T, locs, cells, slots, I, fun target r => Stand.ldcWI (g := mkF m pc (cL α b L) (cV α b st)) I.1 ok.2.2.1 ok.2.2.2.2.1 (mvT ok.2.2.2.1 (ok.1 _ hk)) rfl (hb ok.2.2.2.2.2.1 d) r⟩) g
theorem go_ldc2 {k : Nat} (d : decode (mB M) pc = .ok (.ldc2_w k, 3)) (hk : Jvm.Cond.constantLong (mY M).cls k u ∈ P.1) (g : Go P M (pc + 3) L (.long u :: st) w out) : Go P M pc L st w out :=
  go_ch (fun l Z a0 p e R s m args below meth c α b n0 h0 uC uS ok hl T locs cells slots I => ⟨T, locs, cells, slots, I, fun target r => Stand.ldc2J (g := mkF m pc (cL α b L) (cV α b st)) I.1 ok.2.2.1 ok.2.2.2.2.1 (mvT ok.2.2.2.1 (ok.1 _ hk)) rfl (hb ok.2.2.2.2.2.1 d) r⟩) g
/-! ### returns -/
theorem go_iret (hT : mT M = some .int) (d : decode (mB M) pc = .ok (.ireturn, 1)) : Go P M pc L (.int x :: st) w (some (.int x), w) := by
  intro hl l Z a0 p e R s m args below meth c α b n0 h0 uC uS ok T locs cells slots I
  exact ⟨T, locs, cells, slots, I, fun fs hv => retOut I.1 ok.2.2.1 (t := .int) (ok.2.2.2.2.2.2.2.1.trans hT) rfl (Or.inl ⟨rfl, Or.inl rfl, x, rfl⟩) (hb ok.2.2.2.2.2.1 d) hv⟩
theorem go_zret (hT : mT M = some .boolean) (d : decode (mB M) pc = .ok (.ireturn, 1)) (hz : v = nar .boolean x) : Go P M pc L (.int x :: st) w (some (.int v), w) := by
  intro hl l Z a0 p e R s m args below meth c α b n0 h0 uC uS ok T locs cells slots I
  subst hz
  exact ⟨T, locs, cells, slots, I, fun fs hv => retN I.1 ok.2.2.1 (t := .boolean) (ok.2.2.2.2.2.2.2.1.trans hT) (Or.inl rfl) (hb ok.2.2.2.2.2.1 d) hv⟩
theorem go_lret (hT : mT M = some .long) (d : decode (mB M) pc = .ok (.lreturn, 1)) : Go P M pc L (.long u :: st) w (some (.long u), w) := by
  intro hl l Z a0 p e R s m args below meth c α b n0 h0 uC uS ok T locs cells slots I
  exact ⟨T, locs, cells, slots, I, fun fs hv => retOut I.1 ok.2.2.1 (t := .long) (ok.2.2.2.2.2.2.2.1.trans hT) rfl (Or.inr (Or.inl ⟨rfl, rfl, u, rfl⟩)) (hb ok.2.2.2.2.2.1 d) hv⟩
theorem go_ret (hT : mT M = none) (d : decode (mB M) pc = .ok (.return_, 1)) : Go P M pc L [] w (none, w) := by
  intro hl l Z a0 p e R s m args below meth c α b n0 h0 uC uS ok T locs cells slots I
  exact ⟨T, locs, cells, slots, I, fun fs hv => I.1.returnOut ok.2.2.1 (ok.2.2.2.2.2.2.2.1.trans hT) (hb ok.2.2.2.2.2.1 d) hv⟩
/-! ### fields -/
variable {o o' : Nat × S} {s : S} {k n : Nat}
theorem rep_one {Z : State} {ci : CI} {α b : Nat} {h : Heap} (F : RepW Z ci α b (none, [o]) h) : Rep1 Z ci h b o := by
  have := F.2 0 o rfl
  simpa using this
theorem rep_mk {Z : State} {ci : CI} {α b : Nat} {h : Heap} (F : Rep1 Z ci h b o) : RepW Z ci α b (none, [o]) h :=
  ⟨fun l hl => (nomatch hl), fun i o1 ho => by
    cases i with
    | zero => cases ho; simpa using F
    | succ i => simp at ho⟩
/-- the entry idx names the scalar field number f; of type ty -/
def FldS (P : PI) (idx f : Nat) (ty : FieldType) : Prop := ∃ nm ds, (cS P.2)[f]? = some (nm, ds, ty) ∧ Jvm.Cond.fieldLink (cN P.2) idx (cN P.2) nm ds ∈ P.1
def FldA (P : PI) (idx q : Nat) (ty : FieldType) : Prop := ∃ nm ds cap, (cA P.2)[q]? = some (nm, ds, ty, cap) ∧ Jvm.Cond.fieldLink (cN P.2) idx (cN P.2) nm ds ∈ P.1
theorem go_getV {idx f : Nat} {ty : FieldType} (F : FldS P idx f ty) (hM : (mY M).cls = cN P.2) (d : decode (mB M) pc = .ok (.getfield idx, 3)) {vv : Value} (hv : vv = scV ty s f) (hr : ∀ α b, con α b vv = vv) (g : Go P M (pc + 3) L (vv :: st) (none, [(k, s)]) out) : Go P M pc L (.ref 1 :: st) (none, [(k, s)]) out :=
  go_ch (fun l Z a0 p e R s1 m args below meth c α b n0 h0 uC uS ok hl T locs cells slots I => by
    obtain ⟨nm, ds, f1, f2⟩ := F
    obtain ⟨hw, fa, hx, hZ, hown, hc, hml, hret, hnm, hR, hn0, htop, hsz⟩ := ok
    obtain ⟨X, Rp, Fm, Nl, hs, u1, u2, c1, c2, hN⟩ := I
    have Fd := (rep_one Rp).2.1 f _ f1
    rw [hM] at hown
    obtain ⟨T', X', e', stp⟩ := getF X hx hZ hown (host := "") (Or.inl (hw _ f2)) Via.refl rfl Fd (g := mkF m pc (cL α b L) (cV α b (.ref 1 :: st))) rfl rfl (hb hc d)
    refine ⟨T', locs, cells, slots, ⟨X', by rw [e']; exact Rp, by rw [e']; exact Fm, Nl, by rw [e']; exact hs, u1, u2, c1, c2, hN⟩, fun target r => stp target ?_⟩
    rw [show cV α b (vv :: st) = con α b vv :: cV α b st from rfl, hr, hv] at r
    exact r) g
theorem go_getI {idx f : Nat} (F : FldS P idx f .int) (hM : (mY M).cls = cN P.2) (d : decode (mB M) pc = .ok (.getfield idx, 3)) (g : Go P M (pc + 3) L (.int (gI s f) :: st) (none, [(k, s)]) out) : Go P M pc L (.ref 1 :: st) (none, [(k, s)]) out :=
  go_getV F hM d rfl (fun _ _ => rfl) g
theorem go_getZ {idx f : Nat} (F : FldS P idx f .boolean) (hM : (mY M).cls = cN P.2) (d : decode (mB M) pc = .ok (.getfield idx, 3)) (g : Go P M (pc + 3) L (.int (gI s f) :: st) (none, [(k, s)]) out) : Go P M pc L (.ref 1 :: st) (none, [(k, s)]) out :=
  go_getV F hM d rfl (fun _ _ => rfl) g
theorem go_getJ {idx f : Nat} (F : FldS P idx f .long) (hM : (mY M).cls = cN P.2) (d : decode (mB M) pc = .ok (.getfield idx, 3)) (g : Go P M (pc + 3) L (.long (gL s f) :: st) (none, [(k, s)]) out) : Go P M pc L (.ref 1 :: st) (none, [(k, s)]) out :=
  go_getV F hM d rfl (fun _ _ => rfl) g
theorem go_getA {idx q : Nat} {ty : FieldType} (F : FldA P idx q ty) (hM : (mY M).cls = cN P.2) (d : decode (mB M) pc = .ok (.getfield idx, 3)) (hq : Nat.blt q k = true) (g : Go P M (pc + 3) L (.ref (q + 2) :: st) (none, [(k, s)]) out) : Go P M pc L (.ref 1 :: st) (none, [(k, s)]) out :=
  go_ch (fun l Z a0 p e R s1 m args below meth c α b n0 h0 uC uS ok hl T locs cells slots I => by
    obtain ⟨nm, ds, cap, f1, f2⟩ := F
    obtain ⟨hw, fa, hx, hZ, hown, hc, hml, hret, hnm, hR, hn0, htop, hsz⟩ := ok
    obtain ⟨X, Rp, Fm, Nl, hs, u1, u2, c1, c2, hN⟩ := I
    have Fd := (rep_one Rp).2.2.1 q _ f1
    rw [if_pos (show q < (k, s).1 by simpa [Nat.blt_eq] using hq)] at Fd
    rw [hM] at hown
    obtain ⟨T', X', e', stp⟩ := getF X hx hZ hown (host := "") (Or.inl (hw _ f2)) Via.refl rfl Fd (g := mkF m pc (cL α b L) (cV α b (.ref 1 :: st))) rfl rfl (hb hc d)
    refine ⟨T', locs, cells, slots, ⟨X', by rw [e']; exact Rp, by rw [e']; exact Fm, Nl, by rw [e']; exact hs, u1, u2, c1, c2, hN⟩, fun target r => stp target ?_⟩
    rw [show cV α b (.ref (q + 2) :: st) = .ref (b + (q + 1)) :: cV α b st from rfl] at r
    rw [show b + 1 + q = b + (q + 1) by omega]
    exact r) g
/-- another scalar of the object takes its value -/
theorem rep_put {Z : State} {a0 : Array Value} {ci : CI} {h h' : Heap} {b : Nat} {s s' : S} {k f : Nat} {nm ds : String} {ty : FieldType} {vv : Value} (fa : Facts Z a0 ci) (F : Rep1 Z ci h b (k, s)) (hf : (cS ci)[f]? = some (nm, ds, ty))
    (Wt : Wr h h' b (Jvm.RoadKit.slotOf Z (cN ci) nm ds) vv) (hv : vv = scV ty s' f) (ho : ∀ f' x, (cS ci)[f']? = some x → f' ≠ f → scV x.2.2 s' f' = scV x.2.2 s f') (ha : gA s' = gA s) (hbb : gB s' = gB s) : Rep1 Z ci h' b (k, s') := by
  obtain ⟨f1, f2, f3, f4⟩ := F
  obtain ⟨-, -, g1, g2, g3, -⟩ := fa
  have lt := get_lt hf
  refine ⟨f1.wr Wt, fun f' x hx => ?_, fun q x hx => ?_, fun q x hx hq => ?_⟩
  · by_cases e : f' = f
    · subst e
      cases hf.symm.trans hx
      show Fld Z h' b (cN ci) nm ds (scV ty s' f')
      rw [← hv]; exact (f2 f' _ hf).same Wt
    · have lt' := get_lt hx
      show Fld Z h' b (cN ci) x.1 x.2.1 (scV x.2.2 s' f')
      rw [ho f' x hx e]
      refine (f2 f' x hx).other Wt (Or.inr ?_)
      refine slot_ne (g1 f' x hx).1 (g1 f _ hf).1 ?_ (g1 f' x hx).2 (g1 f _ hf).2
      intro en
      have n1 : ((cS ci).map (fun x => x.1) ++ (cA ci).map (fun x => x.1))[f']? = some x.1 := by rw [List.getElem?_append_left (by simpa using lt')]; simp [hx]
      have n2 : ((cS ci).map (fun x => x.1) ++ (cA ci).map (fun x => x.1))[f]? = some nm := by rw [List.getElem?_append_left (by simpa using lt)]; simp [hf]
      rw [en] at n1
      obtain ⟨i1, j1⟩ := List.getElem?_eq_some_iff.mp n1
      obtain ⟨i2, j2⟩ := List.getElem?_eq_some_iff.mp n2
      exact e ((List.getElem_inj g3).mp (j1.trans j2.symm))
  · refine (f3 q x hx).other Wt (Or.inr ?_)
    have lt' := get_lt hx
    refine slot_ne (g2 q x hx).1 (g1 f _ hf).1 ?_ (g2 q x hx).2 (g1 f _ hf).2
    intro en
    have n1 : ((cS ci).map (fun x => x.1) ++ (cA ci).map (fun x => x.1))[(cS ci).length + q]? = some x.1 := by rw [List.getElem?_append_right (by simp)]; simp [hx]
    have n2 : ((cS ci).map (fun x => x.1) ++ (cA ci).map (fun x => x.1))[f]? = some nm := by rw [List.getElem?_append_left (by simpa using lt)]; simp [hf]
    rw [en] at n1
    obtain ⟨i1, j1⟩ := List.getElem?_eq_some_iff.mp n1
    obtain ⟨i2, j2⟩ := List.getElem?_eq_some_iff.mp n2
    have := (List.getElem_inj g3).mp (j1.trans j2.symm)
    omega
  · obtain ⟨c, A, e⟩ := f4 q x hx hq
    refine ⟨c, A.other Wt (nq (by omega)), e.trans ?_⟩
    show (arV x.2.2.1 s q).toArray = (arV x.2.2.1 s' q).toArray
    unfold arV
    split <;> simp [ha, hbb]
theorem go_putV {idx f : Nat} {ty : FieldType} {vv : Value} {s' : S} (F : FldS P idx f ty) (hM : (mY M).cls = cN P.2)
    (hlays : ∀ nm ds, (cS P.2)[f]? = some (nm, ds, ty) → Jvm.Cond.lays (cN P.2) (cN P.2) nm ds ∈ P.1 ∨ (Jvm.Cond.laysFinal (cN P.2) (cN P.2) nm ds ∈ P.1 ∧ (mY M).name = "<init>"))
    (hpos : 0 < mN M) (hr : ∀ α b, con α b vv = vv) (hn : narrow ty vv = vv) (hfi : fits ty vv = true) (hv : vv = scV ty s' f) (ho : ∀ f' x, (cS P.2)[f']? = some x → f' ≠ f → scV x.2.2 s' f' = scV x.2.2 s f') (ha : gA s' = gA s) (hbb : gB s' = gB s)
    (d : decode (mB M) pc = .ok (.putfield idx, 3)) (g : Go P M (pc + 3) L st (none, [(k, s')]) out) : Go P M pc L (vv :: .ref 1 :: st) (none, [(k, s)]) out :=
  go_ch (fun l Z a0 p e R s1 m args below meth c α b n0 h0 uC uS ok hl T locs cells slots I => by
    obtain ⟨nm, ds, f1, f2⟩ := F
    obtain ⟨hw, fa, hx, hZ, hown, hc, hml, hret, hnm, hR, hn0, htop, hsz⟩ := ok
    obtain ⟨X, Rp, Fm, Nl, hs, u1, u2, c1, c2, hN⟩ := I
    have Rp1 := rep_one Rp
    have Fd := Rp1.2.1 f _ f1
    rw [hM] at hown
    obtain ⟨T', h', X', e', Wt, stp⟩ := putF X hx hZ hown (host := "") (Or.inl (hw _ f2)) Via.refl rfl Fd Rp1.1 ((hlays nm ds f1).imp (fun q => hw _ q) (fun q => ⟨hw _ q.1, rfl, hnm.trans q.2⟩)) fa.1 (fa.2.2.1 f _ f1).2 hn hfi (g := mkF m pc (cL α b L) (vv :: .ref b :: cV α b st)) rfl rfl (hb hc d)
    refine ⟨T', _, cells, slots, ⟨X', rep_mk (by rw [e']; exact rep_put fa Rp1 f1 Wt hv ho ha hbb), by rw [e']; exact Fm.wr Wt (Nat.le_refl _) (by have := Nat.mul_le_mul_left (cK P.2 + 1) hpos; omega), Fr.snoc X' Nl hn0, by rw [e', Wt.size]; exact hs, u1, u2, c1, c2, hN⟩, fun target r => ?_⟩
    rw [show cV α b (vv :: .ref 1 :: st) = con α b vv :: .ref b :: cV α b st from rfl, hr]
    exact stp target r) g
theorem scV_sI (s : S) (f : Nat) (x : Int32) (ty : FieldType) (f' : Nat) (h : f' ≠ f) : scV ty (sI s f x) f' = scV ty s f' := by
  unfold scV; split <;> simp [gI_sI, gL_sI, h]
theorem scV_sL (s : S) (f : Nat) (x : Int64) (ty : FieldType) (f' : Nat) (h : f' ≠ f) : scV ty (sL s f x) f' = scV ty s f' := by
  unfold scV; split <;> simp [gI_sL, gL_sL, h]
/-- the word that lets the field be written -/
def Wrt (P : PI) (M : Meth) (f : Nat) : Prop := ∃ nm ds ty, (cS P.2)[f]? = some (nm, ds, ty) ∧ (Jvm.Cond.lays (cN P.2) (cN P.2) nm ds ∈ P.1 ∨ (Jvm.Cond.laysFinal (cN P.2) (cN P.2) nm ds ∈ P.1 ∧ (mY M).name = "<init>"))
theorem Wrt.use {f : Nat} {ty : FieldType} (h : Wrt P M f) : ∀ nm ds, (cS P.2)[f]? = some (nm, ds, ty) → Jvm.Cond.lays (cN P.2) (cN P.2) nm ds ∈ P.1 ∨ (Jvm.Cond.laysFinal (cN P.2) (cN P.2) nm ds ∈ P.1 ∧ (mY M).name = "<init>") := by
  obtain ⟨nm, ds, ty', h1, h2⟩ := h
  intro nm' ds' h3
  cases h1.symm.trans h3
  exact h2
theorem go_putI {idx f : Nat} (F : FldS P idx f .int) (hM : (mY M).cls = cN P.2) (hl : Wrt P M f) (hp : 0 < mN M) (d : decode (mB M) pc = .ok (.putfield idx, 3)) (g : Go P M (pc + 3) L st (none, [(k, sI s f x)]) out) : Go P M pc L (.int x :: .ref 1 :: st) (none, [(k, s)]) out :=
  go_putV F hM hl.use hp (fun _ _ => rfl) rfl rfl (by simp [scV, gI_sI]) (fun f' y _ h => scV_sI s f x _ f' h) rfl rfl d g
theorem go_putZ {idx f : Nat} (F : FldS P idx f .boolean) (hM : (mY M).cls = cN P.2) (hl : Wrt P M f) (hp : 0 < mN M) (hz : x = 0 ∨ x = 1) (d : decode (mB M) pc = .ok (.putfield idx, 3)) (g : Go P M (pc + 3) L st (none, [(k, sI s f x)]) out) : Go P M pc L (.int x :: .ref 1 :: st) (none, [(k, s)]) out :=
  go_putV F hM hl.use hp (fun _ _ => rfl) (by rcases hz with rfl | rfl <;> rfl) (by rcases hz with rfl | rfl <;> rfl) (by simp [scV, gI_sI]) (fun f' y _ h => scV_sI s f x _ f' h) rfl rfl d g
theorem go_putJ {idx f : Nat} (F : FldS P idx f .long) (hM : (mY M).cls = cN P.2) (hl : Wrt P M f) (hp : 0 < mN M) (d : decode (mB M) pc = .ok (.putfield idx, 3)) (g : Go P M (pc + 3) L st (none, [(k, sL s f u)]) out) : Go P M pc L (.long u :: .ref 1 :: st) (none, [(k, s)]) out :=
  go_putV F hM hl.use hp (fun _ _ => rfl) rfl rfl (by simp [scV, gL_sL]) (fun f' y _ h => scV_sL s f u _ f' h) rfl rfl d g
/-! ### arrays -/
theorem ix_some {A : Type} {l : List A} {j : Int32} {x : A} (h : ix l j = some x) : ¬ j < 0 ∧ l[j.toNatClampNeg]? = some x := by
  unfold ix at h; split at h
  · cases h
  · rename_i q; exact ⟨q, h⟩
theorem st_some {A : Type} {l l' : List A} {j : Int32} {x : A} (h : Jvm.AM.st l j x = some l') : ¬ j < 0 ∧ j.toNatClampNeg < l.length ∧ l' = l.set j.toNatClampNeg x := by
  unfold Jvm.AM.st at h; split at h
  · cases h
  · rename_i q; split at h
    · rename_i q2; cases h; exact ⟨q, q2, rfl⟩
    · cases h
theorem ar_in {c : Cell} {vs : List Value} {j : Int32} {vv : Value} (e : c.slots = vs.toArray) (h1 : ¬ j < 0) (h2 : vs[j.toNatClampNeg]? = some vv) : ¬ (j < 0 ∨ c.slots.size ≤ j.toNatClampNeg) ∧ c.slots[j.toNatClampNeg]? = some vv := by
  have := get_lt h2
  refine ⟨fun q => ?_, by rw [e]; simpa using h2⟩
  rcases q with q | q
  · exact h1 q
  · rw [e] at q; simp at q; omega
theorem go_iaload {q : Nat} {j : Int32} {nm ds : String} {cap : Nat} (ha : (cA P.2)[q]? = some (nm, ds, .int, cap)) (hq : Nat.blt q k = true) (hx : ix (gA s q) j = some v) (d : decode (mB M) pc = .ok (.iaload, 1)) (g : Go P M (pc + 1) L (.int v :: st) (none, [(k, s)]) out) : Go P M pc L (.int j :: .ref (q + 2) :: st) (none, [(k, s)]) out :=
  go_ch (fun l Z a0 p e R s1 m args below meth c α b n0 h0 uC uS ok hl T locs cells slots I => by
    obtain ⟨cl, A, ec⟩ := (rep_one I.2.1).2.2.2 q _ ha (by simpa [Nat.blt_eq] using hq)
    obtain ⟨h1, h2⟩ := ix_some hx
    obtain ⟨h3, h4⟩ := ar_in ec h1 (vv := .int v) (by simp [arV, h2])
    refine ⟨T, locs, cells, slots, I, fun target r => ?_⟩
    refine I.1.iaload ok.2.2.1 (j := j) (v := .int v) A.1 (State.isArrayOf_alike ok.2.2.2.1.alike A.2.1) A.2.2 h3 h4 (g := mkF m pc (cL α b L) (.int j :: .ref (b + 1 + q) :: cV α b st)) rfl rfl (hb ok.2.2.2.2.2.1 d) _ r |> fun t => ?_
    rw [show cV α b (.int j :: .ref (q + 2) :: st) = .int j :: .ref (b + (q + 1)) :: cV α b st from rfl, show b + (q + 1) = b + 1 + q by omega]
    exact t) g
theorem go_laload {q : Nat} {j : Int32} {nm ds : String} {cap : Nat} (ha : (cA P.2)[q]? = some (nm, ds, .long, cap)) (hq : Nat.blt q k = true) (hx : ix (gB s q) j = some u) (d : decode (mB M) pc = .ok (.laload, 1)) (g : Go P M (pc + 1) L (.long u :: st) (none, [(k, s)]) out) : Go P M pc L (.int j :: .ref (q + 2) :: st) (none, [(k, s)]) out :=
  go_ch (fun l Z a0 p e R s1 m args below meth c α b n0 h0 uC uS ok hl T locs cells slots I => by
    obtain ⟨cl, A, ec⟩ := (rep_one I.2.1).2.2.2 q _ ha (by simpa [Nat.blt_eq] using hq)
    obtain ⟨h1, h2⟩ := ix_some hx
    obtain ⟨h3, h4⟩ := ar_in ec h1 (vv := .long u) (by simp [arV, h2])
    refine ⟨T, locs, cells, slots, I, fun target r => ?_⟩
    refine I.1.laload ok.2.2.1 (j := j) (v := .long u) A.1 (State.isArrayOf_alike ok.2.2.2.1.alike A.2.1) A.2.2 h3 h4 (g := mkF m pc (cL α b L) (.int j :: .ref (b + 1 + q) :: cV α b st)) rfl rfl (hb ok.2.2.2.2.2.1 d) _ r |> fun t => ?_
    rw [show cV α b (.int j :: .ref (q + 2) :: st) = .int j :: .ref (b + (q + 1)) :: cV α b st from rfl, show b + (q + 1) = b + 1 + q by omega]
    exact t) g
theorem go_baload {q : Nat} {j : Int32} {nm ds : String} {ty : FieldType} {cap : Nat} (ha : (cA P.2)[q]? = some (nm, ds, ty, cap)) (hty : ty = .boolean ∨ ty = .byte) (hq : Nat.blt q k = true) (hx : ix (gA s q) j = some v) (d : decode (mB M) pc = .ok (.baload, 1)) (g : Go P M (pc + 1) L (.int v :: st) (none, [(k, s)]) out) : Go P M pc L (.int j :: .ref (q + 2) :: st) (none, [(k, s)]) out :=
  go_ch (fun l Z a0 p e R s1 m args below meth c α b n0 h0 uC uS ok hl T locs cells slots I => by
    obtain ⟨cl, A, ec⟩ := (rep_one I.2.1).2.2.2 q _ ha (by simpa [Nat.blt_eq] using hq)
    obtain ⟨h1, h2⟩ := ix_some hx
    refine ⟨T, locs, cells, slots, I, fun target r => ?_⟩
    rw [show cV α b (.int j :: .ref (q + 2) :: st) = .int j :: .ref (b + (q + 1)) :: cV α b st from rfl, show b + (q + 1) = b + 1 + q by omega]
    rcases hty with rfl | rfl
    · obtain ⟨h3, h4⟩ := ar_in ec h1 (vv := .int v) (by simp [arV, h2])
      exact I.1.baloadBooleans ok.2.2.1 (j := j) (v := .int v) A.1 (State.isArrayOf_alike ok.2.2.2.1.alike A.2.1) A.2.2 h3 h4 (g := mkF m pc (cL α b L) (.int j :: .ref (b + 1 + q) :: cV α b st)) rfl rfl (hb ok.2.2.2.2.2.1 d) _ r
    · obtain ⟨h3, h4⟩ := ar_in ec h1 (vv := .int v) (by simp [arV, h2])
      exact I.1.baloadBytes ok.2.2.1 (j := j) (v := .int v) A.1 (State.isArrayOf_alike ok.2.2.2.1.alike A.2.1) A.2.2 h3 h4 (g := mkF m pc (cL α b L) (.int j :: .ref (b + 1 + q) :: cV α b st)) rfl rfl (hb ok.2.2.2.2.2.1 d) _ r) g
theorem go_alen {q : Nat} {nm ds : String} {ty : FieldType} {cap : Nat} (ha : (cA P.2)[q]? = some (nm, ds, ty, cap)) (hty : ty ≠ .long) (hq : Nat.blt q k = true) (d : decode (mB M) pc = .ok (.arraylength, 1)) (g : Go P M (pc + 1) L (.int (gA s q).length.toInt32 :: st) (none, [(k, s)]) out) : Go P M pc L (.ref (q + 2) :: st) (none, [(k, s)]) out :=
  go_ch (fun l Z a0 p e R s1 m args below meth c α b n0 h0 uC uS ok hl T locs cells slots I => by
    obtain ⟨cl, A, ec⟩ := (rep_one I.2.1).2.2.2 q _ ha (by simpa [Nat.blt_eq] using hq)
    refine ⟨T, locs, cells, slots, I, fun target r => ?_⟩
    have e1 : cl.slots.size = (gA s q).length := by rw [ec]; cases ty <;> simp [arV] at hty ⊢
    rw [show cV α b (.ref (q + 2) :: st) = .ref (b + (q + 1)) :: cV α b st from rfl, show b + (q + 1) = b + 1 + q by omega]
    refine I.1.arraylength ok.2.2.1 (cell := cl) A.1 (State.isArrayOf_alike ok.2.2.2.1.alike A.2.1) (g := mkF m pc (cL α b L) (.ref (b + 1 + q) :: cV α b st)) rfl rfl (hb ok.2.2.2.2.2.1 d) _ ?_
    rw [e1]; exact r) g
theorem go_sload {l0 : List Int32} {os : List (Nat × S)} {j : Int32} (hx : ix l0 j = some v) (d : decode (mB M) pc = .ok (.iaload, 1)) (g : Go P M (pc + 1) L (.int v :: st) (some l0, os) out) : Go P M pc L (.int j :: .ref 0 :: st) (some l0, os) out :=
  go_ch (fun l Z a0 p e R s1 m args below meth c α b n0 h0 uC uS ok hl T locs cells slots I => by
    obtain ⟨cl, A, ec⟩ := (I.2.1.1 l0 rfl).1
    obtain ⟨h1, h2⟩ := ix_some hx
    obtain ⟨h3, h4⟩ := ar_in ec h1 (vv := .int v) (by simp [h2])
    exact ⟨T, locs, cells, slots, I, fun target r => I.1.iaload ok.2.2.1 (j := j) (v := .int v) A.1 (State.isArrayOf_alike ok.2.2.2.1.alike A.2.1) A.2.2 h3 h4 (g := mkF m pc (cL α b L) (cV α b (.int j :: .ref 0 :: st))) rfl rfl (hb ok.2.2.2.2.2.1 d) _ r⟩) g
theorem go_slen {l0 : List Int32} {os : List (Nat × S)} (d : decode (mB M) pc = .ok (.arraylength, 1)) (g : Go P M (pc + 1) L (.int l0.length.toInt32 :: st) (some l0, os) out) : Go P M pc L (.ref 0 :: st) (some l0, os) out :=
  go_ch (fun l Z a0 p e R s1 m args below meth c α b n0 h0 uC uS ok hl T locs cells slots I => by
    obtain ⟨cl, A, ec⟩ := (I.2.1.1 l0 rfl).1
    refine ⟨T, locs, cells, slots, I, fun target r => ?_⟩
    have e1 : cl.slots.size = l0.length := by rw [ec]; simp
    refine I.1.arraylength ok.2.2.1 (cell := cl) A.1 (State.isArrayOf_alike ok.2.2.2.1.alike A.2.1) (g := mkF m pc (cL α b L) (cV α b (.ref 0 :: st))) rfl rfl (hb ok.2.2.2.2.2.1 d) _ ?_
    rw [e1]; exact r) g
/-- a component of an array of the object takes its value -/
theorem rep_store {Z : State} {ci : CI} {h h' : Heap} {b : Nat} {s s' : S} {k q i : Nat} {nm ds : String} {ty : FieldType} {cap : Nat} {vv : Value} (F : Rep1 Z ci h b (k, s)) (hf : (cA ci)[q]? = some (nm, ds, ty, cap)) (hq : q < k)
    (Wt : Wr h h' (b + 1 + q) i vv) (hi : i < (arV ty s q).length) (hv : arV ty s' q = (arV ty s q).set i vv) (ho : ∀ q' x, (cA ci)[q']? = some x → q' ≠ q → arV x.2.2.1 s' q' = arV x.2.2.1 s q') (ha : gI s' = gI s) (hbb : gL s' = gL s) : Rep1 Z ci h' b (k, s') := by
  obtain ⟨f1, f2, f3, f4⟩ := F
  refine ⟨f1.wr Wt, fun f x hx => ?_, fun q' x hx => (f3 q' x hx).other Wt (Or.inl (nq (by omega))), fun q' x hx hq' => ?_⟩
  · have e : scV x.2.2 s' f = scV x.2.2 s f := by unfold scV; split <;> simp [ha, hbb]
    show Fld Z h' b (cN ci) x.1 x.2.1 (scV x.2.2 s' f)
    rw [e]
    exact (f2 f x hx).other Wt (Or.inl (nq (by omega)))
  · by_cases e : q' = q
    · subst e
      cases hf.symm.trans hx
      obtain ⟨c, A, ec⟩ := f4 q' _ hf hq
      refine ⟨_, A.same Wt, ?_⟩
      show (c.setSlot i vv).slots = (arV ty s' q').toArray
      rw [hv]
      simp only [Cell.setSlot, ec]
      simp
    · obtain ⟨c, A, ec⟩ := f4 q' x hx hq'
      refine ⟨c, A.other Wt (nq (by omega)), ec.trans ?_⟩
      rw [ho q' x hx e]
theorem arV_sA (s : S) (q : Nat) (l : List Int32) (ty : FieldType) (q' : Nat) (h : q' ≠ q) : arV ty (sA s q l) q' = arV ty s q' := by
  unfold arV; split <;> simp [gA_sA, gB_sA, h]
theorem arV_sB (s : S) (q : Nat) (l : List Int64) (ty : FieldType) (q' : Nat) (h : q' ≠ q) : arV ty (sB s q l) q' = arV ty s q' := by
  unfold arV; split <;> simp [gA_sB, gB_sB, h]
theorem in_of {c : Cell} {vs : List Value} {j : Int32} (e : c.slots = vs.toArray) (h1 : ¬ j < 0) (h2 : j.toNatClampNeg < vs.length) : ¬ (j < 0 ∨ c.slots.size ≤ j.toNatClampNeg) := fun q => by
  rcases q with q | q
  · exact h1 q
  · rw [e] at q; simp at q; omega
theorem go_iastore {q : Nat} {j : Int32} {nm ds : String} {cap : Nat} {l' : List Int32} (ha : (cA P.2)[q]? = some (nm, ds, .int, cap)) (hq : Nat.blt q k = true) (hp : 0 < mN M) (hx : Jvm.AM.st (gA s q) j x = some l') (d : decode (mB M) pc = .ok (.iastore, 1)) (g : Go P M (pc + 1) L st (none, [(k, sA s q l')]) out) : Go P M pc L (.int x :: .int j :: .ref (q + 2) :: st) (none, [(k, s)]) out :=
  go_ch (fun l Z a0 p e R s1 m args below meth c α b n0 h0 uC uS ok hl T locs cells slots I => by
    have hq' : q < k := by simpa [Nat.blt_eq] using hq
    have hqK := get_lt ha
    obtain ⟨X, Rp, Fm, Nl, hs, u1, u2, c1, c2, hN⟩ := I
    obtain ⟨cl, A, ec⟩ := (rep_one Rp).2.2.2 q _ ha hq'
    obtain ⟨h1, h2, rfl⟩ := st_some hx
    have hin := in_of ec h1 (by simpa [arV] using h2)
    obtain ⟨T', h', X', e', Wt, stp⟩ := stI X ok.2.2.1 ok.2.2.2.1 rfl A (x := x) hin (g := mkF m pc (cL α b L) (.int x :: .int j :: .ref (b + 1 + q) :: cV α b st)) rfl rfl (hb ok.2.2.2.2.2.1 d)
    refine ⟨T', _, cells, slots, ⟨X', rep_mk (by rw [e']; exact rep_store (rep_one Rp) ha hq' Wt (by simpa [arV] using h2) (by simp [arV, gA_sA, List.map_set]) (fun q' y _ h => arV_sA s q _ _ q' h) rfl rfl), by rw [e']; exact Fm.wr Wt (by omega) (by have := Nat.mul_le_mul_left (cK P.2 + 1) hp; simp only [cK] at *; omega), Fr.snoc X' Nl (by have := ok.2.2.2.2.2.2.2.2.2.2.1; omega), by rw [e', Wt.size]; exact hs, u1, u2, c1, c2, hN⟩, fun target r => ?_⟩
    rw [show cV α b (.int x :: .int j :: .ref (q + 2) :: st) = .int x :: .int j :: .ref (b + (q + 1)) :: cV α b st from rfl, show b + (q + 1) = b + 1 + q by omega]
    exact stp target r) g
theorem go_lastore {q : Nat} {j : Int32} {nm ds : String} {cap : Nat} {l' : List Int64} (ha : (cA P.2)[q]? = some (nm, ds, .long, cap)) (hq : Nat.blt q k = true) (hp : 0 < mN M) (hx : Jvm.AM.st (gB s q) j u = some l') (d : decode (mB M) pc = .ok (.lastore, 1)) (g : Go P M (pc + 1) L st (none, [(k, sB s q l')]) out) : Go P M pc L (.long u :: .int j :: .ref (q + 2) :: st) (none, [(k, s)]) out :=
  go_ch (fun l Z a0 p e R s1 m args below meth c α b n0 h0 uC uS ok hl T locs cells slots I => by
    have hq' : q < k := by simpa [Nat.blt_eq] using hq
    have hqK := get_lt ha
    obtain ⟨X, Rp, Fm, Nl, hs, u1, u2, c1, c2, hN⟩ := I
    obtain ⟨cl, A, ec⟩ := (rep_one Rp).2.2.2 q _ ha hq'
    obtain ⟨h1, h2, rfl⟩ := st_some hx
    have hin := in_of ec h1 (by simpa [arV] using h2)
    obtain ⟨T', h', X', e', Wt, stp⟩ := stJ X ok.2.2.1 ok.2.2.2.1 rfl A (x := u) hin (g := mkF m pc (cL α b L) (.long u :: .int j :: .ref (b + 1 + q) :: cV α b st)) rfl rfl (hb ok.2.2.2.2.2.1 d)
    refine ⟨T', _, cells, slots, ⟨X', rep_mk (by rw [e']; exact rep_store (rep_one Rp) ha hq' Wt (by simpa [arV] using h2) (by simp [arV, gB_sB, List.map_set]) (fun q' y _ h => arV_sB s q _ _ q' h) rfl rfl), by rw [e']; exact Fm.wr Wt (by omega) (by have := Nat.mul_le_mul_left (cK P.2 + 1) hp; simp only [cK] at *; omega), Fr.snoc X' Nl (by have := ok.2.2.2.2.2.2.2.2.2.2.1; omega), by rw [e', Wt.size]; exact hs, u1, u2, c1, c2, hN⟩, fun target r => ?_⟩
    rw [show cV α b (.long u :: .int j :: .ref (q + 2) :: st) = .long u :: .int j :: .ref (b + (q + 1)) :: cV α b st from rfl, show b + (q + 1) = b + 1 + q by omega]
    exact stp target r) g
theorem go_bastore {q : Nat} {j : Int32} {nm ds : String} {ty : FieldType} {cap : Nat} {l' : List Int32} (ha : (cA P.2)[q]? = some (nm, ds, ty, cap)) (hty : ty = .boolean ∨ ty = .byte) (hq : Nat.blt q k = true) (hp : 0 < mN M) (hv : v = nar ty x) (hx : Jvm.AM.st (gA s q) j v = some l') (d : decode (mB M) pc = .ok (.bastore, 1)) (g : Go P M (pc + 1) L st (none, [(k, sA s q l')]) out) : Go P M pc L (.int x :: .int j :: .ref (q + 2) :: st) (none, [(k, s)]) out :=
  go_ch (fun l Z a0 p e R s1 m args below meth c α b n0 h0 uC uS ok hl T locs cells slots I => by
    have hq' : q < k := by simpa [Nat.blt_eq] using hq
    have hqK := get_lt ha
    obtain ⟨X, Rp, Fm, Nl, hs, u1, u2, c1, c2, hN⟩ := I
    obtain ⟨cl, A, ec⟩ := (rep_one Rp).2.2.2 q _ ha hq'
    obtain ⟨h1, h2, rfl⟩ := st_some hx
    subst hv
    have hlen : j.toNatClampNeg < (arV ty s q).length := by rcases hty with rfl | rfl <;> simpa [arV] using h2
    have hset : arV ty (sA s q ((gA s q).set j.toNatClampNeg (nar ty x))) q = (arV ty s q).set j.toNatClampNeg (.int (nar ty x)) := by rcases hty with rfl | rfl <;> simp [arV, gA_sA, List.map_set]
    have hin := in_of ec h1 hlen
    obtain ⟨T', h', X', e', Wt, stp⟩ : ∃ T' h', Stand p l e R s1 m args below meth c T' (locs ++ [⟨b + 1 + q, j.toNatClampNeg⟩]) cells slots ∧ T'.heap = h' ∧ Wr T.heap h' (b + 1 + q) j.toNatClampNeg (.int (nar ty x)) ∧ ∀ target, Steps p.tables e below (T'.setTop (mkF m (pc + 1) (cL α b L) (cV α b st))) target → Steps p.tables e below (T.setTop (mkF m pc (cL α b L) (.int x :: .int j :: .ref (b + 1 + q) :: cV α b st))) target := by
      rcases hty with rfl | rfl
      · exact stZ X ok.2.2.1 ok.2.2.2.1 rfl A (x := x) hin (g := mkF m pc (cL α b L) (.int x :: .int j :: .ref (b + 1 + q) :: cV α b st)) rfl rfl (hb ok.2.2.2.2.2.1 d)
      · exact stB X ok.2.2.1 ok.2.2.2.1 rfl A (x := x) hin (g := mkF m pc (cL α b L) (.int x :: .int j :: .ref (b + 1 + q) :: cV α b st)) rfl rfl (hb ok.2.2.2.2.2.1 d)
    refine ⟨T', _, cells, slots, ⟨X', rep_mk (by rw [e']; exact rep_store (rep_one Rp) ha hq' Wt hlen hset (fun q' y _ h => arV_sA s q _ _ q' h) rfl rfl), by rw [e']; exact Fm.wr Wt (by omega) (by have := Nat.mul_le_mul_left (cK P.2 + 1) hp; simp only [cK] at *; omega), Fr.snoc X' Nl (by have := ok.2.2.2.2.2.2.2.2.2.2.1; omega), by rw [e', Wt.size]; exact hs, u1, u2, c1, c2, hN⟩, fun target r => ?_⟩
    rw [show cV α b (.int x :: .int j :: .ref (q + 2) :: st) = .int x :: .int j :: .ref (b + (q + 1)) :: cV α b st from rfl, show b + (q + 1) = b + 1 + q by omega]
    exact stp target r) g
/-! ## 5. A method as a whole; calls -/
def Call (P : PI) (M : Meth) (as : List Value) (w : W) (out : Option Value × W) : Prop :=
  ∀ (l : Launch) (Z : State) (a0 : Array Value) (ws : List Jvm.Cond) (α b n0 : Nat) (h0 : Heap), (∀ d ∈ P.1, d.before a0 Z = true) → Facts Z a0 P.2 → n0 ≤ b → RepW Z P.2 α b w h0 → w.2.length ≤ mN M → (mTop M = true → h0.size = b + usedC w ∧ usedC w = mUC M ∧ usedS P.2 w = mUS M) →
    MetFree l (mY M) (head1 (Jvm.Cond.code (mY M) (mB M) (mL M) (mT M) :: ws) (mR M)) (fun a U => a = (cV α b as).toArray ∧ Z.Warmed39 U.vm ∧ U.heap = h0) (fun _ _ _ _ _ => True)
      (fun _ U o U' => ∃ v L, o = .returned v ∧ (v = out.1.map (con α b) ∧ Fr n0 L ∧ RepW Z P.2 α b out.2 U'.heap ∧ Frm b (b + (cK P.2 + 1) * mN M) h0 U'.heap ∧ ∃ k, U'.heap.size = h0.size + k ∧ k + usedC w = usedC out.2) ∧ FrameEnd U o U' L (mR M).cells (mR M).slots)
theorem call_of_go {as : List Value} (hpl : plainName (mY M).cls = true) (hlen : (entryL as (mL M)).length = mL M) (hret : mT M = none → out.1 = none) (g : Go P M 0 (entryL as (mL M)) [] w out) : Call P M as w out := by
  intro l Z a0 ws α b n0 h0 hw fa hn0 Rp hN htop
  refine MetFree.of_bodySF (plainFor_of_name hpl) hisR ?_
  intro p e s m args below meth c s₁ Bd hml0 hP hK
  obtain ⟨rfl, hZ, hh⟩ := hP
  have X0 : Stand p l e (mR M) s m (cV α b as).toArray below meth c s₁ [] 0 0 := Stand.of_body Bd
  have e0 : s₁.heap = h0 := by rw [← hh, Bd.state]; rfl
  obtain ⟨T', L', c', n', I', fin⟩ := g hlen l Z a0 p e (mR M) s m (cV α b as).toArray below meth c α b n0 h0 (usedC w) (usedS P.2 w) ⟨hw, fa, Bd.exec, hZ, findClass_of_methodNamed Bd.named, Bd.bytes, hml0, Bd.returns, (name_of_methodNamed Bd.named Bd.method).1, rfl, hn0, htop, by rw [hh]⟩ s₁ [] 0 0 ⟨X0, by rw [e0]; exact Rp, by rw [e0]; exact Frm.refl _ _ _, Fr.nil _, by rw [e0]; rfl, by simp, by simp, Nat.zero_le _, Nat.zero_le _, hN⟩
  obtain ⟨X', Rp', Fm', Nl', hs', u1', u2', c1', c2', hN'⟩ := I'
  obtain ⟨fs, hr, hrun, hended, hW, hsame⟩ := X'.leave (v := out.1.map (con α b)) (fun h => by rw [Bd.returns] at h; rw [hret h]; rfl)
  refine ⟨_, _, ?_, hrun, hended, _, _, rfl, ⟨rfl, Nl', Rp', Fm', c', hs', u1'⟩, ⟨_, rfl⟩, hW, hsame.mono c1' c2'⟩
  have q := fin fs hr
  rw [← entry_locals] at q
  exact q
def nr : Value → Bool
  | .ref _ => false
  | _ => true
theorem con_nr {α b : Nat} {v : Value} (h : nr v = true) : con α b v = v := by
  cases v <;> first | rfl | cases h
theorem cV_nr {α b : Nat} {l : List Value} (h : l.all nr = true) : cV α b l = l := by
  have : ∀ x ∈ l, con α b x = x := fun x hx => con_nr (List.all_eq_true.mp h x hx)
  unfold cV
  exact (List.map_congr_left this).trans (List.map_id _)
theorem rep_obj {Z : State} {ci : CI} {α b : Nat} {h : Heap} {i : Nat} (F : RepW Z ci α b w h) (ho : w.2[i]? = some o) : RepW Z ci 0 (b + (cK ci + 1) * i) (none, [o]) h := rep_mk (F.2 i o ho)
theorem rep_back {Z : State} {ci : CI} {α α' b : Nat} {h h' : Heap} {i : Nat} (F : RepW Z ci α b w h) (ho : w.2[i]? = some o) (G : RepW Z ci α' (b + (cK ci + 1) * i) (none, [o']) h') (Fm : Frm (b + (cK ci + 1) * i) (b + (cK ci + 1) * i + (cK ci + 1) * 1) h h') : RepW Z ci α b (w.1, w.2.set i o') h' := by
  refine ⟨fun l hl => ⟨((F.1 l hl).1).frm fun c q => Fm _ _ q (Or.inl ?_), (F.1 l hl).2⟩, fun j oj hj => ?_⟩
  · have := (F.1 l hl).2; exact Nat.lt_of_lt_of_le this (Nat.le_add_right _ _)
  · by_cases e : j = i
    · subst e
      rw [show (w.1, w.2.set j o').2 = w.2.set j o' from rfl, List.getElem?_set_self (get_lt ho)] at hj
      cases hj
      exact rep_one G
    · rw [show (w.1, w.2.set i o').2 = w.2.set i o' from rfl, List.getElem?_set_ne (Ne.symm e)] at hj
      refine (F.2 j oj hj).frm fun x c q1 q2 q3 => Fm _ _ q3 ?_
      rcases Nat.lt_or_gt_of_ne e with q | q
      · have := Nat.mul_le_mul_left (cK ci + 1) q
        rw [Nat.mul_succ] at this; omega
      · have := Nat.mul_le_mul_left (cK ci + 1) q
        rw [Nat.mul_succ] at this; omega
theorem sum_set {A : Type} (f : A → Nat) {a a' : A} : ∀ {l : List A} {i : Nat}, l[i]? = some a → ((l.set i a').map f).sum + f a = (l.map f).sum + f a'
  | [], i, h => by simp at h
  | b :: r, 0, h => by simp at h; subst h; simp; omega
  | b :: r, i + 1, h => by
    simp only [List.getElem?_cons_succ] at h
    have := sum_set f (a' := a') h
    simp only [List.set_cons_succ, List.map_cons, List.sum_cons]; omega
def CQ (ci : CI) (Z : State) (α b n0 : Nat) (h0 : Heap) (N : Nat) (w : W) (out : Option Value × W) (v : Option Value) (hp : Heap) (L : List Loc) : Prop := v = out.1.map (con α b) ∧ Fr n0 L ∧ RepW Z ci α b out.2 hp ∧ Frm b (b + (cK ci + 1) * N) h0 hp ∧ ∃ k, hp.size = h0.size + k ∧ k + usedC w = usedC out.2
/-- what a callee that makes nothing must fit into -/
def Small (M M' : Meth) (rest : List Value) : Prop := (mR M').cells = 0 ∧ (mR M').slots = 0 ∧ mTop M' = false ∧ Nat.ble ((mR M').frames + 1) (mR M).frames = true ∧ Nat.ble ((rest.map fun v => v.category).sum + (mL M' + 11) + (mR M').locals) (mR M).locals = true
theorem ret_st {α b b' : Nat} {r : Option Value} {rest : List Value} (hr : r.all nr = true) : (r.map (con 0 b')).toList ++ cV α b rest = cV α b (r.toList ++ rest) := by
  cases r with
  | none => rfl
  | some v => simp only [Option.map_some, Option.toList_some, cV, List.cons_append, List.nil_append, List.map_cons]; rw [con_nr (show nr v = true from hr), con_nr (show nr v = true from hr)]
theorem inv_obj {l : Launch} {Z : State} {p : Program} {e : Env} {R : Room} {s : State} {m : MethodId} {args : Array Value} {below : List Frame} {meth : Method} {c : Code} {α b n0 : Nat} {h0 : Heap} {uC uS : Nat} {T T2 : State} {locs L2 : List Loc} {cells slots rc rs i : Nat}
    (I : Inv P M l Z p e R s m args below meth c α b n0 h0 uC uS w T locs cells slots) (ho : w.2[i]? = some o) (X2 : Stand p l e R s m args below meth c T2 (locs ++ L2) (cells + rc) (slots + rs))
    (N2 : Fr n0 L2) (R2 : RepW Z P.2 0 (b + (cK P.2 + 1) * i) (none, [o']) T2.heap) (F2 : Frm (b + (cK P.2 + 1) * i) (b + (cK P.2 + 1) * i + (cK P.2 + 1) * 1) T.heap T2.heap) (k2 : ∃ k, T2.heap.size = T.heap.size + k ∧ k + usedC (none, [o]) = usedC (none, [o']))
    (hC : o'.1 = o.1 + rc) (hS : usedS P.2 (none, [o']) = usedS P.2 (none, [o]) + rs) (q1 : cells + rc ≤ R.cells) (q2 : slots + rs ≤ R.slots) : Inv P M l Z p e R s m args below meth c α b n0 h0 uC uS (w.1, w.2.set i o') T2 (locs ++ L2) (cells + rc) (slots + rs) := by
  obtain ⟨X, Rp, Fm, Nl, hs, u1, u2, c1, c2, hN⟩ := I
  obtain ⟨k, k1, k3⟩ := k2
  have hi := get_lt ho
  have a1 := sum_set (fun o : Nat × S => 1 + o.1) (a' := o') ho
  have a2 := sum_set (fun o : Nat × S => cF P.2 + (((cA P.2).take o.1).map fun x => x.2.2.2).sum) (a' := o') ho
  have hle : (cK P.2 + 1) * (i + 1) ≤ (cK P.2 + 1) * mN M := Nat.mul_le_mul_left _ (by omega)
  rw [Nat.mul_succ] at hle
  refine ⟨X2, rep_back Rp ho R2 F2, Fm.trans (F2.wide (Nat.le_add_right _ _) (by omega)), Nl.app N2, ?_, ?_, ?_, q1, q2, by simpa using hN⟩
  · simp only [usedC, List.map_cons, List.map_nil, List.sum_cons, List.sum_nil] at k3; omega
  · simp only [usedC] at u1 ⊢; omega
  · simp only [usedS, List.map_cons, List.map_nil, List.sum_cons, List.sum_nil] at u2 hS ⊢; omega
def LinkV (P : PI) (own : String) (idx : Nat) (M' : Meth) : Prop := Jvm.Cond.methodLink own idx (mY M') ∈ P.1 ∧ Jvm.Cond.declares (mY M') ∈ P.1 ∧ Jvm.Cond.selects (cN P.2) (mY M') (mY M') ∈ P.1 ∧ Jvm.Cond.instanceMethod (mY M') ∈ P.1 ∧ Jvm.Cond.code (mY M') (mB M') (mL M') (mT M') ∈ P.1 ∧ (mY M').cls = cN P.2 ∧ mN M' = 1
def LinkP (P : PI) (own : String) (idx : Nat) (M' : Meth) : Prop := Jvm.Cond.methodLink own idx (mY M') ∈ P.1 ∧ Jvm.Cond.instanceMethod (mY M') ∈ P.1 ∧ Jvm.Cond.privateMethod (mY M') ∈ P.1 ∧ Jvm.Cond.code (mY M') (mB M') (mL M') (mT M') ∈ P.1 ∧ (mY M').cls = cN P.2 ∧ mN M' = 1
def LinkS (P : PI) (own : String) (idx : Nat) (M' : Meth) : Prop := Jvm.Cond.methodLink own idx (mY M') ∈ P.1 ∧ Jvm.Cond.static (mY M') ∈ P.1 ∧ Jvm.Cond.initialized (mY M').cls ∈ P.1 ∧ Jvm.Cond.code (mY M') (mB M') (mL M') (mT M') ∈ P.1 ∧ ((mY M').cls ≠ "java/lang/invoke/MethodHandle" ∧ (mY M').cls ≠ "java/lang/invoke/VarHandle")
def LinkI (P : PI) (own : String) (idx : Nat) (M' : Meth) : Prop := Jvm.Cond.methodLink own idx (mY M') ∈ P.1 ∧ Jvm.Cond.instanceMethod (mY M') ∈ P.1 ∧ Jvm.Cond.code (mY M') (mB M') (mL M') (mT M') ∈ P.1 ∧ (mY M').cls = cN P.2 ∧ mN M' = 1 ∧ mT M' = none ∧ (mY M').name = "<init>"
variable {M' : Meth} {i idx id : Nat} {as rest : List Value} {rv : Option Value} {ps : List FieldType} {rt : Option FieldType}
theorem cV_call {α b : Nat} {jd : Nat} (hnr : as.all nr = true) (hst : st = as.reverse ++ .ref (jd + 1) :: rest) : cV α b st = as.reverse ++ .ref (b + jd) :: cV α b rest := by
  subst hst
  have h1 : cV α b as.reverse = as.reverse := cV_nr (by rw [List.all_reverse]; exact hnr)
  unfold cV at h1 ⊢
  rw [List.map_append, h1]; rfl
theorem go_virt (lk : LinkV P (mY M).cls idx M') (pd : parseMethodDescriptor (mY M').desc = some ⟨ps, rt⟩) (hn : as.length = ps.length) (hid : id = (cK P.2 + 1) * i + 1) (hst : st = as.reverse ++ .ref id :: rest) (hnr : as.all nr = true) (hrr : rv.all nr = true) (ho : w.2[i]? = some o) (hw' : w' = (w.1, w.2.set i o')) (hC : o'.1 = o.1) (sm : Small M M' rest)
    (d : decode (mB M) pc = .ok (.invokevirtual idx, 3)) (cl : Call P M' (.ref 1 :: as) (none, [o]) (rv, (none, [o']))) (g : Go P M (pc + 3) L (rv.toList ++ rest) w' out) : Go P M pc L st w out :=
  go_ch (fun l Z a0 p e R s1 m args below meth c α b n0 h0 uC uS ok hl T locs cells slots I => by
    subst hw' hid
    obtain ⟨hw, fa, hx, hZ, hown, hc, hml, hret, hnm, hR, hn0, htop, hsz⟩ := ok
    obtain ⟨k1, k2, k3, k4, k5, k6, k7⟩ := lk
    obtain ⟨z1, z2, z3, z4, z5⟩ := sm
    have C := cl l Z a0 [] 0 (b + (cK P.2 + 1) * i) n0 T.heap hw fa (Nat.le_trans hn0 (Nat.le_add_right _ _)) (rep_obj I.2.1 ho) (by rw [k7]; exact Nat.le_refl _) (fun q => by rw [z3] at q; cases q)
    have Bk := backOf (Q := CQ P.2 Z 0 (b + (cK P.2 + 1) * i) n0 T.heap (mN M') (none, [o]) (rv, (none, [o']))) (R := R) (p := p) (e := e) (below := below) (s := s1) (args := args) (len := 3) (W := (rest.map fun v => v.category).sum) C hZ (hw _ k5) (by rw [k6]; exact fa.2.1) (by rw [hR]; exact Nat.le_of_ble_eq_true z4) (by rw [hR]; exact Nat.le_of_ble_eq_true z5)
    have E := (I.2.1.2 i o ho).1
    obtain ⟨cB, kB, q1, q2, q3⟩ := isOf (T := T) hZ rfl E
    obtain ⟨v, vm1, ⟨T2, Lx, kx, nx⟩, -, X2, ⟨L2, hQ, l2, y2, n2⟩, stp⟩ := I.1.virtualBack hx (y := mY M') (z := mY M') hown (mvT hZ (hw _ k1)) (mvT hZ (hw _ k2)) (notFace_of_selects (args := #[]) (mvT hZ (hw _ k3))) (mvT hZ (hw _ k3)) (mvT hZ (hw _ k4)) (by rw [k6]; exact fa.2.2.2.2.2.2) Bk q1 q3 (g := mkF m pc (cL α b L) (cV α b st)) rfl (by show (cL α b L).size = c.maxLocals; rw [cL_size, hl, hml]) (Steps.refl _) (argsL := as) (rest := cV α b rest) (lenOf pd hn) (cV_call hnr hst)
      (by show 2 * 0 + _ ≤ _; rw [cV_sum]; exact Nat.le_of_eq (Nat.zero_add _)) (hb hc d) (fun _ _ => ⟨by rw [show (cV 0 (b + (cK P.2 + 1) * i) (.ref 1 :: as)) = .ref (b + (cK P.2 + 1) * i) :: cV 0 (b + (cK P.2 + 1) * i) as from rfl, cV_nr hnr], rfl, by rw [z1]; exact I.2.2.2.2.2.2.2.1, by rw [z2]; exact I.2.2.2.2.2.2.2.2.1⟩)
    dsimp only [Pt.U, Pt.locs, Pt.cells, Pt.slots] at X2 l2 y2 n2 stp hQ
    subst l2 y2 n2
    obtain ⟨rfl, N2, R2, F2, k8⟩ := hQ
    rw [k7] at F2
    refine ⟨T2, _, _, _, inv_obj I ho X2 N2 R2 F2 k8 (by rw [z1]; exact hC) (by rw [z2]; simp [usedS, hC]) (by rw [z1]; exact I.2.2.2.2.2.2.2.1) (by rw [z2]; exact I.2.2.2.2.2.2.2.2.1), fun target r => stp.trans ?_⟩
    rw [← ret_st (b' := b + (cK P.2 + 1) * i) hrr] at r
    exact r) g
theorem go_priv (lk : LinkP P (mY M).cls idx M') (pd : parseMethodDescriptor (mY M').desc = some ⟨ps, rt⟩) (hn : as.length = ps.length) (hid : id = (cK P.2 + 1) * i + 1) (hst : st = as.reverse ++ .ref id :: rest) (hnr : as.all nr = true) (hrr : rv.all nr = true) (ho : w.2[i]? = some o) (hw' : w' = (w.1, w.2.set i o')) (hC : o'.1 = o.1) (sm : Small M M' rest)
    (d : decode (mB M) pc = .ok (.invokevirtual idx, 3)) (cl : Call P M' (.ref 1 :: as) (none, [o]) (rv, (none, [o']))) (g : Go P M (pc + 3) L (rv.toList ++ rest) w' out) : Go P M pc L st w out :=
  go_ch (fun l Z a0 p e R s1 m args below meth c α b n0 h0 uC uS ok hl T locs cells slots I => by
    subst hw' hid
    obtain ⟨hw, fa, hx, hZ, hown, hc, hml, hret, hnm, hR, hn0, htop, hsz⟩ := ok
    obtain ⟨k1, k4, k3, k5, k6, k7⟩ := lk
    obtain ⟨z1, z2, z3, z4, z5⟩ := sm
    have C := cl l Z a0 [] 0 (b + (cK P.2 + 1) * i) n0 T.heap hw fa (Nat.le_trans hn0 (Nat.le_add_right _ _)) (rep_obj I.2.1 ho) (by rw [k7]; exact Nat.le_refl _) (fun q => by rw [z3] at q; cases q)
    have Bk := backOf (Q := CQ P.2 Z 0 (b + (cK P.2 + 1) * i) n0 T.heap (mN M') (none, [o]) (rv, (none, [o']))) (R := R) (p := p) (e := e) (below := below) (s := s1) (args := args) (len := 3) (W := (rest.map fun v => v.category).sum) C hZ (hw _ k5) (by rw [k6]; exact fa.2.1) (by rw [hR]; exact Nat.le_of_ble_eq_true z4) (by rw [hR]; exact Nat.le_of_ble_eq_true z5)
    obtain ⟨cell, q1, q2⟩ := (I.2.1.2 i o ho).1.cell
    have hy : (mY M').cls ≠ "java/lang/invoke/MethodHandle" ∧ (mY M').cls ≠ "java/lang/invoke/VarHandle" := by rw [k6]; exact fa.2.2.2.2.2.2
    have hpriv : s1.PrivateAt (mY M') := Cond.privateMethod_at (mvP hZ (hw _ k3) (args := #[]))
    have hin : (Jvm.Cond.instanceMethod (mY M')).before args s1 = true := mvT hZ (hw _ k4)
    obtain ⟨c2, kk, i1, i2, i3, i4, -⟩ := Cond.instantiable_spec fa.1
    obtain ⟨k', j1, j2⟩ := hZ.alike.2.2 _ _ i2
    have hsel : (Jvm.Cond.selects (mY M').cls (mY M') (mY M')).before args s1 = true := selects_self_of_private (c := c2) (k := k') (by rw [k6, hZ.alike.findClass]; exact i1) j1 (by
      have : kk.isInterface = false := by simp only [Bool.or_eq_false_iff] at i4; exact i4.1
      rw [j2]; exact this) hpriv hin hy
    obtain ⟨v, vm1, ⟨T2, Lx, kx, nx⟩, -, X2, ⟨L2, hQ, l2, y2, n2⟩, stp⟩ := I.1.privateBack hx (y := mY M') hown (mvT hZ (hw _ k1)) hin hsel hpriv (mvT hZ (hw _ k5)) hy Bk (g := mkF m pc (cL α b L) (cV α b st)) rfl (by show (cL α b L).size = c.maxLocals; rw [cL_size, hl, hml]) (Steps.refl _) (a := b + (cK P.2 + 1) * i) q1 q2 (argsL := as) (rest := cV α b rest) (lenOf pd hn) (cV_call hnr hst)
      (by show 2 * 0 + _ ≤ _; rw [cV_sum]; exact Nat.le_of_eq (Nat.zero_add _)) (hb hc d) (fun _ _ => ⟨by rw [show (cV 0 (b + (cK P.2 + 1) * i) (.ref 1 :: as)) = .ref (b + (cK P.2 + 1) * i) :: cV 0 (b + (cK P.2 + 1) * i) as from rfl, cV_nr hnr], rfl, by rw [z1]; exact I.2.2.2.2.2.2.2.1, by rw [z2]; exact I.2.2.2.2.2.2.2.2.1⟩)
    dsimp only [Pt.U, Pt.locs, Pt.cells, Pt.slots] at X2 l2 y2 n2 stp hQ
    subst l2 y2 n2
    obtain ⟨rfl, N2, R2, F2, k8⟩ := hQ
    rw [k7] at F2
    refine ⟨T2, _, _, _, inv_obj I ho X2 N2 R2 F2 k8 (by rw [z1]; exact hC) (by rw [z2]; simp [usedS, hC]) (by rw [z1]; exact I.2.2.2.2.2.2.2.1) (by rw [z2]; exact I.2.2.2.2.2.2.2.2.1), fun target r => stp.trans ?_⟩
    rw [← ret_st (b' := b + (cK P.2 + 1) * i) hrr] at r
    exact r) g
theorem go_stat (lk : LinkS P (mY M).cls idx M') (pd : parseMethodDescriptor (mY M').desc = some ⟨ps, rt⟩) (hn : as.length = ps.length) (hst : st = as.reverse ++ rest) (hN' : mN M' ≤ mN M ∧ w.2.length ≤ mN M') (hu : usedC w' = usedC w ∧ usedS P.2 w' = usedS P.2 w ∧ w'.2.length = w.2.length) (sm : Small M M' rest)
    (d : decode (mB M) pc = .ok (.invokestatic idx, 3)) (cl : Call P M' as w (rv, w')) (g : Go P M (pc + 3) L (rv.toList ++ rest) w' out) : Go P M pc L st w out :=
  go_ch (fun l Z a0 p e R s1 m args below meth c α b n0 h0 uC uS ok hl T locs cells slots I => by
    obtain ⟨hw, fa, hx, hZ, hown, hc, hml, hret, hnm, hR, hn0, htop, hsz⟩ := ok
    obtain ⟨k1, k2, k3, k5, k6⟩ := lk
    obtain ⟨z1, z2, z3, z4, z5⟩ := sm
    have C := cl l Z a0 [] α b n0 T.heap hw fa hn0 I.2.1 hN'.2 (fun q => by rw [z3] at q; cases q)
    have Bk := backOf (Q := CQ P.2 Z α b n0 T.heap (mN M') w (rv, w')) (R := R) (p := p) (e := e) (below := below) (s := s1) (args := args) (len := 3) (W := (rest.map fun v => v.category).sum) C hZ (hw _ k5) (hw _ k3) (by rw [hR]; exact Nat.le_of_ble_eq_true z4) (by rw [hR]; exact Nat.le_of_ble_eq_true z5)
    obtain ⟨v, vm1, ⟨T2, Lx, kx, nx⟩, -, X2, ⟨L2, hQ, l2, y2, n2⟩, stp⟩ := Jvm.LawKit.callS I.1 hx (y := mY M') hown (mvT hZ (hw _ k1)) (mvT hZ (hw _ k2)) (mvT hZ (hw _ k3)) (mvT hZ (hw _ k5)) k6 Bk (g := mkF m pc (cL α b L) (cV α b st)) rfl (by show (cL α b L).size = c.maxLocals; rw [cL_size, hl, hml]) (argsL := cV α b as) (rest := cV α b rest) (lenOf pd (by simpa [cV] using hn)) (by subst hst; simp [cV])
      (by show 2 * 0 + _ ≤ _; rw [cV_sum]; exact Nat.le_of_eq (Nat.zero_add _)) (hb hc d) (fun _ _ => ⟨rfl, rfl, by rw [z1]; exact I.2.2.2.2.2.2.2.1, by rw [z2]; exact I.2.2.2.2.2.2.2.2.1⟩)
    dsimp only [Pt.U, Pt.locs, Pt.cells, Pt.slots] at X2 l2 y2 n2 stp hQ
    subst l2 y2 n2
    obtain ⟨rfl, N2, R2, F2, k, k8, k9⟩ := hQ
    obtain ⟨X, Rp, Fm, Nl, hs, u1, u2, c1, c2, hN⟩ := I
    rw [z1, z2] at X2
    refine ⟨T2, _, _, _, ⟨X2, R2, Fm.trans (F2.wide (Nat.le_refl _) (by have := Nat.mul_le_mul_left (cK P.2 + 1) hN'.1; omega)), Nl.app N2, ?_, ?_, ?_, c1, c2, by rw [hu.2.2]; exact hN⟩, fun target r => stp target ?_⟩
    · rw [k8]; have := hu.1; simp only at k9; omega
    · rw [hu.1]; exact u1
    · rw [hu.2.1]; exact u2
    · have e1 : cV α b (rv.toList ++ rest) = (rv.map (con α b)).toList ++ cV α b rest := by cases rv <;> rfl
      rw [e1] at r; exact r) g
/-- a constructor, by its contract -/
theorem go_init {k2 : Nat} {s2 : S} (lk : LinkI P (mY M).cls idx M') (pd : parseMethodDescriptor (mY M').desc = some ⟨ps, rt⟩) (hn : as.length = ps.length) (hid : id = (cK P.2 + 1) * i + 1) (hst : st = as.reverse ++ .ref id :: rest) (hnr : as.all nr = true) (ho : w.2[i]? = some (k, s)) (hw' : w' = (w.1, w.2.set i (k2, s2)))
    (hC : k2 = k + (mR M').cells) (hS : usedS P.2 (none, [(k2, s2)]) = usedS P.2 (none, [(k, s)]) + (mR M').slots) (htM : mTop M = true) (hR1 : Nat.ble (usedC w + (mR M').cells) ((mR M).cells + mUC M) = true) (hR2 : Nat.ble (usedS P.2 w + (mR M').slots) ((mR M).slots + mUS M) = true)
    (hq : usedC w = (cK P.2 + 1) * i + usedC (none, [(k, s)]) ∧ usedC (none, [(k, s)]) = mUC M' ∧ usedS P.2 (none, [(k, s)]) = mUS M') (sm : Nat.ble ((mR M').frames + 1) (mR M).frames = true ∧ Nat.ble ((rest.map fun v => v.category).sum + (mL M' + 11) + (mR M').locals) (mR M).locals = true)
    (d : decode (mB M) pc = .ok (.invokespecial idx, 3)) (cl : Call P M' (.ref 1 :: as) (none, [(k, s)]) (none, (none, [(k2, s2)]))) (g : Go P M (pc + 3) L rest w' out) : Go P M pc L st w out :=
  go_ch (fun l Z a0 p e R s1 m args below meth c α b n0 h0 uC uS ok hl T locs cells slots I => by
    subst hw' hid
    obtain ⟨hw, fa, hx, hZ, hown, hc, hml, hret, hnm, hR, hn0, htop, hsz⟩ := ok
    obtain ⟨k1, k4, k5, k6, k7, k9, k10⟩ := lk
    obtain ⟨z4, z5⟩ := sm
    obtain ⟨t1, t2, t3⟩ := htop htM
    have Ic := I.2.2.2.2.2.1
    have Is := I.2.2.2.2.2.2.1
    have b1 : cells + (mR M').cells ≤ R.cells := by have := Nat.le_of_ble_eq_true hR1; rw [hR]; omega
    have b2 : slots + (mR M').slots ≤ R.slots := by have := Nat.le_of_ble_eq_true hR2; rw [hR]; omega
    have C := cl l Z a0 [] 0 (b + (cK P.2 + 1) * i) n0 T.heap hw fa (Nat.le_trans hn0 (Nat.le_add_right _ _)) (rep_obj I.2.1 ho) (by rw [k7]; exact Nat.le_refl _) (fun _ => ⟨by rw [I.2.2.2.2.1]; have := hq.1; omega, hq.2.1, hq.2.2⟩)
    have Bk := backOf (Q := CQ P.2 Z 0 (b + (cK P.2 + 1) * i) n0 T.heap (mN M') (none, [(k, s)]) (none, (none, [(k2, s2)]))) (R := R) (p := p) (e := e) (below := below) (s := s1) (args := args) (len := 3) (W := (rest.map fun v => v.category).sum) C hZ (hw _ k5) (by rw [k6]; exact fa.2.1) (by rw [hR]; exact Nat.le_of_ble_eq_true z4) (by rw [hR]; exact Nat.le_of_ble_eq_true z5)
    have hy : (mY M').cls ≠ "java/lang/invoke/MethodHandle" ∧ (mY M').cls ≠ "java/lang/invoke/VarHandle" := by rw [k6]; exact fa.2.2.2.2.2.2
    have hcd := hw _ k5
    rw [k9] at hcd
    obtain ⟨v, vm1, ⟨T2, Lx, kx, nx⟩, -, X2, ⟨L2, hQ, l2, y2, n2⟩, stp⟩ := I.1.specialBack hx (y := mY M') k10 hown (mvT hZ (hw _ k1)) (mvT hZ (hw _ k4)) (mvT hZ hcd) hy Bk (g := mkF m pc (cL α b L) (cV α b st)) rfl (by show (cL α b L).size = c.maxLocals; rw [cL_size, hl, hml]) (Steps.refl _) (a := b + (cK P.2 + 1) * i) (argsL := as) (rest := cV α b rest) (lenOf pd hn) (cV_call hnr hst)
      (by show 2 * 0 + _ ≤ _; rw [cV_sum]; exact Nat.le_of_eq (Nat.zero_add _)) (hb hc d) (fun _ _ => ⟨by rw [show (cV 0 (b + (cK P.2 + 1) * i) (.ref 1 :: as)) = .ref (b + (cK P.2 + 1) * i) :: cV 0 (b + (cK P.2 + 1) * i) as from rfl, cV_nr hnr], rfl, b1, b2⟩)
    dsimp only [Pt.U, Pt.locs, Pt.cells, Pt.slots] at X2 l2 y2 n2 stp hQ
    subst l2 y2 n2
    obtain ⟨rfl, N2, R2, F2, k8⟩ := hQ
    rw [k7] at F2
    exact ⟨T2, _, _, _, inv_obj I ho X2 N2 R2 F2 k8 hC hS b1 b2, fun target r => stp.trans r⟩) g
/-- Object's constructor -/
theorem go_objinit {a : Nat} (k1 : Jvm.Cond.methodLink (mY M).cls idx Lib.objectInit ∈ P.1) (k2 : Jvm.Cond.instanceMethod Lib.objectInit ∈ P.1) (k3 : Jvm.Cond.code Lib.objectInit ⟨#[0xb1]⟩ 1 none ∈ P.1) (z4 : Nat.ble 1 (mR M).frames = true) (z5 : Nat.ble ((rest.map fun v => v.category).sum + 12) (mR M).locals = true)
    (d : decode (mB M) pc = .ok (.invokespecial idx, 3)) (g : Go P M (pc + 3) L rest w out) : Go P M pc L (.ref (a + 1) :: rest) w out :=
  go_ch (fun l Z a0 p e R s1 m args below meth c α b n0 h0 uC uS ok hl T locs cells slots I => by
    obtain ⟨hw, fa, hx, hZ, hown, hc, hml, hret, hnm, hR, hn0, htop, hsz⟩ := ok
    obtain ⟨X, Rp, Fm, Nl, hs, u1, u2, c1, c2, hN⟩ := I
    obtain ⟨T', X', e', stp⟩ := initO X hx hZ hown (hw _ k1) (hw _ k2) (hw _ k3) rfl (g := mkF m pc (cL α b L) (cV α b (.ref (a + 1) :: rest))) rfl (by show (cL α b L).size = c.maxLocals; rw [cL_size, hl, hml]) (a := b + a) (rest := cV α b rest) rfl (hb hc d) (by rw [hR]; exact Nat.le_of_ble_eq_true z4) (W := (rest.map fun v => v.category).sum) (by show 2 * 0 + _ ≤ _; rw [cV_sum]; exact Nat.le_of_eq (Nat.zero_add _)) (by rw [hR]; exact Nat.le_of_ble_eq_true z5)
    exact ⟨T', locs, cells, slots, ⟨X', by rw [e']; exact Rp, by rw [e']; exact Fm, Nl, by rw [e']; exact hs, u1, u2, c1, c2, hN⟩, fun target r => stp target r⟩) g
/-- a new object of the class -/
theorem go_new {n : Nat} (k1 : Jvm.Cond.classLink (mY M).cls idx (cN P.2) ∈ P.1) (htM : mTop M = true) (hn : w.2.length = n) (hq : usedC w = (cK P.2 + 1) * n) (hw' : w' = (w.1, w.2 ++ [(0, s0)])) (hN' : Nat.blt n (mN M) = true) (hR1 : Nat.ble (usedC w + 1) ((mR M).cells + mUC M) = true) (hR2 : Nat.ble (usedS P.2 w + cF P.2) ((mR M).slots + mUS M) = true)
    (d : decode (mB M) pc = .ok (.new idx, 3)) (hid : id = (cK P.2 + 1) * n + 1) (g : Go P M (pc + 3) L (.ref id :: st) w' out) : Go P M pc L st w out :=
  go_ch (fun l Z a0 p e R s1 m args below meth c α b n0 h0 uC uS ok hl T locs cells slots I => by
    subst hw' hid
    obtain ⟨hw, fa, hx, hZ, hown, hc, hml, hret, hnm, hR, hn0, htop, hsz⟩ := ok
    obtain ⟨X, Rp, Fm, Nl, hs, u1, u2, c1, c2, hN⟩ := I
    obtain ⟨t1, t2, t3⟩ := htop htM
    have b1 : cells + 1 ≤ R.cells := by have := Nat.le_of_ble_eq_true hR1; rw [hR]; omega
    have b2 : slots + cF P.2 ≤ R.slots := by have := Nat.le_of_ble_eq_true hR2; rw [hR]; omega
    obtain ⟨T2, h2, X2, e2, E2, A2, D2, -, st2⟩ := newO X hx hZ hown (hw _ k1) fa.1 fa.2.1 rfl (g := mkF m pc (cL α b L) (cV α b st)) rfl (hb hc d) b1 b2
    have ha : T.heap.size = b + (cK P.2 + 1) * n := by rw [hs, t1]; omega
    rw [ha] at A2 D2 st2
    have sz2 : T2.heap.size = T.heap.size + 1 := by
      have q1 := X2.heapSize
      have q2 : b + (cK P.2 + 1) * n < h2.size := A2.lt
      rw [e2] at q1 ⊢
      omega
    refine ⟨T2, locs, _, _, ⟨X2, ?_, by rw [e2]; exact Fm.ext E2, Nl, by rw [sz2, hs]; omega, ?_, ?_, b1, b2, ?_⟩, fun target r => st2 target ?_⟩
    · rw [e2]
      refine ⟨fun l1 h1 => (Rp.ext E2).1 l1 h1, fun j oj hj => ?_⟩
      by_cases q : j < w.2.length
      · rw [show (w.1, w.2 ++ [(0, s0)]).2 = w.2 ++ [(0, s0)] from rfl, List.getElem?_append_left q] at hj
        exact (Rp.ext E2).2 j oj hj
      · have hj' := get_lt hj
        simp at hj'
        have ej : j = n := by omega
        subst ej
        rw [show (w.1, w.2 ++ [(0, s0)]).2 = w.2 ++ [(0, s0)] from rfl, List.getElem?_append_right (by omega)] at hj
        rw [hn] at hj; simp at hj; subst hj
        refine ⟨A2, fun f x hx => ?_, fun q x hx => ?_, fun q x _ hq => absurd hq (Nat.not_lt_zero _)⟩
        · have := D2 (fa.2.2.1 f x hx).1 (fa.2.2.1 f x hx).2
          rw [fa.2.2.2.2.2.1 f x hx] at this
          exact this
        · have := D2 (fa.2.2.2.1 q x hx).1 (fa.2.2.2.1 q x hx).2
          rw [if_neg (Nat.not_lt_zero _)]
          exact this
    · simp [usedC] at u1 ⊢; omega
    · simp [usedS] at u2 ⊢; omega
    · simp; have : n < mN M := by simpa [Nat.blt_eq] using hN'
      omega
    · exact r) g
/-- a new array, laid into its field at once -/
theorem rep_new {Z : State} {a0 : Array Value} {ci : CI} {h h1 h2 : Heap} {b : Nat} {s s' : S} {k : Nat} {nm ds : String} {ty : FieldType} {cap : Nat} {cl : Cell} (fa : Facts Z a0 ci) (F : Rep1 Z ci h b (k, s)) (hf : (cA ci)[k]? = some (nm, ds, ty, cap)) (E : Ext h h1) (A : Arr Z h1 (b + 1 + k) cl ty) (ec : cl.slots = (arV ty s' k).toArray)
    (Wt : Wr h1 h2 b (Jvm.RoadKit.slotOf Z (cN ci) nm ds) (.ref (b + 1 + k))) (ho : ∀ q' x, (cA ci)[q']? = some x → q' ≠ k → arV x.2.2.1 s' q' = arV x.2.2.1 s q') (ha : gI s' = gI s) (hbb : gL s' = gL s) : Rep1 Z ci h2 b (k + 1, s') := by
  obtain ⟨f1, f2, f3, f4⟩ := F
  obtain ⟨-, -, g1, g2, g3, -⟩ := fa
  have lt := get_lt hf
  refine ⟨(f1.ext E).wr Wt, fun f x hx => ?_, fun q x hx => ?_, fun q x hx hq => ?_⟩
  · have e : scV x.2.2 s' f = scV x.2.2 s f := by unfold scV; split <;> simp [ha, hbb]
    have lt' := get_lt hx
    show Fld Z h2 b (cN ci) x.1 x.2.1 (scV x.2.2 s' f)
    rw [e]
    refine ((f2 f x hx).ext E).other Wt (Or.inr ?_)
    refine slot_ne (g1 f x hx).1 (g2 k _ hf).1 ?_ (g1 f x hx).2 (g2 k _ hf).2
    intro en
    have n1 : ((cS ci).map (fun x => x.1) ++ (cA ci).map (fun x => x.1))[f]? = some x.1 := by rw [List.getElem?_append_left (by simpa using lt')]; simp [hx]
    have n2 : ((cS ci).map (fun x => x.1) ++ (cA ci).map (fun x => x.1))[(cS ci).length + k]? = some nm := by rw [List.getElem?_append_right (by simp)]; simp [hf]
    rw [en] at n1
    obtain ⟨i1, j1⟩ := List.getElem?_eq_some_iff.mp n1
    obtain ⟨i2, j2⟩ := List.getElem?_eq_some_iff.mp n2
    have := (List.getElem_inj g3).mp (j1.trans j2.symm)
    omega
  · by_cases e : q = k
    · subst e
      cases hf.symm.trans hx
      rw [if_pos (show q < (q + 1, s').1 from Nat.lt_succ_self q)]
      exact ((f3 q _ hf).ext E).same Wt
    · have lt' := get_lt hx
      have e2 : (if q < (k + 1, s').1 then Value.ref (b + 1 + q) else Value.null) = (if q < (k, s).1 then Value.ref (b + 1 + q) else Value.null) := by
        show (if q < k + 1 then _ else _) = (if q < k then _ else _)
        by_cases q1 : q < k
        · rw [if_pos q1, if_pos (by omega)]
        · rw [if_neg q1, if_neg (by omega)]
      rw [e2]
      refine ((f3 q x hx).ext E).other Wt (Or.inr ?_)
      refine slot_ne (g2 q x hx).1 (g2 k _ hf).1 ?_ (g2 q x hx).2 (g2 k _ hf).2
      intro en
      have n1 : ((cS ci).map (fun x => x.1) ++ (cA ci).map (fun x => x.1))[(cS ci).length + q]? = some x.1 := by rw [List.getElem?_append_right (by simp)]; simp [hx]
      have n2 : ((cS ci).map (fun x => x.1) ++ (cA ci).map (fun x => x.1))[(cS ci).length + k]? = some nm := by rw [List.getElem?_append_right (by simp)]; simp [hf]
      rw [en] at n1
      obtain ⟨i1, j1⟩ := List.getElem?_eq_some_iff.mp n1
      obtain ⟨i2, j2⟩ := List.getElem?_eq_some_iff.mp n2
      have := (List.getElem_inj g3).mp (j1.trans j2.symm)
      omega
  · by_cases e : q = k
    · subst e
      cases hf.symm.trans hx
      exact ⟨cl, A.other Wt (nq (by omega)), ec⟩
    · obtain ⟨c, B, eb⟩ := f4 q x hx (by have : q < k + 1 := hq; show q < k; omega)
      refine ⟨c, (B.ext E).other Wt (nq (by omega)), eb.trans ?_⟩
      rw [ho q x hx e]
theorem go_newV {aty : ArrayType} {ty : FieldType} {nm ds : String} {cap : Nat} {n : Int32} {s' : S} (hty : newarray.typeOf aty = ty) (ha : (cA P.2)[k]? = some (nm, ds, ty, cap)) (k0 : Jvm.Cond.arrayClass ty ∈ P.1) (k1 : Jvm.Cond.fieldLink (cN P.2) idx (cN P.2) nm ds ∈ P.1) (hM : (mY M).cls = cN P.2)
    (hlays : Jvm.Cond.lays (cN P.2) (cN P.2) nm ds ∈ P.1 ∨ (Jvm.Cond.laysFinal (cN P.2) (cN P.2) nm ds ∈ P.1 ∧ (mY M).name = "<init>")) (htM : mTop M = true) (hp : 0 < mN M) (hn : ¬ n < 0) (hcap : Nat.ble n.toNatClampNeg cap = true) (hbig : Nat.ble (cap * 8) 536870912 = true)
    (hR1 : Nat.ble (1 + k + 1) ((mR M).cells + mUC M) = true) (hR2 : Nat.ble (usedS P.2 (none, [(k, s)]) + cap) ((mR M).slots + mUS M) = true)
    (hv : arV ty s' k = List.replicate n.toNatClampNeg (defaultValue ty)) (hoth : ∀ q' x, (cA P.2)[q']? = some x → q' ≠ k → arV x.2.2.1 s' q' = arV x.2.2.1 s q') (hgI : gI s' = gI s) (hgL : gL s' = gL s)
    (d : decode (mB M) pc = .ok (.newarray aty, 2)) (d2 : decode (mB M) (pc + 2) = .ok (.putfield idx, 3)) (g : Go P M (pc + 5) L st (none, [(k + 1, s')]) out) : Go P M pc L (.int n :: .ref 1 :: st) (none, [(k, s)]) out :=
  go_ch (fun l Z a0 p e R s1 m args below meth c α b n0 h0 uC uS ok hl T locs cells slots I => by
    obtain ⟨hw, fa, hx, hZ, hown, hc, hml, hret, hnm, hR, hn0, htop, hsz⟩ := ok
    obtain ⟨X, Rp, Fm, Nl, hs, u1, u2, c1, c2, hN⟩ := I
    obtain ⟨t1, t2, t3⟩ := htop htM
    have u1' : cells + uC = 1 + k := by simpa [usedC] using u1
    have b1 : cells + 1 ≤ R.cells := by have := Nat.le_of_ble_eq_true hR1; rw [hR]; omega
    have b2 : slots + cap ≤ R.slots := by have := Nat.le_of_ble_eq_true hR2; rw [hR]; omega
    subst hty
    obtain ⟨T2, h2, cA2, X2, e2, E2, A2, st2⟩ := newP X hx hZ (hw _ k0) rfl (g := mkF m pc (cL α b L) (.int n :: .ref b :: cV α b st)) rfl (hb hc d) rfl hn (Nat.le_of_ble_eq_true hcap) (Nat.le_of_ble_eq_true hbig) b1 b2
    have hadr : T.heap.size = b + 1 + k := by rw [hs, t1]; omega
    rw [hadr] at A2 st2
    have sz2 : T2.heap.size = T.heap.size + 1 := by
      have q1 := X2.heapSize
      have q2 : b + 1 + k < h2.size := A2.lt
      rw [e2] at q1 ⊢
      omega
    have Rp1 := rep_one Rp
    have Fd := Rp1.2.2.1 k _ ha
    rw [if_neg (show ¬ k < (k, s).1 from Nat.lt_irrefl k)] at Fd
    rw [hM] at hown
    obtain ⟨T3, h3, X3, e3, Wt, st3⟩ := putF X2 hx hZ hown (host := "") (Or.inl (hw _ k1)) Via.refl e2 (Fd.ext E2) (Rp1.1.ext E2) (hlays.imp (fun q => hw _ q) (fun q => ⟨hw _ q.1, rfl, hnm.trans q.2⟩)) fa.1 (fa.2.2.2.1 k _ ha).2 (v := .ref (b + 1 + k)) rfl rfl (g := mkF m (pc + 2) (cL α b L) (.ref (b + 1 + k) :: .ref b :: cV α b st)) rfl rfl (hb hc d2)
    refine ⟨T3, _, _, _, ⟨X3, rep_mk (by rw [e3]; exact rep_new fa Rp1 ha E2 A2 (by rw [hv]; simp [newA]) Wt hoth hgI hgL), by rw [e3]; exact (Fm.ext E2).wr Wt (Nat.le_refl _) (by have := Nat.mul_le_mul_left (cK P.2 + 1) hp; omega), Fr.snoc X3 Nl hn0, by rw [e3, Wt.size, ← e2, sz2, hs]; omega, by simp [usedC]; omega, ?_, b1, b2, hN⟩, fun target r => st2 target (st3 target r)⟩
    have hk := get_lt ha
    simp only [usedS, List.map_cons, List.map_nil, List.sum_cons, List.sum_nil] at u2 ⊢
    rw [List.take_add_one, List.map_append, List.sum_append, ha]
    simp [List.map_take] at u2 ⊢; omega) g
theorem go_newI {aty : ArrayType} {ty : FieldType} {nm ds : String} {cap : Nat} {n : Int32} (hty : newarray.typeOf aty = ty) (hi : ty = .int ∨ ty = .boolean ∨ ty = .byte) (ha : (cA P.2)[k]? = some (nm, ds, ty, cap)) (k0 : Jvm.Cond.arrayClass ty ∈ P.1) (k1 : Jvm.Cond.fieldLink (cN P.2) idx (cN P.2) nm ds ∈ P.1) (hM : (mY M).cls = cN P.2)
    (hlays : Jvm.Cond.lays (cN P.2) (cN P.2) nm ds ∈ P.1 ∨ (Jvm.Cond.laysFinal (cN P.2) (cN P.2) nm ds ∈ P.1 ∧ (mY M).name = "<init>")) (htM : mTop M = true) (hp : 0 < mN M) (hn : ¬ n < 0) (hcap : Nat.ble n.toNatClampNeg cap = true) (hbig : Nat.ble (cap * 8) 536870912 = true)
    (hR1 : Nat.ble (1 + k + 1) ((mR M).cells + mUC M) = true) (hR2 : Nat.ble (usedS P.2 (none, [(k, s)]) + cap) ((mR M).slots + mUS M) = true)
    (d : decode (mB M) pc = .ok (.newarray aty, 2)) (d2 : decode (mB M) (pc + 2) = .ok (.putfield idx, 3)) (g : Go P M (pc + 5) L st (none, [(k + 1, sA s k (rep n.toNatClampNeg 0))]) out) : Go P M pc L (.int n :: .ref 1 :: st) (none, [(k, s)]) out :=
  go_newV hty ha k0 k1 hM hlays htM hp hn hcap hbig hR1 hR2 (by rcases hi with rfl | rfl | rfl <;> simp [arV, gA_sA, defaultValue, rep]) (fun q' x _ h => arV_sA s k _ _ q' h) rfl rfl d d2 g
theorem go_newJ {nm ds : String} {cap : Nat} {n : Int32} (ha : (cA P.2)[k]? = some (nm, ds, .long, cap)) (k0 : Jvm.Cond.arrayClass .long ∈ P.1) (k1 : Jvm.Cond.fieldLink (cN P.2) idx (cN P.2) nm ds ∈ P.1) (hM : (mY M).cls = cN P.2)
    (hlays : Jvm.Cond.lays (cN P.2) (cN P.2) nm ds ∈ P.1 ∨ (Jvm.Cond.laysFinal (cN P.2) (cN P.2) nm ds ∈ P.1 ∧ (mY M).name = "<init>")) (htM : mTop M = true) (hp : 0 < mN M) (hn : ¬ n < 0) (hcap : Nat.ble n.toNatClampNeg cap = true) (hbig : Nat.ble (cap * 8) 536870912 = true)
    (hR1 : Nat.ble (1 + k + 1) ((mR M).cells + mUC M) = true) (hR2 : Nat.ble (usedS P.2 (none, [(k, s)]) + cap) ((mR M).slots + mUS M) = true)
    (d : decode (mB M) pc = .ok (.newarray .long, 2)) (d2 : decode (mB M) (pc + 2) = .ok (.putfield idx, 3)) (g : Go P M (pc + 5) L st (none, [(k + 1, sB s k (rep n.toNatClampNeg 0))]) out) : Go P M pc L (.int n :: .ref 1 :: st) (none, [(k, s)]) out :=
  go_newV (aty := .long) (ty := .long) rfl ha k0 k1 hM hlays htM hp hn hcap hbig hR1 hR2 (by simp [arV, gB_sB, defaultValue, rep]) (fun q' x _ h => arV_sB s k _ _ q' h) rfl rfl d d2 g
end Rules
/-! ## the start -/
theorem tsw_out {x : Int32} {lo hi : Int} (h1 : -2147483648 ≤ lo) (h2 : hi < 2147483648) (ks : List Int32) (hk : ks = ((List.range (hi - lo + 1).toNat).map fun (j : Nat) => Int32.ofInt (lo + (j : Int)))) (hx : ∀ k ∈ ks, x ≠ k) : x.toInt < lo ∨ x.toInt > hi := by
  by_cases q1 : x.toInt < lo
  · exact Or.inl q1
  by_cases q2 : x.toInt > hi
  · exact Or.inr q2
  refine absurd rfl (hx x ?_)
  rw [hk, List.mem_map]
  refine ⟨(x.toInt - lo).toNat, List.mem_range.mpr (by omega), ?_⟩
  rw [show lo + (((x.toInt - lo).toNat : Nat) : Int) = x.toInt by omega]
  exact Int32.ofInt_toInt x
theorem list_of_array {V : Type} (a : Array V) (f : Nat → V) (h : ∀ j, j < a.size → a[j]? = some (f j)) : a = ((List.range a.size).map f).toArray := by
  apply Array.ext'
  apply List.ext_getElem?
  intro j
  by_cases q : j < a.size
  · simpa [q] using h j q
  · simp [q]
theorem small_len {n : Nat} {k : Int32} (h : n < 2 ^ 31) (q : n.toInt32 ≤ k) : (n : Int) ≤ k.toInt := by
  have e : (Int32.ofNat n).toInt = n := Int32.toInt_ofNat_of_lt h
  have := Int32.le_iff_toInt_le.mp q
  rwa [show n.toInt32.toInt = n from e] at this
theorem script_of {s : State} {args : Array Value} {t : Term} {k : Int32} (hf : Fit s) (h1 : (Cond.arrayOf t .int).value args s none s [] = some true) (h2 : (Cond.le (.length t) (.int k)).value args s none s [] = some true) :
    ∃ (a : Nat) (l : List Int32), t.eval args s none [] s = some (.ref a) ∧ Ar s s.heap a .int (l.map .int) ∧ a < s.heap.size ∧ (l.length : Int) ≤ k.toInt := by
  obtain ⟨a, ev⟩ := arr_v h1
  obtain ⟨c, A⟩ := Arr.start ev h1
  obtain ⟨x, y, ex, ey, -, -⟩ := cmp_v (Or.inr (Or.inr h2))
  obtain ⟨b, cell, e1, e2, e3, ev2⟩ := Jvm.Lib.length_spec ex
  have ea : b = a := by rw [ev] at e1; cases e1; rfl
  have ec : cell = c := by
    have := Arr.fin (Vm.Alike.refl _) A
    rw [ea, this] at e2; cases e2; rfl
  subst ea ec ev2
  obtain ⟨n, en, S⟩ := Scr.start hf A e3
  have hle : cell.slots.size.toInt32 ≤ k := by
    have ek : (Term.int k).eval args s none [] s = some (.int k) := rfl
    simp only [Cond.value, ex, ek] at h2
    simpa using h2
  refine ⟨b, (List.range cell.slots.size).map fun j => atv cell (Int32.ofNat j), ev, ⟨cell, A, ?_⟩, A.lt, ?_⟩
  · rw [List.map_map]
    refine list_of_array cell.slots _ fun j hj => ?_
    have e4 : (Int32.ofNat j).toNatClampNeg = j := by
      have : (Int32.ofNat j).toInt = j := Int32.toInt_ofNat_of_lt (by omega)
      simp [Int32.toNatClampNeg, this]
    have e5 : ¬ (Int32.ofNat j < 0) := by
      rw [Int32.lt_iff_toInt_lt, Int32.toInt_ofNat_of_lt (by omega)]; simp
    have := S.2.2.2 (Int32.ofNat j) (by rw [e4]; rintro (q | q); exact e5 q; omega)
    rw [e4] at this
    exact this
  · simpa using small_len e3 hle
theorem repW_none (Z : State) (ci : CI) (α b : Nat) (h : Heap) : RepW Z ci α b (none, []) h := ⟨fun l hl => (by cases hl), fun i o ho => (by simp at ho)⟩
theorem repW_some {Z : State} {ci : CI} {α b : Nat} {h : Heap} {l : List Int32} (A : Ar Z h α .int (l.map .int)) (q : α < b) : RepW Z ci α b (some l, []) h := ⟨fun l' hl => by cases hl; exact ⟨A, q⟩, fun i o ho => by simp at ho⟩
end Jvm.AM
/-! ## plain lemmas on ints, arrays and updates -/
namespace Jvm.PL
open Jvm.AM
theorem ofNat_toInt {k : Nat} (h : k < 2147483648) : (Int32.ofNat k).toInt = k := Int32.toInt_ofNat_of_lt h
theorem ofNat_lt {k m : Nat} (hk : k < 2147483648) (hm : m < 2147483648) : Int32.ofNat k < Int32.ofNat m ↔ k < m := by
  rw [Int32.lt_iff_toInt_lt, ofNat_toInt hk, ofNat_toInt hm]; omega
theorem lt_lit {k m : Nat} (hk : k < 2147483648) (hm : m < 2147483648 := by decide) : Int32.ofNat k < (OfNat.ofNat m : Int32) ↔ k < m := ofNat_lt hk hm
theorem ofNat_succ (k : Nat) : Int32.ofNat k + 1 = Int32.ofNat (k + 1) := by
  rw [Int32.ofNat_add]; rfl
theorem ofNat_nonneg {k : Nat} (hk : k < 2147483648) : ¬ Int32.ofNat k < 0 := by rw [Int32.lt_iff_toInt_lt, ofNat_toInt hk]; simp
theorem ofNat_clamp {k : Nat} (hk : k < 2147483648) : (Int32.ofNat k).toNatClampNeg = k := by simp [Int32.toNatClampNeg, ofNat_toInt hk]
theorem ix_ofNat {A : Type} (l : List A) {k : Nat} (hk : k < 2147483648) : ix l (Int32.ofNat k) = l[k]? := by
  unfold ix; rw [if_neg (ofNat_nonneg hk), ofNat_clamp hk]
theorem st_ofNat {A : Type} (l : List A) (x : A) {k : Nat} (hk : k < 2147483648) (hl : k < l.length) : Jvm.AM.st l (Int32.ofNat k) x = some (l.set k x) := by
  unfold Jvm.AM.st; rw [if_neg (ofNat_nonneg hk), ofNat_clamp hk, if_pos hl]
theorem toInt_clamp {v : Int32} (h : ¬ v < 0) : (v.toNatClampNeg : Int) = v.toInt := by
  rw [Int32.lt_iff_toInt_lt] at h
  simp only [Int32.toNatClampNeg]
  have : (0 : Int32).toInt = 0 := rfl
  omega
theorem eq_ofNat {v : Int32} (h : ¬ v < 0) : v = Int32.ofNat v.toNatClampNeg ∧ v.toNatClampNeg < 2147483648 := by
  have h1 := toInt_clamp h
  have h2 := v.toInt_lt
  have h3 : v.toNatClampNeg < 2147483648 := by omega
  refine ⟨Int32.toInt_inj.mp ?_, h3⟩
  rw [ofNat_toInt h3]; exact h1.symm
theorem ix_rep {A : Type} {v : Int32} {n : Nat} {x : A} (h0 : ¬ v < 0) (h1 : v < Int32.ofNat n) (hn : n < 2147483648) : ix (rep n x) v = some x := by
  obtain ⟨e, hl⟩ := eq_ofNat h0
  rw [e] at h1 ⊢
  have h2 := (ofNat_lt hl hn).mp h1
  rw [ix_ofNat _ hl, rep_get, if_pos h2]
theorem ix_nat {A : Type} (l : List A) {v : Int32} (h0 : ¬ v < 0) : ix l v = l[v.toNatClampNeg]? := by unfold ix; rw [if_neg h0]
theorem st_nat {A : Type} (l : List A) {v : Int32} {x : A} (h0 : ¬ v < 0) (hl : v.toNatClampNeg < l.length) : Jvm.AM.st l v x = some (l.set v.toNatClampNeg x) := by
  unfold Jvm.AM.st; rw [if_neg h0, if_pos hl]
theorem clamp_lt {v : Int32} {n : Nat} (h0 : ¬ v < 0) (h1 : v < Int32.ofNat n) (hn : n < 2147483648) : v.toNatClampNeg < n := by
  obtain ⟨e, hl⟩ := eq_ofNat h0
  rw [e] at h1
  exact (ofNat_lt hl hn).mp h1
theorem clamp_inj {v w : Int32} (h0 : ¬ v < 0) (h1 : ¬ w < 0) : v.toNatClampNeg = w.toNatClampNeg ↔ v = w := by
  constructor
  · intro h
    have a := toInt_clamp h0
    have b := toInt_clamp h1
    exact Int32.toInt_inj.mp (by omega)
  · intro h; rw [h]
end Jvm.PL
namespace Jvm.PL
open Jvm.AM
/-- all but the named fields and arrays is as it was -/
def Fx (I L A B : List Nat) (s s' : S) : Prop := (∀ f, f ∉ I → gI s' f = gI s f) ∧ (∀ f, f ∉ L → gL s' f = gL s f) ∧ (∀ f, f ∉ A → gA s' f = gA s f) ∧ (∀ f, f ∉ B → gB s' f = gB s f)
theorem Fx.refl (I L A B : List Nat) (s : S) : Fx I L A B s s := ⟨fun _ _ => rfl, fun _ _ => rfl, fun _ _ => rfl, fun _ _ => rfl⟩
theorem Fx.trans {I L A B : List Nat} {s t u : S} (h : Fx I L A B s t) (k : Fx I L A B t u) : Fx I L A B s u :=
  ⟨fun f q => (k.1 f q).trans (h.1 f q), fun f q => (k.2.1 f q).trans (h.2.1 f q), fun f q => (k.2.2.1 f q).trans (h.2.2.1 f q), fun f q => (k.2.2.2 f q).trans (h.2.2.2 f q)⟩
theorem Fx.mono {I L A B I' L' A' B' : List Nat} {s t : S} (h : Fx I L A B s t) (a : ∀ f ∈ I, f ∈ I') (b : ∀ f ∈ L, f ∈ L') (c : ∀ f ∈ A, f ∈ A') (d : ∀ f ∈ B, f ∈ B') : Fx I' L' A' B' s t :=
  ⟨fun f q => h.1 f fun x => q (a f x), fun f q => h.2.1 f fun x => q (b f x), fun f q => h.2.2.1 f fun x => q (c f x), fun f q => h.2.2.2 f fun x => q (d f x)⟩
theorem Fx.sA {I L A B : List Nat} {s t : S} {f : Nat} {l : List Int32} (h : Fx I L A B s t) (hf : f ∈ A) : Fx I L A B s (Jvm.AM.sA t f l) :=
  ⟨fun g q => (gI_sA _ _ _ _).trans (h.1 g q), fun g q => (gL_sA _ _ _ _).trans (h.2.1 g q), fun g q => by rw [gA_sA, if_neg (fun e : g = f => q (e ▸ hf))]; exact h.2.2.1 g q, fun g q => (gB_sA _ _ _ _).trans (h.2.2.2 g q)⟩
theorem Fx.sI {I L A B : List Nat} {s t : S} {f : Nat} {l : Int32} (h : Fx I L A B s t) (hf : f ∈ I) : Fx I L A B s (Jvm.AM.sI t f l) :=
  ⟨fun g q => by rw [gI_sI, if_neg (fun e : g = f => q (e ▸ hf))]; exact h.1 g q, fun g q => (gL_sI _ _ _ _).trans (h.2.1 g q), fun g q => (gA_sI _ _ _ _).trans (h.2.2.1 g q), fun g q => (gB_sI _ _ _ _).trans (h.2.2.2 g q)⟩
theorem Fx.sL {I L A B : List Nat} {s t : S} {f : Nat} {l : Int64} (h : Fx I L A B s t) (hf : f ∈ L) : Fx I L A B s (Jvm.AM.sL t f l) :=
  ⟨fun g q => (gI_sL _ _ _ _).trans (h.1 g q), fun g q => by rw [gL_sL, if_neg (fun e : g = f => q (e ▸ hf))]; exact h.2.1 g q, fun g q => (gA_sL _ _ _ _).trans (h.2.2.1 g q), fun g q => (gB_sL _ _ _ _).trans (h.2.2.2 g q)⟩
theorem Fx.sB {I L A B : List Nat} {s t : S} {f : Nat} {l : List Int64} (h : Fx I L A B s t) (hf : f ∈ B) : Fx I L A B s (Jvm.AM.sB t f l) :=
  ⟨fun g q => (gI_sB _ _ _ _).trans (h.1 g q), fun g q => (gL_sB _ _ _ _).trans (h.2.1 g q), fun g q => (gA_sB _ _ _ _).trans (h.2.2.1 g q), fun g q => by rw [gB_sB, if_neg (fun e : g = f => q (e ▸ hf))]; exact h.2.2.2 g q⟩
theorem ofNat_add' (a b : Nat) : Int32.ofNat a + Int32.ofNat b = Int32.ofNat (a + b) := (Int32.ofNat_add a b).symm
/-- the first k entries are x -/
def Upto {A : Type} (l : List A) (k : Nat) (x : A) : Prop := ∀ i, i < k → l[i]? = some x
theorem Upto.zero {A : Type} (l : List A) (x : A) : Upto l 0 x := fun _ h => absurd h (Nat.not_lt_zero _)
theorem Upto.set {A : Type} {l : List A} {k : Nat} {x : A} (h : Upto l k x) (hk : k < l.length) : Upto (l.set k x) (k + 1) x := fun i hi => by
  by_cases e : i = k
  · subst e; simp [hk]
  · rw [List.getElem?_set_ne (Ne.symm e)]; exact h i (by omega)
theorem Upto.all {A : Type} {l : List A} {k : Nat} {x : A} (h : Upto l k x) (hk : l.length = k) : l = rep k x := by
  apply List.ext_getElem?
  intro i
  rw [rep_get]
  by_cases q : i < k
  · rw [if_pos q]; exact h i q
  · rw [if_neg q, List.getElem?_eq_none (by omega)]
end Jvm.PL
namespace Jvm.PL
open Jvm.AM
/-- a loop by its invariant; m: the turns that are left -/
theorem run_loop {A B : Type} (L : Nat → A → B) (F : A → B) (I : Nat → A → Prop) (h : ∀ n m a, I (m + 1) a → ∃ a', L (n + 1) a = L n a' ∧ I m a') (h0 : ∀ n a, I 0 a → L (n + 1) a = F a) : ∀ m n a, m < n → I m a → ∃ a', L n a = F a' ∧ I 0 a'
  | 0, n + 1, a, _, i => ⟨a, h0 n a i, i⟩
  | m + 1, n + 1, a, q, i => by
    obtain ⟨a', e, i'⟩ := h n m a i
    obtain ⟨a'', e', i''⟩ := run_loop L F I h h0 m n a' (by omega) i'
    exact ⟨a'', e.trans e', i''⟩
/-- 'for k in 0 .. N' -/
theorem run_for {B : Type} (L : Nat → Int32 → S → B) (F : S → B) (N : Nat) (I : Nat → S → Prop) (h : ∀ n k s, k < N → I k s → ∃ s', L (n + 1) (Int32.ofNat k) s = L n (Int32.ofNat (k + 1)) s' ∧ I (k + 1) s') (h0 : ∀ n s, I N s → L (n + 1) (Int32.ofNat N) s = F s) (n : Nat) (s : S) (hn : N < n) (i : I 0 s) :
    ∃ s', L n (Int32.ofNat 0) s = F s' ∧ I N s' := by
  obtain ⟨a, e, k, hk, ea, ia⟩ := run_loop (fun n (a : Int32 × S) => L n a.1 a.2) (fun a => F a.2) (fun m a => ∃ k, k + m = N ∧ a.1 = Int32.ofNat k ∧ I k a.2)
    (fun n m a ⟨k, h1, h2, h3⟩ => by
      obtain ⟨s', e, i'⟩ := h n k a.2 (by omega) h3
      exact ⟨(Int32.ofNat (k + 1), s'), by show L (n + 1) a.1 a.2 = _; rw [h2]; exact e, k + 1, by omega, rfl, i'⟩)
    (fun n a ⟨k, h1, h2, h3⟩ => by
      have : k = N := by omega
      subst this
      show L (n + 1) a.1 a.2 = _; rw [h2]; exact h0 n a.2 h3) N n (Int32.ofNat 0, s) hn ⟨0, by omega, rfl, i⟩
  have : k = N := by omega
  subst this
  exact ⟨a.2, e, ia⟩
end Jvm.PL
namespace Jvm.PL
open Jvm.AM
/-- the end test of a loop over a script -/
theorem len_lt {n k c : Nat} (hn : n ≤ 100000) (hk : k ≤ 100000) (hc : c ≤ 100000) : (n.toInt32 - Int32.ofNat c) < Int32.ofNat k ↔ n < k + c := by
  rw [Int32.lt_iff_toInt_lt, Int32.toInt_sub, show n.toInt32 = Int32.ofNat n from rfl, ofNat_toInt (by omega), ofNat_toInt (by omega), ofNat_toInt (by omega)]
  have : ((n : Int) - c).bmod (2 ^ 32) = n - c := by
    rw [Int.bmod_eq_of_le] <;> omega
  rw [this]; omega
/-- a loop over a script, c entries a turn: it ends in what every way out says -/
theorem run_script {A B : Type} (L : Nat → Int32 → A → B) (c len : Nat) (hc : 0 < c) (P : B → Prop) (I : Nat → A → Prop) (h : ∀ n k a, k + c ≤ len → I k a → P (L (n + 1) (Int32.ofNat k) a) ∨ ∃ a', L (n + 1) (Int32.ofNat k) a = L n (Int32.ofNat (k + c)) a' ∧ I (k + c) a') (h0 : ∀ n k a, k ≤ len → len < k + c → I k a → P (L (n + 1) (Int32.ofNat k) a)) : ∀ n k a, len < n + k → k ≤ len → I k a → P (L n (Int32.ofNat k) a)
  | 0, k, a, hn, hk, i => by omega
  | n + 1, k, a, hn, hk, i => by
    by_cases q : k + c ≤ len
    · rcases h n k a q i with p | ⟨a', e, i'⟩
      · exact p
      · rw [e]; exact run_script L c len hc P I h h0 n (k + c) a' (by omega) q i'
    · exact h0 n k a hk (by omega) i
theorem ix_some {A : Type} (l : List A) {k : Nat} (hk : k < 2147483648) (hl : k < l.length) : ∃ x, ix l (Int32.ofNat k) = some x := ⟨l[k], by rw [ix_ofNat _ hk, List.getElem?_eq_getElem hl]⟩
theorem ofNat_lit (a b : Nat) : Int32.ofNat a + (OfNat.ofNat b : Int32) = Int32.ofNat (a + b) := ofNat_add' a b
end Jvm.PL
namespace Jvm.PL
open Jvm.AM
theorem upd_same {A : Type} (g : Nat → A) (f : Nat) (a b : A) : upd (upd g f a) f b = upd g f b := by
  funext x; unfold upd; by_cases q : x = f <;> simp [q]
theorem upd_comm {A : Type} (g : Nat → A) {f h : Nat} (n : f ≠ h) (a b : A) : upd (upd g f a) h b = upd (upd g h b) f a := by
  funext x; unfold upd
  by_cases q : x = f
  · have : ¬ f = h := n
    simp [q, this]
  · by_cases r : x = h
    · rw [if_pos r, if_neg q, if_pos r]
    · rw [if_neg r, if_neg q, if_neg q, if_neg r]
theorem sA_same (s : S) (f : Nat) (a b : List Int32) : Jvm.AM.sA (Jvm.AM.sA s f a) f b = Jvm.AM.sA s f b := by
  unfold Jvm.AM.sA; simp only [upd_same]
theorem sA_comm (s : S) {f h : Nat} (n : f ≠ h) (a b : List Int32) : Jvm.AM.sA (Jvm.AM.sA s f a) h b = Jvm.AM.sA (Jvm.AM.sA s h b) f a := by
  unfold Jvm.AM.sA; simp only; rw [upd_comm _ n]
end Jvm.PL
/-! ## rows of bits -/
namespace Jvm.PL
open Jvm.AM Jvm.Free
def bt (w : Int32) (y : Nat) : Bool := w.toBitVec.getLsbD y
theorem bt_zero (y : Nat) : bt 0 y = false := by simp [bt]
theorem bt_or (a b : Int32) (y : Nat) : bt (a ||| b) y = (bt a y || bt b y) := by simp [bt]
theorem bt_and (a b : Int32) (y : Nat) : bt (a &&& b) y = (bt a y && bt b y) := by simp [bt]
theorem bt_ge (w : Int32) {y : Nat} (h : 32 ≤ y) : bt w y = false := by unfold bt; exact BitVec.getLsbD_of_ge _ _ h
theorem bt_m1 {y : Nat} (h : y < 32) : bt (-1) y = true := by
  unfold bt
  rw [show (-1 : Int32).toBitVec = BitVec.allOnes 32 from rfl, BitVec.getLsbD_allOnes]
  simp [h]
theorem bt_not (a : Int32) {y : Nat} (h : y < 32) : bt (a ^^^ (-1)) y = !bt a y := by
  have := bt_m1 h
  unfold bt at *
  rw [Int32.toBitVec_xor, BitVec.getLsbD_xor, this]; simp
theorem bt_andn (a b : Int32) (y : Nat) : bt (a &&& (b ^^^ (-1))) y = (bt a y && !bt b y) := by
  rw [bt_and]
  by_cases h : y < 32
  · rw [bt_not b h]
  · rw [bt_ge a (by omega)]; simp
theorem bt_ext {a b : Int32} (h : ∀ y, y < 32 → bt a y = bt b y) : a = b := by
  apply Int32.toBitVec_inj.mp
  apply BitVec.eq_of_getLsbD_eq
  intro i hi
  exact h i hi
theorem bt_eq0 {w : Int32} : w = 0 ↔ ∀ y, y < 32 → bt w y = false := by
  constructor
  · rintro rfl y _; exact bt_zero y
  · intro h; exact bt_ext fun y hy => by rw [h y hy, bt_zero]
theorem ushr_bit (w : Int32) {y : Nat} (hy : y < 32) : (XT.ushr w (Int32.ofNat y)).toBitVec = w.toBitVec >>> y := by
  unfold XT.ushr
  have h1 : ((Int32.ofNat y &&& 31).toUInt32.toBitVec).toNat = y := by
    show ((Int32.ofNat y &&& 31).toBitVec).toNat = y
    rw [Int32.toBitVec_and, BitVec.toNat_and]
    have e1 : (Int32.ofNat y).toBitVec.toNat = y := by
      show (BitVec.ofNat 32 y).toNat = y
      rw [BitVec.toNat_ofNat]; omega
    have e2 : (31 : Int32).toBitVec.toNat = 31 := rfl
    rw [e1, e2, show 31 = 2 ^ 5 - 1 from rfl, Nat.and_two_pow_sub_one_eq_mod]; omega
  show (w.toUInt32 >>> (Int32.ofNat y &&& 31).toUInt32).toBitVec = _
  rw [UInt32.toBitVec_shiftRight]
  show w.toBitVec >>> ((Int32.ofNat y &&& 31).toUInt32.toBitVec % 32) = _
  rw [BitVec.ushiftRight_eq']
  congr 1
  rw [BitVec.toNat_umod, h1]
  show y % 32 = y
  omega
theorem and1 (w : Int32) : (w &&& 1 = 0) ↔ bt w 0 = false := by
  constructor
  · intro h
    have : bt (w &&& 1) 0 = false := by rw [h, bt_zero]
    rw [bt_and] at this
    simpa [show bt 1 0 = true from rfl] using this
  · intro h
    refine bt_ext fun y hy => ?_
    rw [bt_and, bt_zero]
    cases y with
    | zero => rw [h]; rfl
    | succ y =>
      have : bt 1 (y + 1) = false := by
        unfold bt
        show (1#32).getLsbD (y + 1) = false
        simp [BitVec.getLsbD_one]
      rw [this]; simp
theorem test_bit (w : Int32) {y : Nat} (hy : y < 32) : (XT.ushr w (Int32.ofNat y) &&& 1 = 0) ↔ bt w y = false := by
  rw [and1]
  unfold bt
  rw [ushr_bit w hy]; simp
theorem shl_bit {b : Nat} (hb : b < 32) (y : Nat) : bt ((1 : Int32) <<< (Int32.ofNat b &&& 31)) y = decide (y = b) := by
  have h1 : (Int32.ofNat b &&& 31) = Int32.ofNat b := by
    apply Int32.toBitVec_inj.mp
    rw [Int32.toBitVec_and]
    apply BitVec.eq_of_toNat_eq
    rw [BitVec.toNat_and]
    have e1 : (Int32.ofNat b).toBitVec.toNat = b := by
      show (BitVec.ofNat 32 b).toNat = b
      rw [BitVec.toNat_ofNat]; omega
    have e2 : (31 : Int32).toBitVec.toNat = 31 := rfl
    rw [e1, e2, show 31 = 2 ^ 5 - 1 from rfl, Nat.and_two_pow_sub_one_eq_mod]; omega
  rw [h1]
  unfold bt
  have e : ((1 : Int32) <<< Int32.ofNat b).toBitVec = (1#32) <<< b := by
    rw [Int32.toBitVec_shiftLeft]
    show (1#32) <<< ((Int32.ofNat b).toBitVec.smod 32) = _
    have : (Int32.ofNat b).toBitVec.smod 32 = BitVec.ofNat 32 b := by
      have hz : ∀ b : Fin 32, (Int32.ofNat b.val).toBitVec.smod 32 = BitVec.ofNat 32 b.val := by decide
      exact hz ⟨b, hb⟩
    rw [this, BitVec.shiftLeft_eq']
    congr 1
    rw [BitVec.toNat_ofNat]; omega
  rw [e]
  simp only [BitVec.getLsbD_shiftLeft, BitVec.getLsbD_one]
  by_cases h : y = b
  · subst h; simp [hb]
  · simp [h]; omega
end Jvm.PL
namespace Jvm.Pilot.@@N@@
open Jvm Jvm.ClassFile Sem Op Lib Jvm.Free Jvm.Stand Jvm.LawKit Jvm.RoadKit Jvm.AM Jvm.PL Jvm.Pilot.@@N@@.Jvm.D
def ci1 : CI := ("PageCompactorY", 19, [("frameTotal", "I", .int), ("pageTotal", "I", .int), ("freeSet", "J", .long), ("mappedSet", "J", .long), ("pinnedSet", "J", .long), ("reservedSet", "J", .long), ("runsStale", "Z", .boolean)], [("frameStates", "[B", .byte, 64), ("frameValues", "[I", .int, 64), ("frameCounts", "[I", .int, 64), ("pageFrame", "[I", .int, 64), ("rmapHead", "[I", .int, 64), ("rmapNext", "[I", .int, 64), ("rmapPrev", "[I", .int, 64), ("runSet", "[J", .long, 7)])
def PP : PI := (tables_1, ci1)
def BIG : Nat := 1000000
def m0 : Meth := (⟨"PageCompactorY", "clampInt", "(III)I"⟩, prog_1_method_18_code, 4, (some .int), { frames := 0, cells := 0, slots := 0, locals := 0 }, 1, false, 0, 0)
def m1 : Meth := (⟨"PageCompactorY", "lowMask", "(I)J"⟩, prog_1_method_42_code, 2, (some .long), { frames := 0, cells := 0, slots := 0, locals := 0 }, 1, false, 0, 0)
def m2 : Meth := (⟨"PageCompactorY", "resetAll", "()V"⟩, prog_1_method_24_code, 2, none, { frames := 1, cells := 0, slots := 0, locals := 14 }, 1, false, 0, 0)
def m3 : Meth := (⟨"PageCompactorY", "<init>", "(II)V"⟩, prog_1_method_1_code, 3, none, { frames := 2, cells := 8, slots := 455, locals := 27 }, 1, true, 1, 19)
def m4 : Meth := (⟨"PageCompactorY", "pageInRange", "(II)Z"⟩, prog_1_method_19_code, 3, (some .boolean), { frames := 0, cells := 0, slots := 0, locals := 0 }, 1, false, 0, 0)
def m5 : Meth := (⟨"PageCompactorY", "slotOf", "(II)I"⟩, prog_1_method_21_code, 3, (some .int), { frames := 0, cells := 0, slots := 0, locals := 0 }, 1, false, 0, 0)
def m6 : Meth := (⟨"PageCompactorY", "checkTarget", "(II)I"⟩, prog_1_method_22_code, 4, (some .int), { frames := 1, cells := 0, slots := 0, locals := 14 }, 1, false, 0, 0)
def m7 : Meth := (⟨"PageCompactorY", "lowestBit", "(J)I"⟩, prog_1_method_44_code, 6, (some .int), { frames := 0, cells := 0, slots := 0, locals := 0 }, 1, false, 0, 0)
def m8 : Meth := (⟨"PageCompactorY", "frameInRange", "(I)Z"⟩, prog_1_method_20_code, 2, (some .boolean), { frames := 0, cells := 0, slots := 0, locals := 0 }, 1, false, 0, 0)
def m9 : Meth := (⟨"PageCompactorY", "bitOf", "(I)J"⟩, prog_1_method_41_code, 2, (some .long), { frames := 0, cells := 0, slots := 0, locals := 0 }, 1, false, 0, 0)
def m10 : Meth := (⟨"PageCompactorY", "enterState", "(II)V"⟩, prog_1_method_25_code, 5, none, { frames := 1, cells := 0, slots := 0, locals := 13 }, 1, false, 0, 0)
def m11 : Meth := (⟨"PageCompactorY", "rmapLink", "(II)V"⟩, prog_1_method_31_code, 4, none, { frames := 0, cells := 0, slots := 0, locals := 0 }, 1, false, 0, 0)
def m12 : Meth := (⟨"PageCompactorY", "attachPage", "(II)V"⟩, prog_1_method_29_code, 3, none, { frames := 1, cells := 0, slots := 0, locals := 15 }, 1, false, 0, 0)
def m13 : Meth := (⟨"PageCompactorY", "mapNew", "(III)I"⟩, prog_1_method_2_code, 7, (some .int), { frames := 2, cells := 0, slots := 0, locals := 29 }, 1, false, 0, 0)
def m14 : Meth := (⟨"PageCompactorY", "share", "(IIII)I"⟩, prog_1_method_3_code, 8, (some .int), { frames := 2, cells := 0, slots := 0, locals := 29 }, 1, false, 0, 0)
def m15 : Meth := (⟨"PageCompactorY", "mapCount", "(I)I"⟩, prog_1_method_15_code, 2, (some .int), { frames := 1, cells := 0, slots := 0, locals := 13 }, 1, false, 0, 0)
def m16 : Meth := (⟨"PageCompactorY", "mappedFrame", "(II)I"⟩, prog_1_method_23_code, 5, (some .int), { frames := 1, cells := 0, slots := 0, locals := 14 }, 1, false, 0, 0)
def m17 : Meth := (⟨"PageCompactorY", "write", "(III)Z"⟩, prog_1_method_5_code, 5, (some .boolean), { frames := 2, cells := 0, slots := 0, locals := 30 }, 1, false, 0, 0)
def m18 : Meth := (⟨"PageCompactorY", "read", "(II)I"⟩, prog_1_method_6_code, 4, (some .int), { frames := 2, cells := 0, slots := 0, locals := 30 }, 1, false, 0, 0)
def m19 : Meth := (⟨"PageCompactorY", "rmapUnlink", "(I)I"⟩, prog_1_method_32_code, 5, (some .int), { frames := 0, cells := 0, slots := 0, locals := 0 }, 1, false, 0, 0)
def m20 : Meth := (⟨"PageCompactorY", "detachPage", "(I)I"⟩, prog_1_method_30_code, 3, (some .int), { frames := 1, cells := 0, slots := 0, locals := 16 }, 1, false, 0, 0)
def m21 : Meth := (⟨"PageCompactorY", "freeFrame", "(I)V"⟩, prog_1_method_26_code, 2, none, { frames := 2, cells := 0, slots := 0, locals := 29 }, 1, false, 0, 0)
def m22 : Meth := (⟨"PageCompactorY", "unmap", "(II)I"⟩, prog_1_method_4_code, 5, (some .int), { frames := 3, cells := 0, slots := 0, locals := 42 }, 1, false, 0, 0)
def m23 : Meth := (⟨"PageCompactorY", "frameState", "(I)I"⟩, prog_1_method_13_code, 2, (some .int), { frames := 1, cells := 0, slots := 0, locals := 13 }, 1, false, 0, 0)
def m24 : Meth := (⟨"PageCompactorY", "frameValue", "(I)I"⟩, prog_1_method_14_code, 3, (some .int), { frames := 1, cells := 0, slots := 0, locals := 13 }, 1, false, 0, 0)
def m25 : Meth := (⟨"PageCompactorY", "bitCount", "(J)I"⟩, prog_1_method_46_code, 5, (some .int), { frames := 0, cells := 0, slots := 0, locals := 0 }, 1, false, 0, 0)
def m26 : Meth := (⟨"PageCompactorY", "freeCount", "()I"⟩, prog_1_method_16_code, 1, (some .int), { frames := 1, cells := 0, slots := 0, locals := 16 }, 1, false, 0, 0)
def m27 : Meth := (x, code, maxLocals, ret, room_1, 1, true, 0, 0)
theorem ar_0 : (cA PP.2)[0]? = some ("frameStates", "[B", .byte, 64) := rfl
theorem ar_1 : (cA PP.2)[1]? = some ("frameValues", "[I", .int, 64) := rfl
theorem ar_2 : (cA PP.2)[2]? = some ("frameCounts", "[I", .int, 64) := rfl
theorem ar_3 : (cA PP.2)[3]? = some ("pageFrame", "[I", .int, 64) := rfl
theorem ar_4 : (cA PP.2)[4]? = some ("rmapHead", "[I", .int, 64) := rfl
theorem ar_5 : (cA PP.2)[5]? = some ("rmapNext", "[I", .int, 64) := rfl
theorem ar_6 : (cA PP.2)[6]? = some ("rmapPrev", "[I", .int, 64) := rfl
theorem ar_7 : (cA PP.2)[7]? = some ("runSet", "[J", .long, 7) := rfl
theorem fa_7 : FldA PP 7 0 .byte := ⟨_, _, _, rfl, List.mem_of_getElem? (i := 10) rfl⟩
theorem fa_13 : FldA PP 13 1 .int := ⟨_, _, _, rfl, List.mem_of_getElem? (i := 13) rfl⟩
theorem fa_17 : FldA PP 17 2 .int := ⟨_, _, _, rfl, List.mem_of_getElem? (i := 15) rfl⟩
theorem fa_20 : FldA PP 20 3 .int := ⟨_, _, _, rfl, List.mem_of_getElem? (i := 17) rfl⟩
theorem fa_23 : FldA PP 23 4 .int := ⟨_, _, _, rfl, List.mem_of_getElem? (i := 19) rfl⟩
theorem fa_26 : FldA PP 26 5 .int := ⟨_, _, _, rfl, List.mem_of_getElem? (i := 21) rfl⟩
theorem fa_29 : FldA PP 29 6 .int := ⟨_, _, _, rfl, List.mem_of_getElem? (i := 23) rfl⟩
theorem fa_32 : FldA PP 32 7 .long := ⟨_, _, _, rfl, List.mem_of_getElem? (i := 26) rfl⟩
theorem fs_40 : FldS PP 40 0 .int := ⟨_, _, rfl, List.mem_of_getElem? (i := 32) rfl⟩
theorem fs_44 : FldS PP 44 1 .int := ⟨_, _, rfl, List.mem_of_getElem? (i := 34) rfl⟩
theorem fs_54 : FldS PP 54 2 .long := ⟨_, _, rfl, List.mem_of_getElem? (i := 44) rfl⟩
theorem fs_132 : FldS PP 132 3 .long := ⟨_, _, rfl, List.mem_of_getElem? (i := 46) rfl⟩
theorem fs_135 : FldS PP 135 4 .long := ⟨_, _, rfl, List.mem_of_getElem? (i := 48) rfl⟩
theorem fs_138 : FldS PP 138 5 .long := ⟨_, _, rfl, List.mem_of_getElem? (i := 50) rfl⟩
theorem fs_141 : FldS PP 141 6 .boolean := ⟨_, _, rfl, List.mem_of_getElem? (i := 52) rfl⟩
theorem wr_0 (M : Meth) : Wrt PP M 0 := ⟨_, _, _, rfl, Or.inl (List.mem_of_getElem? (i := 33) rfl)⟩
theorem wr_1 (M : Meth) : Wrt PP M 1 := ⟨_, _, _, rfl, Or.inl (List.mem_of_getElem? (i := 35) rfl)⟩
theorem wr_2 (M : Meth) : Wrt PP M 2 := ⟨_, _, _, rfl, Or.inl (List.mem_of_getElem? (i := 45) rfl)⟩
theorem wr_3 (M : Meth) : Wrt PP M 3 := ⟨_, _, _, rfl, Or.inl (List.mem_of_getElem? (i := 47) rfl)⟩
theorem wr_4 (M : Meth) : Wrt PP M 4 := ⟨_, _, _, rfl, Or.inl (List.mem_of_getElem? (i := 49) rfl)⟩
theorem wr_5 (M : Meth) : Wrt PP M 5 := ⟨_, _, _, rfl, Or.inl (List.mem_of_getElem? (i := 51) rfl)⟩
theorem wr_6 (M : Meth) : Wrt PP M 6 := ⟨_, _, _, rfl, Or.inl (List.mem_of_getElem? (i := 53) rfl)⟩
theorem oid_0 : 1 = (cK PP.2 + 1) * 0 + 1 := rfl
theorem pl_0 : plainName "PageCompactorY" = true := by first | (simp [plainName, overriddenIn]; done) | decide +kernel
theorem pl_1 : plainName "PageCompactorYL2" = true := by first | (simp [plainName, overriddenIn]; done) | decide +kernel
theorem hm_0 : (mY m0).cls = cN PP.2 := rfl
theorem hn_0 : 0 < mN m0 := by decide
theorem pd_0 : parseMethodDescriptor (mY m0).desc = some ⟨[.int, .int, .int], (some .int)⟩ := by decide +kernel
theorem hm_1 : (mY m1).cls = cN PP.2 := rfl
theorem hn_1 : 0 < mN m1 := by decide
theorem pd_1 : parseMethodDescriptor (mY m1).desc = some ⟨[.int], (some .long)⟩ := by decide +kernel
theorem hm_2 : (mY m2).cls = cN PP.2 := rfl
theorem hn_2 : 0 < mN m2 := by decide
theorem pd_2 : parseMethodDescriptor (mY m2).desc = some ⟨[], none⟩ := by decide +kernel
theorem hm_3 : (mY m3).cls = cN PP.2 := rfl
theorem hn_3 : 0 < mN m3 := by decide
theorem pd_3 : parseMethodDescriptor (mY m3).desc = some ⟨[.int, .int], none⟩ := by decide +kernel
theorem hm_4 : (mY m4).cls = cN PP.2 := rfl
theorem hn_4 : 0 < mN m4 := by decide
theorem pd_4 : parseMethodDescriptor (mY m4).desc = some ⟨[.int, .int], (some .boolean)⟩ := by decide +kernel
theorem hm_5 : (mY m5).cls = cN PP.2 := rfl
theorem hn_5 : 0 < mN m5 := by decide
theorem pd_5 : parseMethodDescriptor (mY m5).desc = some ⟨[.int, .int], (some .int)⟩ := by decide +kernel
theorem hm_6 : (mY m6).cls = cN PP.2 := rfl
theorem hn_6 : 0 < mN m6 := by decide
theorem pd_6 : parseMethodDescriptor (mY m6).desc = some ⟨[.int, .int], (some .int)⟩ := by decide +kernel
theorem hm_7 : (mY m7).cls = cN PP.2 := rfl
theorem hn_7 : 0 < mN m7 := by decide
theorem pd_7 : parseMethodDescriptor (mY m7).desc = some ⟨[.long], (some .int)⟩ := by decide +kernel
theorem hm_8 : (mY m8).cls = cN PP.2 := rfl
theorem hn_8 : 0 < mN m8 := by decide
theorem pd_8 : parseMethodDescriptor (mY m8).desc = some ⟨[.int], (some .boolean)⟩ := by decide +kernel
theorem hm_9 : (mY m9).cls = cN PP.2 := rfl
theorem hn_9 : 0 < mN m9 := by decide
theorem pd_9 : parseMethodDescriptor (mY m9).desc = some ⟨[.int], (some .long)⟩ := by decide +kernel
theorem hm_10 : (mY m10).cls = cN PP.2 := rfl
theorem hn_10 : 0 < mN m10 := by decide
theorem pd_10 : parseMethodDescriptor (mY m10).desc = some ⟨[.int, .int], none⟩ := by decide +kernel
theorem hm_11 : (mY m11).cls = cN PP.2 := rfl
theorem hn_11 : 0 < mN m11 := by decide
theorem pd_11 : parseMethodDescriptor (mY m11).desc = some ⟨[.int, .int], none⟩ := by decide +kernel
theorem hm_12 : (mY m12).cls = cN PP.2 := rfl
theorem hn_12 : 0 < mN m12 := by decide
theorem pd_12 : parseMethodDescriptor (mY m12).desc = some ⟨[.int, .int], none⟩ := by decide +kernel
theorem hm_13 : (mY m13).cls = cN PP.2 := rfl
theorem hn_13 : 0 < mN m13 := by decide
theorem pd_13 : parseMethodDescriptor (mY m13).desc = some ⟨[.int, .int, .int], (some .int)⟩ := by decide +kernel
theorem hm_14 : (mY m14).cls = cN PP.2 := rfl
theorem hn_14 : 0 < mN m14 := by decide
theorem pd_14 : parseMethodDescriptor (mY m14).desc = some ⟨[.int, .int, .int, .int], (some .int)⟩ := by decide +kernel
theorem hm_15 : (mY m15).cls = cN PP.2 := rfl
theorem hn_15 : 0 < mN m15 := by decide
theorem pd_15 : parseMethodDescriptor (mY m15).desc = some ⟨[.int], (some .int)⟩ := by decide +kernel
theorem hm_16 : (mY m16).cls = cN PP.2 := rfl
theorem hn_16 : 0 < mN m16 := by decide
theorem pd_16 : parseMethodDescriptor (mY m16).desc = some ⟨[.int, .int], (some .int)⟩ := by decide +kernel
theorem hm_17 : (mY m17).cls = cN PP.2 := rfl
theorem hn_17 : 0 < mN m17 := by decide
theorem pd_17 : parseMethodDescriptor (mY m17).desc = some ⟨[.int, .int, .int], (some .boolean)⟩ := by decide +kernel
theorem hm_18 : (mY m18).cls = cN PP.2 := rfl
theorem hn_18 : 0 < mN m18 := by decide
theorem pd_18 : parseMethodDescriptor (mY m18).desc = some ⟨[.int, .int], (some .int)⟩ := by decide +kernel
theorem hm_19 : (mY m19).cls = cN PP.2 := rfl
theorem hn_19 : 0 < mN m19 := by decide
theorem pd_19 : parseMethodDescriptor (mY m19).desc = some ⟨[.int], (some .int)⟩ := by decide +kernel
theorem hm_20 : (mY m20).cls = cN PP.2 := rfl
theorem hn_20 : 0 < mN m20 := by decide
theorem pd_20 : parseMethodDescriptor (mY m20).desc = some ⟨[.int], (some .int)⟩ := by decide +kernel
theorem hm_21 : (mY m21).cls = cN PP.2 := rfl
theorem hn_21 : 0 < mN m21 := by decide
theorem pd_21 : parseMethodDescriptor (mY m21).desc = some ⟨[.int], none⟩ := by decide +kernel
theorem hm_22 : (mY m22).cls = cN PP.2 := rfl
theorem hn_22 : 0 < mN m22 := by decide
theorem pd_22 : parseMethodDescriptor (mY m22).desc = some ⟨[.int, .int], (some .int)⟩ := by decide +kernel
theorem hm_23 : (mY m23).cls = cN PP.2 := rfl
theorem hn_23 : 0 < mN m23 := by decide
theorem pd_23 : parseMethodDescriptor (mY m23).desc = some ⟨[.int], (some .int)⟩ := by decide +kernel
theorem hm_24 : (mY m24).cls = cN PP.2 := rfl
theorem hn_24 : 0 < mN m24 := by decide
theorem pd_24 : parseMethodDescriptor (mY m24).desc = some ⟨[.int], (some .int)⟩ := by decide +kernel
theorem hm_25 : (mY m25).cls = cN PP.2 := rfl
theorem hn_25 : 0 < mN m25 := by decide
theorem pd_25 : parseMethodDescriptor (mY m25).desc = some ⟨[.long], (some .int)⟩ := by decide +kernel
theorem hm_26 : (mY m26).cls = cN PP.2 := rfl
theorem hn_26 : 0 < mN m26 := by decide
theorem pd_26 : parseMethodDescriptor (mY m26).desc = some ⟨[], (some .int)⟩ := by decide +kernel
theorem hn_27 : 0 < mN m27 := by decide
theorem d0_0 : decode (mB m0) 0 = .ok (.iload_n 1, 1) := by decide +kernel
theorem d0_1 : decode (mB m0) 1 = .ok (.iload_n 2, 1) := by decide +kernel
theorem d0_2 : decode (mB m0) 2 = .ok (.if_icmp .ge 5, 3) := by decide +kernel
theorem d0_5 : decode (mB m0) 5 = .ok (.iload_n 2, 1) := by decide +kernel
theorem d0_6 : decode (mB m0) 6 = .ok (.ireturn, 1) := by decide +kernel
theorem d0_7 : decode (mB m0) 7 = .ok (.iload_n 1, 1) := by decide +kernel
theorem d0_8 : decode (mB m0) 8 = .ok (.iload_n 3, 1) := by decide +kernel
theorem d0_9 : decode (mB m0) 9 = .ok (.if_icmp .le 5, 3) := by decide +kernel
theorem d0_12 : decode (mB m0) 12 = .ok (.iload_n 3, 1) := by decide +kernel
theorem d0_13 : decode (mB m0) 13 = .ok (.ireturn, 1) := by decide +kernel
theorem d0_14 : decode (mB m0) 14 = .ok (.iload_n 1, 1) := by decide +kernel
theorem d0_15 : decode (mB m0) 15 = .ok (.ireturn, 1) := by decide +kernel
theorem d1_0 : decode (mB m1) 0 = .ok (.iload_n 1, 1) := by decide +kernel
theorem d1_1 : decode (mB m1) 1 = .ok (.ifCond .gt 5, 3) := by decide +kernel
theorem d1_4 : decode (mB m1) 4 = .ok (.lconst 0, 1) := by decide +kernel
theorem d1_5 : decode (mB m1) 5 = .ok (.lreturn, 1) := by decide +kernel
theorem d1_6 : decode (mB m1) 6 = .ok (.iload_n 1, 1) := by decide +kernel
theorem d1_7 : decode (mB m1) 7 = .ok (.bipush 64, 2) := by decide +kernel
theorem d1_9 : decode (mB m1) 9 = .ok (.if_icmp .lt 7, 3) := by decide +kernel
theorem d1_12 : decode (mB m1) 12 = .ok (.ldc2_w 148, 3) := by decide +kernel
theorem d1_15 : decode (mB m1) 15 = .ok (.lreturn, 1) := by decide +kernel
theorem d1_16 : decode (mB m1) 16 = .ok (.lconst 1, 1) := by decide +kernel
theorem d1_17 : decode (mB m1) 17 = .ok (.iload_n 1, 1) := by decide +kernel
theorem d1_18 : decode (mB m1) 18 = .ok (.lshl, 1) := by decide +kernel
theorem d1_19 : decode (mB m1) 19 = .ok (.lconst 1, 1) := by decide +kernel
theorem d1_20 : decode (mB m1) 20 = .ok (.lsub, 1) := by decide +kernel
theorem d1_21 : decode (mB m1) 21 = .ok (.lreturn, 1) := by decide +kernel
theorem d2_0 : decode (mB m2) 0 = .ok (.iconst 0, 1) := by decide +kernel
theorem d2_1 : decode (mB m2) 1 = .ok (.istore_n 1, 1) := by decide +kernel
theorem d2_2 : decode (mB m2) 2 = .ok (.iload_n 1, 1) := by decide +kernel
theorem d2_3 : decode (mB m2) 3 = .ok (.bipush 64, 2) := by decide +kernel
theorem d2_5 : decode (mB m2) 5 = .ok (.if_icmp .ge 58, 3) := by decide +kernel
theorem d2_8 : decode (mB m2) 8 = .ok (.aload_n 0, 1) := by decide +kernel
theorem d2_9 : decode (mB m2) 9 = .ok (.getfield 7, 3) := by decide +kernel
theorem d2_12 : decode (mB m2) 12 = .ok (.iload_n 1, 1) := by decide +kernel
theorem d2_13 : decode (mB m2) 13 = .ok (.iconst 0, 1) := by decide +kernel
theorem d2_14 : decode (mB m2) 14 = .ok (.bastore, 1) := by decide +kernel
theorem d2_15 : decode (mB m2) 15 = .ok (.aload_n 0, 1) := by decide +kernel
theorem d2_16 : decode (mB m2) 16 = .ok (.getfield 13, 3) := by decide +kernel
theorem d2_19 : decode (mB m2) 19 = .ok (.iload_n 1, 1) := by decide +kernel
theorem d2_20 : decode (mB m2) 20 = .ok (.iconst 0, 1) := by decide +kernel
theorem d2_21 : decode (mB m2) 21 = .ok (.iastore, 1) := by decide +kernel
theorem d2_22 : decode (mB m2) 22 = .ok (.aload_n 0, 1) := by decide +kernel
theorem d2_23 : decode (mB m2) 23 = .ok (.getfield 17, 3) := by decide +kernel
theorem d2_26 : decode (mB m2) 26 = .ok (.iload_n 1, 1) := by decide +kernel
theorem d2_27 : decode (mB m2) 27 = .ok (.iconst 0, 1) := by decide +kernel
theorem d2_28 : decode (mB m2) 28 = .ok (.iastore, 1) := by decide +kernel
theorem d2_29 : decode (mB m2) 29 = .ok (.aload_n 0, 1) := by decide +kernel
theorem d2_30 : decode (mB m2) 30 = .ok (.getfield 20, 3) := by decide +kernel
theorem d2_33 : decode (mB m2) 33 = .ok (.iload_n 1, 1) := by decide +kernel
theorem d2_34 : decode (mB m2) 34 = .ok (.iconst (-1), 1) := by decide +kernel
theorem d2_35 : decode (mB m2) 35 = .ok (.iastore, 1) := by decide +kernel
theorem d2_36 : decode (mB m2) 36 = .ok (.aload_n 0, 1) := by decide +kernel
theorem d2_37 : decode (mB m2) 37 = .ok (.getfield 23, 3) := by decide +kernel
theorem d2_40 : decode (mB m2) 40 = .ok (.iload_n 1, 1) := by decide +kernel
theorem d2_41 : decode (mB m2) 41 = .ok (.iconst (-1), 1) := by decide +kernel
theorem d2_42 : decode (mB m2) 42 = .ok (.iastore, 1) := by decide +kernel
theorem d2_43 : decode (mB m2) 43 = .ok (.aload_n 0, 1) := by decide +kernel
theorem d2_44 : decode (mB m2) 44 = .ok (.getfield 26, 3) := by decide +kernel
theorem d2_47 : decode (mB m2) 47 = .ok (.iload_n 1, 1) := by decide +kernel
theorem d2_48 : decode (mB m2) 48 = .ok (.iconst (-1), 1) := by decide +kernel
theorem d2_49 : decode (mB m2) 49 = .ok (.iastore, 1) := by decide +kernel
theorem d2_50 : decode (mB m2) 50 = .ok (.aload_n 0, 1) := by decide +kernel
theorem d2_51 : decode (mB m2) 51 = .ok (.getfield 29, 3) := by decide +kernel
theorem d2_54 : decode (mB m2) 54 = .ok (.iload_n 1, 1) := by decide +kernel
theorem d2_55 : decode (mB m2) 55 = .ok (.iconst (-1), 1) := by decide +kernel
theorem d2_56 : decode (mB m2) 56 = .ok (.iastore, 1) := by decide +kernel
theorem d2_57 : decode (mB m2) 57 = .ok (.iinc 1 1, 3) := by decide +kernel
theorem d2_60 : decode (mB m2) 60 = .ok (.goto (-58), 3) := by decide +kernel
theorem d2_63 : decode (mB m2) 63 = .ok (.aload_n 0, 1) := by decide +kernel
theorem d2_64 : decode (mB m2) 64 = .ok (.aload_n 0, 1) := by decide +kernel
theorem d2_65 : decode (mB m2) 65 = .ok (.aload_n 0, 1) := by decide +kernel
theorem d2_66 : decode (mB m2) 66 = .ok (.getfield 40, 3) := by decide +kernel
theorem d2_69 : decode (mB m2) 69 = .ok (.invokevirtual 129, 3) := by decide +kernel
theorem d2_72 : decode (mB m2) 72 = .ok (.putfield 54, 3) := by decide +kernel
theorem d2_75 : decode (mB m2) 75 = .ok (.aload_n 0, 1) := by decide +kernel
theorem d2_76 : decode (mB m2) 76 = .ok (.lconst 0, 1) := by decide +kernel
theorem d2_77 : decode (mB m2) 77 = .ok (.putfield 132, 3) := by decide +kernel
theorem d2_80 : decode (mB m2) 80 = .ok (.aload_n 0, 1) := by decide +kernel
theorem d2_81 : decode (mB m2) 81 = .ok (.lconst 0, 1) := by decide +kernel
theorem d2_82 : decode (mB m2) 82 = .ok (.putfield 135, 3) := by decide +kernel
theorem d2_85 : decode (mB m2) 85 = .ok (.aload_n 0, 1) := by decide +kernel
theorem d2_86 : decode (mB m2) 86 = .ok (.lconst 0, 1) := by decide +kernel
theorem d2_87 : decode (mB m2) 87 = .ok (.putfield 138, 3) := by decide +kernel
theorem d2_90 : decode (mB m2) 90 = .ok (.aload_n 0, 1) := by decide +kernel
theorem d2_91 : decode (mB m2) 91 = .ok (.iconst 1, 1) := by decide +kernel
theorem d2_92 : decode (mB m2) 92 = .ok (.putfield 141, 3) := by decide +kernel
theorem d2_95 : decode (mB m2) 95 = .ok (.return_, 1) := by decide +kernel
theorem d3_0 : decode (mB m3) 0 = .ok (.aload_n 0, 1) := by decide +kernel
theorem d3_1 : decode (mB m3) 1 = .ok (.invokespecial 1, 3) := by decide +kernel
theorem d3_4 : decode (mB m3) 4 = .ok (.aload_n 0, 1) := by decide +kernel
theorem d3_5 : decode (mB m3) 5 = .ok (.bipush 64, 2) := by decide +kernel
theorem d3_7 : decode (mB m3) 7 = .ok (.newarray .byte, 2) := by decide +kernel
theorem d3_9 : decode (mB m3) 9 = .ok (.putfield 7, 3) := by decide +kernel
theorem d3_12 : decode (mB m3) 12 = .ok (.aload_n 0, 1) := by decide +kernel
theorem d3_13 : decode (mB m3) 13 = .ok (.bipush 64, 2) := by decide +kernel
theorem d3_15 : decode (mB m3) 15 = .ok (.newarray .int, 2) := by decide +kernel
theorem d3_17 : decode (mB m3) 17 = .ok (.putfield 13, 3) := by decide +kernel
theorem d3_20 : decode (mB m3) 20 = .ok (.aload_n 0, 1) := by decide +kernel
theorem d3_21 : decode (mB m3) 21 = .ok (.bipush 64, 2) := by decide +kernel
theorem d3_23 : decode (mB m3) 23 = .ok (.newarray .int, 2) := by decide +kernel
theorem d3_25 : decode (mB m3) 25 = .ok (.putfield 17, 3) := by decide +kernel
theorem d3_28 : decode (mB m3) 28 = .ok (.aload_n 0, 1) := by decide +kernel
theorem d3_29 : decode (mB m3) 29 = .ok (.bipush 64, 2) := by decide +kernel
theorem d3_31 : decode (mB m3) 31 = .ok (.newarray .int, 2) := by decide +kernel
theorem d3_33 : decode (mB m3) 33 = .ok (.putfield 20, 3) := by decide +kernel
theorem d3_36 : decode (mB m3) 36 = .ok (.aload_n 0, 1) := by decide +kernel
theorem d3_37 : decode (mB m3) 37 = .ok (.bipush 64, 2) := by decide +kernel
theorem d3_39 : decode (mB m3) 39 = .ok (.newarray .int, 2) := by decide +kernel
theorem d3_41 : decode (mB m3) 41 = .ok (.putfield 23, 3) := by decide +kernel
theorem d3_44 : decode (mB m3) 44 = .ok (.aload_n 0, 1) := by decide +kernel
theorem d3_45 : decode (mB m3) 45 = .ok (.bipush 64, 2) := by decide +kernel
theorem d3_47 : decode (mB m3) 47 = .ok (.newarray .int, 2) := by decide +kernel
theorem d3_49 : decode (mB m3) 49 = .ok (.putfield 26, 3) := by decide +kernel
theorem d3_52 : decode (mB m3) 52 = .ok (.aload_n 0, 1) := by decide +kernel
theorem d3_53 : decode (mB m3) 53 = .ok (.bipush 64, 2) := by decide +kernel
theorem d3_55 : decode (mB m3) 55 = .ok (.newarray .int, 2) := by decide +kernel
theorem d3_57 : decode (mB m3) 57 = .ok (.putfield 29, 3) := by decide +kernel
theorem d3_60 : decode (mB m3) 60 = .ok (.aload_n 0, 1) := by decide +kernel
theorem d3_61 : decode (mB m3) 61 = .ok (.bipush 7, 2) := by decide +kernel
theorem d3_63 : decode (mB m3) 63 = .ok (.newarray .long, 2) := by decide +kernel
theorem d3_65 : decode (mB m3) 65 = .ok (.putfield 32, 3) := by decide +kernel
theorem d3_68 : decode (mB m3) 68 = .ok (.aload_n 0, 1) := by decide +kernel
theorem d3_69 : decode (mB m3) 69 = .ok (.aload_n 0, 1) := by decide +kernel
theorem d3_70 : decode (mB m3) 70 = .ok (.iload_n 1, 1) := by decide +kernel
theorem d3_71 : decode (mB m3) 71 = .ok (.bipush 8, 2) := by decide +kernel
theorem d3_73 : decode (mB m3) 73 = .ok (.bipush 64, 2) := by decide +kernel
theorem d3_75 : decode (mB m3) 75 = .ok (.invokevirtual 36, 3) := by decide +kernel
theorem d3_78 : decode (mB m3) 78 = .ok (.putfield 40, 3) := by decide +kernel
theorem d3_81 : decode (mB m3) 81 = .ok (.aload_n 0, 1) := by decide +kernel
theorem d3_82 : decode (mB m3) 82 = .ok (.aload_n 0, 1) := by decide +kernel
theorem d3_83 : decode (mB m3) 83 = .ok (.iload_n 2, 1) := by decide +kernel
theorem d3_84 : decode (mB m3) 84 = .ok (.iconst 4, 1) := by decide +kernel
theorem d3_85 : decode (mB m3) 85 = .ok (.bipush 16, 2) := by decide +kernel
theorem d3_87 : decode (mB m3) 87 = .ok (.invokevirtual 36, 3) := by decide +kernel
theorem d3_90 : decode (mB m3) 90 = .ok (.putfield 44, 3) := by decide +kernel
theorem d3_93 : decode (mB m3) 93 = .ok (.aload_n 0, 1) := by decide +kernel
theorem d3_94 : decode (mB m3) 94 = .ok (.invokevirtual 47, 3) := by decide +kernel
theorem d3_97 : decode (mB m3) 97 = .ok (.return_, 1) := by decide +kernel
theorem d4_0 : decode (mB m4) 0 = .ok (.iload_n 1, 1) := by decide +kernel
theorem d4_1 : decode (mB m4) 1 = .ok (.ifCond .lt 8, 3) := by decide +kernel
theorem d4_4 : decode (mB m4) 4 = .ok (.iload_n 1, 1) := by decide +kernel
theorem d4_5 : decode (mB m4) 5 = .ok (.iconst 4, 1) := by decide +kernel
theorem d4_6 : decode (mB m4) 6 = .ok (.if_icmp .lt 5, 3) := by decide +kernel
theorem d4_9 : decode (mB m4) 9 = .ok (.iconst 0, 1) := by decide +kernel
theorem d4_10 : decode (mB m4) 10 = .ok (.ireturn, 1) := by decide +kernel
theorem d4_11 : decode (mB m4) 11 = .ok (.iload_n 2, 1) := by decide +kernel
theorem d4_12 : decode (mB m4) 12 = .ok (.ifCond .lt 15, 3) := by decide +kernel
theorem d4_15 : decode (mB m4) 15 = .ok (.iload_n 2, 1) := by decide +kernel
theorem d4_16 : decode (mB m4) 16 = .ok (.aload_n 0, 1) := by decide +kernel
theorem d4_17 : decode (mB m4) 17 = .ok (.getfield 44, 3) := by decide +kernel
theorem d4_20 : decode (mB m4) 20 = .ok (.if_icmp .ge 7, 3) := by decide +kernel
theorem d4_23 : decode (mB m4) 23 = .ok (.iconst 1, 1) := by decide +kernel
theorem d4_24 : decode (mB m4) 24 = .ok (.goto 4, 3) := by decide +kernel
theorem d4_27 : decode (mB m4) 27 = .ok (.iconst 0, 1) := by decide +kernel
theorem d4_28 : decode (mB m4) 28 = .ok (.ireturn, 1) := by decide +kernel
theorem d5_0 : decode (mB m5) 0 = .ok (.iload_n 1, 1) := by decide +kernel
theorem d5_1 : decode (mB m5) 1 = .ok (.bipush 16, 2) := by decide +kernel
theorem d5_3 : decode (mB m5) 3 = .ok (.imul, 1) := by decide +kernel
theorem d5_4 : decode (mB m5) 4 = .ok (.iload_n 2, 1) := by decide +kernel
theorem d5_5 : decode (mB m5) 5 = .ok (.iadd, 1) := by decide +kernel
theorem d5_6 : decode (mB m5) 6 = .ok (.ireturn, 1) := by decide +kernel
theorem d6_0 : decode (mB m6) 0 = .ok (.aload_n 0, 1) := by decide +kernel
theorem d6_1 : decode (mB m6) 1 = .ok (.iload_n 1, 1) := by decide +kernel
theorem d6_2 : decode (mB m6) 2 = .ok (.iload_n 2, 1) := by decide +kernel
theorem d6_3 : decode (mB m6) 3 = .ok (.invokevirtual 76, 3) := by decide +kernel
theorem d6_6 : decode (mB m6) 6 = .ok (.ifCond .ne 5, 3) := by decide +kernel
theorem d6_9 : decode (mB m6) 9 = .ok (.iconst (-1), 1) := by decide +kernel
theorem d6_10 : decode (mB m6) 10 = .ok (.ireturn, 1) := by decide +kernel
theorem d6_11 : decode (mB m6) 11 = .ok (.aload_n 0, 1) := by decide +kernel
theorem d6_12 : decode (mB m6) 12 = .ok (.iload_n 1, 1) := by decide +kernel
theorem d6_13 : decode (mB m6) 13 = .ok (.iload_n 2, 1) := by decide +kernel
theorem d6_14 : decode (mB m6) 14 = .ok (.invokevirtual 66, 3) := by decide +kernel
theorem d6_17 : decode (mB m6) 17 = .ok (.istore_n 3, 1) := by decide +kernel
theorem d6_18 : decode (mB m6) 18 = .ok (.aload_n 0, 1) := by decide +kernel
theorem d6_19 : decode (mB m6) 19 = .ok (.getfield 20, 3) := by decide +kernel
theorem d6_22 : decode (mB m6) 22 = .ok (.iload_n 3, 1) := by decide +kernel
theorem d6_23 : decode (mB m6) 23 = .ok (.iaload, 1) := by decide +kernel
theorem d6_24 : decode (mB m6) 24 = .ok (.ifCond .lt 6, 3) := by decide +kernel
theorem d6_27 : decode (mB m6) 27 = .ok (.bipush (-2), 2) := by decide +kernel
theorem d6_29 : decode (mB m6) 29 = .ok (.ireturn, 1) := by decide +kernel
theorem d6_30 : decode (mB m6) 30 = .ok (.iconst 0, 1) := by decide +kernel
theorem d6_31 : decode (mB m6) 31 = .ok (.ireturn, 1) := by decide +kernel
theorem d7_0 : decode (mB m7) 0 = .ok (.lload_n 1, 1) := by decide +kernel
theorem d7_1 : decode (mB m7) 1 = .ok (.lconst 0, 1) := by decide +kernel
theorem d7_2 : decode (mB m7) 2 = .ok (.lcmp, 1) := by decide +kernel
theorem d7_3 : decode (mB m7) 3 = .ok (.ifCond .ne 5, 3) := by decide +kernel
theorem d7_6 : decode (mB m7) 6 = .ok (.iconst (-1), 1) := by decide +kernel
theorem d7_7 : decode (mB m7) 7 = .ok (.ireturn, 1) := by decide +kernel
theorem d7_8 : decode (mB m7) 8 = .ok (.iconst 0, 1) := by decide +kernel
theorem d7_9 : decode (mB m7) 9 = .ok (.istore_n 3, 1) := by decide +kernel
theorem d7_10 : decode (mB m7) 10 = .ok (.lload_n 1, 1) := by decide +kernel
theorem d7_11 : decode (mB m7) 11 = .ok (.lstore 4, 2) := by decide +kernel
theorem d7_13 : decode (mB m7) 13 = .ok (.lload 4, 2) := by decide +kernel
theorem d7_15 : decode (mB m7) 15 = .ok (.ldc2_w 182, 3) := by decide +kernel
theorem d7_18 : decode (mB m7) 18 = .ok (.land, 1) := by decide +kernel
theorem d7_19 : decode (mB m7) 19 = .ok (.lconst 0, 1) := by decide +kernel
theorem d7_20 : decode (mB m7) 20 = .ok (.lcmp, 1) := by decide +kernel
theorem d7_21 : decode (mB m7) 21 = .ok (.ifCond .ne 13, 3) := by decide +kernel
theorem d7_24 : decode (mB m7) 24 = .ok (.iinc 3 32, 3) := by decide +kernel
theorem d7_27 : decode (mB m7) 27 = .ok (.lload 4, 2) := by decide +kernel
theorem d7_29 : decode (mB m7) 29 = .ok (.bipush 32, 2) := by decide +kernel
theorem d7_31 : decode (mB m7) 31 = .ok (.lushr, 1) := by decide +kernel
theorem d7_32 : decode (mB m7) 32 = .ok (.lstore 4, 2) := by decide +kernel
theorem d7_34 : decode (mB m7) 34 = .ok (.lload 4, 2) := by decide +kernel
theorem d7_36 : decode (mB m7) 36 = .ok (.ldc2_w 184, 3) := by decide +kernel
theorem d7_39 : decode (mB m7) 39 = .ok (.land, 1) := by decide +kernel
theorem d7_40 : decode (mB m7) 40 = .ok (.lconst 0, 1) := by decide +kernel
theorem d7_41 : decode (mB m7) 41 = .ok (.lcmp, 1) := by decide +kernel
theorem d7_42 : decode (mB m7) 42 = .ok (.ifCond .ne 13, 3) := by decide +kernel
theorem d7_45 : decode (mB m7) 45 = .ok (.iinc 3 16, 3) := by decide +kernel
theorem d7_48 : decode (mB m7) 48 = .ok (.lload 4, 2) := by decide +kernel
theorem d7_50 : decode (mB m7) 50 = .ok (.bipush 16, 2) := by decide +kernel
theorem d7_52 : decode (mB m7) 52 = .ok (.lushr, 1) := by decide +kernel
theorem d7_53 : decode (mB m7) 53 = .ok (.lstore 4, 2) := by decide +kernel
theorem d7_55 : decode (mB m7) 55 = .ok (.lload 4, 2) := by decide +kernel
theorem d7_57 : decode (mB m7) 57 = .ok (.ldc2_w 186, 3) := by decide +kernel
theorem d7_60 : decode (mB m7) 60 = .ok (.land, 1) := by decide +kernel
theorem d7_61 : decode (mB m7) 61 = .ok (.lconst 0, 1) := by decide +kernel
theorem d7_62 : decode (mB m7) 62 = .ok (.lcmp, 1) := by decide +kernel
theorem d7_63 : decode (mB m7) 63 = .ok (.ifCond .ne 13, 3) := by decide +kernel
theorem d7_66 : decode (mB m7) 66 = .ok (.iinc 3 8, 3) := by decide +kernel
theorem d7_69 : decode (mB m7) 69 = .ok (.lload 4, 2) := by decide +kernel
theorem d7_71 : decode (mB m7) 71 = .ok (.bipush 8, 2) := by decide +kernel
theorem d7_73 : decode (mB m7) 73 = .ok (.lushr, 1) := by decide +kernel
theorem d7_74 : decode (mB m7) 74 = .ok (.lstore 4, 2) := by decide +kernel
theorem d7_76 : decode (mB m7) 76 = .ok (.lload 4, 2) := by decide +kernel
theorem d7_78 : decode (mB m7) 78 = .ok (.ldc2_w 188, 3) := by decide +kernel
theorem d7_81 : decode (mB m7) 81 = .ok (.land, 1) := by decide +kernel
theorem d7_82 : decode (mB m7) 82 = .ok (.lconst 0, 1) := by decide +kernel
theorem d7_83 : decode (mB m7) 83 = .ok (.lcmp, 1) := by decide +kernel
theorem d7_84 : decode (mB m7) 84 = .ok (.ifCond .ne 12, 3) := by decide +kernel
theorem d7_87 : decode (mB m7) 87 = .ok (.iinc 3 4, 3) := by decide +kernel
theorem d7_90 : decode (mB m7) 90 = .ok (.lload 4, 2) := by decide +kernel
theorem d7_92 : decode (mB m7) 92 = .ok (.iconst 4, 1) := by decide +kernel
theorem d7_93 : decode (mB m7) 93 = .ok (.lushr, 1) := by decide +kernel
theorem d7_94 : decode (mB m7) 94 = .ok (.lstore 4, 2) := by decide +kernel
theorem d7_96 : decode (mB m7) 96 = .ok (.lload 4, 2) := by decide +kernel
theorem d7_98 : decode (mB m7) 98 = .ok (.ldc2_w 190, 3) := by decide +kernel
theorem d7_101 : decode (mB m7) 101 = .ok (.land, 1) := by decide +kernel
theorem d7_102 : decode (mB m7) 102 = .ok (.lconst 0, 1) := by decide +kernel
theorem d7_103 : decode (mB m7) 103 = .ok (.lcmp, 1) := by decide +kernel
theorem d7_104 : decode (mB m7) 104 = .ok (.ifCond .ne 12, 3) := by decide +kernel
theorem d7_107 : decode (mB m7) 107 = .ok (.iinc 3 2, 3) := by decide +kernel
theorem d7_110 : decode (mB m7) 110 = .ok (.lload 4, 2) := by decide +kernel
theorem d7_112 : decode (mB m7) 112 = .ok (.iconst 2, 1) := by decide +kernel
theorem d7_113 : decode (mB m7) 113 = .ok (.lushr, 1) := by decide +kernel
theorem d7_114 : decode (mB m7) 114 = .ok (.lstore 4, 2) := by decide +kernel
theorem d7_116 : decode (mB m7) 116 = .ok (.lload 4, 2) := by decide +kernel
theorem d7_118 : decode (mB m7) 118 = .ok (.lconst 1, 1) := by decide +kernel
theorem d7_119 : decode (mB m7) 119 = .ok (.land, 1) := by decide +kernel
theorem d7_120 : decode (mB m7) 120 = .ok (.lconst 0, 1) := by decide +kernel
theorem d7_121 : decode (mB m7) 121 = .ok (.lcmp, 1) := by decide +kernel
theorem d7_122 : decode (mB m7) 122 = .ok (.ifCond .ne 6, 3) := by decide +kernel
theorem d7_125 : decode (mB m7) 125 = .ok (.iinc 3 1, 3) := by decide +kernel
theorem d7_128 : decode (mB m7) 128 = .ok (.iload_n 3, 1) := by decide +kernel
theorem d7_129 : decode (mB m7) 129 = .ok (.ireturn, 1) := by decide +kernel
theorem d8_0 : decode (mB m8) 0 = .ok (.iload_n 1, 1) := by decide +kernel
theorem d8_1 : decode (mB m8) 1 = .ok (.ifCond .lt 15, 3) := by decide +kernel
theorem d8_4 : decode (mB m8) 4 = .ok (.iload_n 1, 1) := by decide +kernel
theorem d8_5 : decode (mB m8) 5 = .ok (.aload_n 0, 1) := by decide +kernel
theorem d8_6 : decode (mB m8) 6 = .ok (.getfield 40, 3) := by decide +kernel
theorem d8_9 : decode (mB m8) 9 = .ok (.if_icmp .ge 7, 3) := by decide +kernel
theorem d8_12 : decode (mB m8) 12 = .ok (.iconst 1, 1) := by decide +kernel
theorem d8_13 : decode (mB m8) 13 = .ok (.goto 4, 3) := by decide +kernel
theorem d8_16 : decode (mB m8) 16 = .ok (.iconst 0, 1) := by decide +kernel
theorem d8_17 : decode (mB m8) 17 = .ok (.ireturn, 1) := by decide +kernel
theorem d9_0 : decode (mB m9) 0 = .ok (.iload_n 1, 1) := by decide +kernel
theorem d9_1 : decode (mB m9) 1 = .ok (.ifCond .lt 9, 3) := by decide +kernel
theorem d9_4 : decode (mB m9) 4 = .ok (.iload_n 1, 1) := by decide +kernel
theorem d9_5 : decode (mB m9) 5 = .ok (.bipush 63, 2) := by decide +kernel
theorem d9_7 : decode (mB m9) 7 = .ok (.if_icmp .le 5, 3) := by decide +kernel
theorem d9_10 : decode (mB m9) 10 = .ok (.lconst 0, 1) := by decide +kernel
theorem d9_11 : decode (mB m9) 11 = .ok (.lreturn, 1) := by decide +kernel
theorem d9_12 : decode (mB m9) 12 = .ok (.lconst 1, 1) := by decide +kernel
theorem d9_13 : decode (mB m9) 13 = .ok (.iload_n 1, 1) := by decide +kernel
theorem d9_14 : decode (mB m9) 14 = .ok (.lshl, 1) := by decide +kernel
theorem d9_15 : decode (mB m9) 15 = .ok (.lreturn, 1) := by decide +kernel
theorem d10_0 : decode (mB m10) 0 = .ok (.aload_n 0, 1) := by decide +kernel
theorem d10_1 : decode (mB m10) 1 = .ok (.iload_n 1, 1) := by decide +kernel
theorem d10_2 : decode (mB m10) 2 = .ok (.invokevirtual 62, 3) := by decide +kernel
theorem d10_5 : decode (mB m10) 5 = .ok (.ifCond .ne 4, 3) := by decide +kernel
theorem d10_8 : decode (mB m10) 8 = .ok (.return_, 1) := by decide +kernel
theorem d10_9 : decode (mB m10) 9 = .ok (.aload_n 0, 1) := by decide +kernel
theorem d10_10 : decode (mB m10) 10 = .ok (.iload_n 1, 1) := by decide +kernel
theorem d10_11 : decode (mB m10) 11 = .ok (.invokevirtual 145, 3) := by decide +kernel
theorem d10_14 : decode (mB m10) 14 = .ok (.lstore_n 3, 1) := by decide +kernel
theorem d10_15 : decode (mB m10) 15 = .ok (.aload_n 0, 1) := by decide +kernel
theorem d10_16 : decode (mB m10) 16 = .ok (.aload_n 0, 1) := by decide +kernel
theorem d10_17 : decode (mB m10) 17 = .ok (.getfield 54, 3) := by decide +kernel
theorem d10_20 : decode (mB m10) 20 = .ok (.lload_n 3, 1) := by decide +kernel
theorem d10_21 : decode (mB m10) 21 = .ok (.ldc2_w 148, 3) := by decide +kernel
theorem d10_24 : decode (mB m10) 24 = .ok (.lxor, 1) := by decide +kernel
theorem d10_25 : decode (mB m10) 25 = .ok (.land, 1) := by decide +kernel
theorem d10_26 : decode (mB m10) 26 = .ok (.putfield 54, 3) := by decide +kernel
theorem d10_29 : decode (mB m10) 29 = .ok (.aload_n 0, 1) := by decide +kernel
theorem d10_30 : decode (mB m10) 30 = .ok (.aload_n 0, 1) := by decide +kernel
theorem d10_31 : decode (mB m10) 31 = .ok (.getfield 132, 3) := by decide +kernel
theorem d10_34 : decode (mB m10) 34 = .ok (.lload_n 3, 1) := by decide +kernel
theorem d10_35 : decode (mB m10) 35 = .ok (.ldc2_w 148, 3) := by decide +kernel
theorem d10_38 : decode (mB m10) 38 = .ok (.lxor, 1) := by decide +kernel
theorem d10_39 : decode (mB m10) 39 = .ok (.land, 1) := by decide +kernel
theorem d10_40 : decode (mB m10) 40 = .ok (.putfield 132, 3) := by decide +kernel
theorem d10_43 : decode (mB m10) 43 = .ok (.aload_n 0, 1) := by decide +kernel
theorem d10_44 : decode (mB m10) 44 = .ok (.aload_n 0, 1) := by decide +kernel
theorem d10_45 : decode (mB m10) 45 = .ok (.getfield 135, 3) := by decide +kernel
theorem d10_48 : decode (mB m10) 48 = .ok (.lload_n 3, 1) := by decide +kernel
theorem d10_49 : decode (mB m10) 49 = .ok (.ldc2_w 148, 3) := by decide +kernel
theorem d10_52 : decode (mB m10) 52 = .ok (.lxor, 1) := by decide +kernel
theorem d10_53 : decode (mB m10) 53 = .ok (.land, 1) := by decide +kernel
theorem d10_54 : decode (mB m10) 54 = .ok (.putfield 135, 3) := by decide +kernel
theorem d10_57 : decode (mB m10) 57 = .ok (.aload_n 0, 1) := by decide +kernel
theorem d10_58 : decode (mB m10) 58 = .ok (.aload_n 0, 1) := by decide +kernel
theorem d10_59 : decode (mB m10) 59 = .ok (.getfield 138, 3) := by decide +kernel
theorem d10_62 : decode (mB m10) 62 = .ok (.lload_n 3, 1) := by decide +kernel
theorem d10_63 : decode (mB m10) 63 = .ok (.ldc2_w 148, 3) := by decide +kernel
theorem d10_66 : decode (mB m10) 66 = .ok (.lxor, 1) := by decide +kernel
theorem d10_67 : decode (mB m10) 67 = .ok (.land, 1) := by decide +kernel
theorem d10_68 : decode (mB m10) 68 = .ok (.putfield 138, 3) := by decide +kernel
theorem d10_71 : decode (mB m10) 71 = .ok (.iload_n 2, 1) := by decide +kernel
theorem d10_72 : decode (mB m10) 72 = .ok (.ifCond .ne 16, 3) := by decide +kernel
theorem d10_75 : decode (mB m10) 75 = .ok (.aload_n 0, 1) := by decide +kernel
theorem d10_76 : decode (mB m10) 76 = .ok (.aload_n 0, 1) := by decide +kernel
theorem d10_77 : decode (mB m10) 77 = .ok (.getfield 54, 3) := by decide +kernel
theorem d10_80 : decode (mB m10) 80 = .ok (.lload_n 3, 1) := by decide +kernel
theorem d10_81 : decode (mB m10) 81 = .ok (.lor, 1) := by decide +kernel
theorem d10_82 : decode (mB m10) 82 = .ok (.putfield 54, 3) := by decide +kernel
theorem d10_85 : decode (mB m10) 85 = .ok (.goto 49, 3) := by decide +kernel
theorem d10_88 : decode (mB m10) 88 = .ok (.iload_n 2, 1) := by decide +kernel
theorem d10_89 : decode (mB m10) 89 = .ok (.iconst 1, 1) := by decide +kernel
theorem d10_90 : decode (mB m10) 90 = .ok (.if_icmp .ne 16, 3) := by decide +kernel
theorem d10_93 : decode (mB m10) 93 = .ok (.aload_n 0, 1) := by decide +kernel
theorem d10_94 : decode (mB m10) 94 = .ok (.aload_n 0, 1) := by decide +kernel
theorem d10_95 : decode (mB m10) 95 = .ok (.getfield 132, 3) := by decide +kernel
theorem d10_98 : decode (mB m10) 98 = .ok (.lload_n 3, 1) := by decide +kernel
theorem d10_99 : decode (mB m10) 99 = .ok (.lor, 1) := by decide +kernel
theorem d10_100 : decode (mB m10) 100 = .ok (.putfield 132, 3) := by decide +kernel
theorem d10_103 : decode (mB m10) 103 = .ok (.goto 31, 3) := by decide +kernel
theorem d10_106 : decode (mB m10) 106 = .ok (.iload_n 2, 1) := by decide +kernel
theorem d10_107 : decode (mB m10) 107 = .ok (.iconst 2, 1) := by decide +kernel
theorem d10_108 : decode (mB m10) 108 = .ok (.if_icmp .ne 16, 3) := by decide +kernel
theorem d10_111 : decode (mB m10) 111 = .ok (.aload_n 0, 1) := by decide +kernel
theorem d10_112 : decode (mB m10) 112 = .ok (.aload_n 0, 1) := by decide +kernel
theorem d10_113 : decode (mB m10) 113 = .ok (.getfield 135, 3) := by decide +kernel
theorem d10_116 : decode (mB m10) 116 = .ok (.lload_n 3, 1) := by decide +kernel
theorem d10_117 : decode (mB m10) 117 = .ok (.lor, 1) := by decide +kernel
theorem d10_118 : decode (mB m10) 118 = .ok (.putfield 135, 3) := by decide +kernel
theorem d10_121 : decode (mB m10) 121 = .ok (.goto 13, 3) := by decide +kernel
theorem d10_124 : decode (mB m10) 124 = .ok (.aload_n 0, 1) := by decide +kernel
theorem d10_125 : decode (mB m10) 125 = .ok (.aload_n 0, 1) := by decide +kernel
theorem d10_126 : decode (mB m10) 126 = .ok (.getfield 138, 3) := by decide +kernel
theorem d10_129 : decode (mB m10) 129 = .ok (.lload_n 3, 1) := by decide +kernel
theorem d10_130 : decode (mB m10) 130 = .ok (.lor, 1) := by decide +kernel
theorem d10_131 : decode (mB m10) 131 = .ok (.putfield 138, 3) := by decide +kernel
theorem d10_134 : decode (mB m10) 134 = .ok (.aload_n 0, 1) := by decide +kernel
theorem d10_135 : decode (mB m10) 135 = .ok (.getfield 7, 3) := by decide +kernel
theorem d10_138 : decode (mB m10) 138 = .ok (.iload_n 1, 1) := by decide +kernel
theorem d10_139 : decode (mB m10) 139 = .ok (.iload_n 2, 1) := by decide +kernel
theorem d10_140 : decode (mB m10) 140 = .ok (.i2b, 1) := by decide +kernel
theorem d10_141 : decode (mB m10) 141 = .ok (.bastore, 1) := by decide +kernel
theorem d10_142 : decode (mB m10) 142 = .ok (.aload_n 0, 1) := by decide +kernel
theorem d10_143 : decode (mB m10) 143 = .ok (.iconst 1, 1) := by decide +kernel
theorem d10_144 : decode (mB m10) 144 = .ok (.putfield 141, 3) := by decide +kernel
theorem d10_147 : decode (mB m10) 147 = .ok (.return_, 1) := by decide +kernel
theorem d11_0 : decode (mB m11) 0 = .ok (.aload_n 0, 1) := by decide +kernel
theorem d11_1 : decode (mB m11) 1 = .ok (.getfield 23, 3) := by decide +kernel
theorem d11_4 : decode (mB m11) 4 = .ok (.iload_n 2, 1) := by decide +kernel
theorem d11_5 : decode (mB m11) 5 = .ok (.iaload, 1) := by decide +kernel
theorem d11_6 : decode (mB m11) 6 = .ok (.istore_n 3, 1) := by decide +kernel
theorem d11_7 : decode (mB m11) 7 = .ok (.aload_n 0, 1) := by decide +kernel
theorem d11_8 : decode (mB m11) 8 = .ok (.getfield 29, 3) := by decide +kernel
theorem d11_11 : decode (mB m11) 11 = .ok (.iload_n 1, 1) := by decide +kernel
theorem d11_12 : decode (mB m11) 12 = .ok (.iconst (-1), 1) := by decide +kernel
theorem d11_13 : decode (mB m11) 13 = .ok (.iastore, 1) := by decide +kernel
theorem d11_14 : decode (mB m11) 14 = .ok (.aload_n 0, 1) := by decide +kernel
theorem d11_15 : decode (mB m11) 15 = .ok (.getfield 26, 3) := by decide +kernel
theorem d11_18 : decode (mB m11) 18 = .ok (.iload_n 1, 1) := by decide +kernel
theorem d11_19 : decode (mB m11) 19 = .ok (.iload_n 3, 1) := by decide +kernel
theorem d11_20 : decode (mB m11) 20 = .ok (.iastore, 1) := by decide +kernel
theorem d11_21 : decode (mB m11) 21 = .ok (.iload_n 3, 1) := by decide +kernel
theorem d11_22 : decode (mB m11) 22 = .ok (.ifCond .lt 16, 3) := by decide +kernel
theorem d11_25 : decode (mB m11) 25 = .ok (.iload_n 3, 1) := by decide +kernel
theorem d11_26 : decode (mB m11) 26 = .ok (.bipush 64, 2) := by decide +kernel
theorem d11_28 : decode (mB m11) 28 = .ok (.if_icmp .ge 10, 3) := by decide +kernel
theorem d11_31 : decode (mB m11) 31 = .ok (.aload_n 0, 1) := by decide +kernel
theorem d11_32 : decode (mB m11) 32 = .ok (.getfield 29, 3) := by decide +kernel
theorem d11_35 : decode (mB m11) 35 = .ok (.iload_n 3, 1) := by decide +kernel
theorem d11_36 : decode (mB m11) 36 = .ok (.iload_n 1, 1) := by decide +kernel
theorem d11_37 : decode (mB m11) 37 = .ok (.iastore, 1) := by decide +kernel
theorem d11_38 : decode (mB m11) 38 = .ok (.aload_n 0, 1) := by decide +kernel
theorem d11_39 : decode (mB m11) 39 = .ok (.getfield 23, 3) := by decide +kernel
theorem d11_42 : decode (mB m11) 42 = .ok (.iload_n 2, 1) := by decide +kernel
theorem d11_43 : decode (mB m11) 43 = .ok (.iload_n 1, 1) := by decide +kernel
theorem d11_44 : decode (mB m11) 44 = .ok (.iastore, 1) := by decide +kernel
theorem d11_45 : decode (mB m11) 45 = .ok (.aload_n 0, 1) := by decide +kernel
theorem d11_46 : decode (mB m11) 46 = .ok (.getfield 20, 3) := by decide +kernel
theorem d11_49 : decode (mB m11) 49 = .ok (.iload_n 1, 1) := by decide +kernel
theorem d11_50 : decode (mB m11) 50 = .ok (.iload_n 2, 1) := by decide +kernel
theorem d11_51 : decode (mB m11) 51 = .ok (.iastore, 1) := by decide +kernel
theorem d11_52 : decode (mB m11) 52 = .ok (.return_, 1) := by decide +kernel
theorem d12_0 : decode (mB m12) 0 = .ok (.iload_n 1, 1) := by decide +kernel
theorem d12_1 : decode (mB m12) 1 = .ok (.ifCond .lt 17, 3) := by decide +kernel
theorem d12_4 : decode (mB m12) 4 = .ok (.iload_n 1, 1) := by decide +kernel
theorem d12_5 : decode (mB m12) 5 = .ok (.bipush 64, 2) := by decide +kernel
theorem d12_7 : decode (mB m12) 7 = .ok (.if_icmp .ge 11, 3) := by decide +kernel
theorem d12_10 : decode (mB m12) 10 = .ok (.aload_n 0, 1) := by decide +kernel
theorem d12_11 : decode (mB m12) 11 = .ok (.iload_n 2, 1) := by decide +kernel
theorem d12_12 : decode (mB m12) 12 = .ok (.invokevirtual 62, 3) := by decide +kernel
theorem d12_15 : decode (mB m12) 15 = .ok (.ifCond .ne 4, 3) := by decide +kernel
theorem d12_18 : decode (mB m12) 18 = .ok (.return_, 1) := by decide +kernel
theorem d12_19 : decode (mB m12) 19 = .ok (.aload_n 0, 1) := by decide +kernel
theorem d12_20 : decode (mB m12) 20 = .ok (.iload_n 1, 1) := by decide +kernel
theorem d12_21 : decode (mB m12) 21 = .ok (.iload_n 2, 1) := by decide +kernel
theorem d12_22 : decode (mB m12) 22 = .ok (.invokevirtual 153, 3) := by decide +kernel
theorem d12_25 : decode (mB m12) 25 = .ok (.aload_n 0, 1) := by decide +kernel
theorem d12_26 : decode (mB m12) 26 = .ok (.getfield 17, 3) := by decide +kernel
theorem d12_29 : decode (mB m12) 29 = .ok (.iload_n 2, 1) := by decide +kernel
theorem d12_30 : decode (mB m12) 30 = .ok (.aload_n 0, 1) := by decide +kernel
theorem d12_31 : decode (mB m12) 31 = .ok (.getfield 17, 3) := by decide +kernel
theorem d12_34 : decode (mB m12) 34 = .ok (.iload_n 2, 1) := by decide +kernel
theorem d12_35 : decode (mB m12) 35 = .ok (.iaload, 1) := by decide +kernel
theorem d12_36 : decode (mB m12) 36 = .ok (.iconst 1, 1) := by decide +kernel
theorem d12_37 : decode (mB m12) 37 = .ok (.iadd, 1) := by decide +kernel
theorem d12_38 : decode (mB m12) 38 = .ok (.iastore, 1) := by decide +kernel
theorem d12_39 : decode (mB m12) 39 = .ok (.return_, 1) := by decide +kernel
theorem d13_0 : decode (mB m13) 0 = .ok (.aload_n 0, 1) := by decide +kernel
theorem d13_1 : decode (mB m13) 1 = .ok (.iload_n 1, 1) := by decide +kernel
theorem d13_2 : decode (mB m13) 2 = .ok (.iload_n 2, 1) := by decide +kernel
theorem d13_3 : decode (mB m13) 3 = .ok (.invokevirtual 50, 3) := by decide +kernel
theorem d13_6 : decode (mB m13) 6 = .ok (.istore 4, 2) := by decide +kernel
theorem d13_8 : decode (mB m13) 8 = .ok (.iload 4, 2) := by decide +kernel
theorem d13_10 : decode (mB m13) 10 = .ok (.ifCond .eq 6, 3) := by decide +kernel
theorem d13_13 : decode (mB m13) 13 = .ok (.iload 4, 2) := by decide +kernel
theorem d13_15 : decode (mB m13) 15 = .ok (.ireturn, 1) := by decide +kernel
theorem d13_16 : decode (mB m13) 16 = .ok (.aload_n 0, 1) := by decide +kernel
theorem d13_17 : decode (mB m13) 17 = .ok (.getfield 54, 3) := by decide +kernel
theorem d13_20 : decode (mB m13) 20 = .ok (.lconst 0, 1) := by decide +kernel
theorem d13_21 : decode (mB m13) 21 = .ok (.lcmp, 1) := by decide +kernel
theorem d13_22 : decode (mB m13) 22 = .ok (.ifCond .ne 6, 3) := by decide +kernel
theorem d13_25 : decode (mB m13) 25 = .ok (.bipush (-4), 2) := by decide +kernel
theorem d13_27 : decode (mB m13) 27 = .ok (.ireturn, 1) := by decide +kernel
theorem d13_28 : decode (mB m13) 28 = .ok (.aload_n 0, 1) := by decide +kernel
theorem d13_29 : decode (mB m13) 29 = .ok (.aload_n 0, 1) := by decide +kernel
theorem d13_30 : decode (mB m13) 30 = .ok (.getfield 54, 3) := by decide +kernel
theorem d13_33 : decode (mB m13) 33 = .ok (.invokevirtual 58, 3) := by decide +kernel
theorem d13_36 : decode (mB m13) 36 = .ok (.istore 5, 2) := by decide +kernel
theorem d13_38 : decode (mB m13) 38 = .ok (.aload_n 0, 1) := by decide +kernel
theorem d13_39 : decode (mB m13) 39 = .ok (.iload 5, 2) := by decide +kernel
theorem d13_41 : decode (mB m13) 41 = .ok (.invokevirtual 62, 3) := by decide +kernel
theorem d13_44 : decode (mB m13) 44 = .ok (.ifCond .ne 6, 3) := by decide +kernel
theorem d13_47 : decode (mB m13) 47 = .ok (.bipush (-4), 2) := by decide +kernel
theorem d13_49 : decode (mB m13) 49 = .ok (.ireturn, 1) := by decide +kernel
theorem d13_50 : decode (mB m13) 50 = .ok (.aload_n 0, 1) := by decide +kernel
theorem d13_51 : decode (mB m13) 51 = .ok (.iload_n 1, 1) := by decide +kernel
theorem d13_52 : decode (mB m13) 52 = .ok (.iload_n 2, 1) := by decide +kernel
theorem d13_53 : decode (mB m13) 53 = .ok (.invokevirtual 66, 3) := by decide +kernel
theorem d13_56 : decode (mB m13) 56 = .ok (.istore 6, 2) := by decide +kernel
theorem d13_58 : decode (mB m13) 58 = .ok (.aload_n 0, 1) := by decide +kernel
theorem d13_59 : decode (mB m13) 59 = .ok (.iload 5, 2) := by decide +kernel
theorem d13_61 : decode (mB m13) 61 = .ok (.iconst 1, 1) := by decide +kernel
theorem d13_62 : decode (mB m13) 62 = .ok (.invokevirtual 69, 3) := by decide +kernel
theorem d13_65 : decode (mB m13) 65 = .ok (.aload_n 0, 1) := by decide +kernel
theorem d13_66 : decode (mB m13) 66 = .ok (.getfield 13, 3) := by decide +kernel
theorem d13_69 : decode (mB m13) 69 = .ok (.iload 5, 2) := by decide +kernel
theorem d13_71 : decode (mB m13) 71 = .ok (.iload_n 3, 1) := by decide +kernel
theorem d13_72 : decode (mB m13) 72 = .ok (.iastore, 1) := by decide +kernel
theorem d13_73 : decode (mB m13) 73 = .ok (.aload_n 0, 1) := by decide +kernel
theorem d13_74 : decode (mB m13) 74 = .ok (.getfield 17, 3) := by decide +kernel
theorem d13_77 : decode (mB m13) 77 = .ok (.iload 5, 2) := by decide +kernel
theorem d13_79 : decode (mB m13) 79 = .ok (.iconst 0, 1) := by decide +kernel
theorem d13_80 : decode (mB m13) 80 = .ok (.iastore, 1) := by decide +kernel
theorem d13_81 : decode (mB m13) 81 = .ok (.aload_n 0, 1) := by decide +kernel
theorem d13_82 : decode (mB m13) 82 = .ok (.iload 6, 2) := by decide +kernel
theorem d13_84 : decode (mB m13) 84 = .ok (.iload 5, 2) := by decide +kernel
theorem d13_86 : decode (mB m13) 86 = .ok (.invokevirtual 73, 3) := by decide +kernel
theorem d13_89 : decode (mB m13) 89 = .ok (.iload 5, 2) := by decide +kernel
theorem d13_91 : decode (mB m13) 91 = .ok (.ireturn, 1) := by decide +kernel
theorem d14_0 : decode (mB m14) 0 = .ok (.aload_n 0, 1) := by decide +kernel
theorem d14_1 : decode (mB m14) 1 = .ok (.iload_n 1, 1) := by decide +kernel
theorem d14_2 : decode (mB m14) 2 = .ok (.iload_n 2, 1) := by decide +kernel
theorem d14_3 : decode (mB m14) 3 = .ok (.invokevirtual 76, 3) := by decide +kernel
theorem d14_6 : decode (mB m14) 6 = .ok (.ifCond .ne 5, 3) := by decide +kernel
theorem d14_9 : decode (mB m14) 9 = .ok (.iconst (-1), 1) := by decide +kernel
theorem d14_10 : decode (mB m14) 10 = .ok (.ireturn, 1) := by decide +kernel
theorem d14_11 : decode (mB m14) 11 = .ok (.aload_n 0, 1) := by decide +kernel
theorem d14_12 : decode (mB m14) 12 = .ok (.iload_n 3, 1) := by decide +kernel
theorem d14_13 : decode (mB m14) 13 = .ok (.iload 4, 2) := by decide +kernel
theorem d14_15 : decode (mB m14) 15 = .ok (.invokevirtual 76, 3) := by decide +kernel
theorem d14_18 : decode (mB m14) 18 = .ok (.ifCond .ne 5, 3) := by decide +kernel
theorem d14_21 : decode (mB m14) 21 = .ok (.iconst (-1), 1) := by decide +kernel
theorem d14_22 : decode (mB m14) 22 = .ok (.ireturn, 1) := by decide +kernel
theorem d14_23 : decode (mB m14) 23 = .ok (.aload_n 0, 1) := by decide +kernel
theorem d14_24 : decode (mB m14) 24 = .ok (.iload_n 1, 1) := by decide +kernel
theorem d14_25 : decode (mB m14) 25 = .ok (.iload_n 2, 1) := by decide +kernel
theorem d14_26 : decode (mB m14) 26 = .ok (.invokevirtual 66, 3) := by decide +kernel
theorem d14_29 : decode (mB m14) 29 = .ok (.istore 5, 2) := by decide +kernel
theorem d14_31 : decode (mB m14) 31 = .ok (.aload_n 0, 1) := by decide +kernel
theorem d14_32 : decode (mB m14) 32 = .ok (.getfield 20, 3) := by decide +kernel
theorem d14_35 : decode (mB m14) 35 = .ok (.iload 5, 2) := by decide +kernel
theorem d14_37 : decode (mB m14) 37 = .ok (.iaload, 1) := by decide +kernel
theorem d14_38 : decode (mB m14) 38 = .ok (.ifCond .lt 6, 3) := by decide +kernel
theorem d14_41 : decode (mB m14) 41 = .ok (.bipush (-2), 2) := by decide +kernel
theorem d14_43 : decode (mB m14) 43 = .ok (.ireturn, 1) := by decide +kernel
theorem d14_44 : decode (mB m14) 44 = .ok (.aload_n 0, 1) := by decide +kernel
theorem d14_45 : decode (mB m14) 45 = .ok (.iload_n 3, 1) := by decide +kernel
theorem d14_46 : decode (mB m14) 46 = .ok (.iload 4, 2) := by decide +kernel
theorem d14_48 : decode (mB m14) 48 = .ok (.invokevirtual 66, 3) := by decide +kernel
theorem d14_51 : decode (mB m14) 51 = .ok (.istore 6, 2) := by decide +kernel
theorem d14_53 : decode (mB m14) 53 = .ok (.aload_n 0, 1) := by decide +kernel
theorem d14_54 : decode (mB m14) 54 = .ok (.getfield 20, 3) := by decide +kernel
theorem d14_57 : decode (mB m14) 57 = .ok (.iload 6, 2) := by decide +kernel
theorem d14_59 : decode (mB m14) 59 = .ok (.iaload, 1) := by decide +kernel
theorem d14_60 : decode (mB m14) 60 = .ok (.istore 7, 2) := by decide +kernel
theorem d14_62 : decode (mB m14) 62 = .ok (.aload_n 0, 1) := by decide +kernel
theorem d14_63 : decode (mB m14) 63 = .ok (.iload 7, 2) := by decide +kernel
theorem d14_65 : decode (mB m14) 65 = .ok (.invokevirtual 62, 3) := by decide +kernel
theorem d14_68 : decode (mB m14) 68 = .ok (.ifCond .ne 6, 3) := by decide +kernel
theorem d14_71 : decode (mB m14) 71 = .ok (.bipush (-3), 2) := by decide +kernel
theorem d14_73 : decode (mB m14) 73 = .ok (.ireturn, 1) := by decide +kernel
theorem d14_74 : decode (mB m14) 74 = .ok (.aload_n 0, 1) := by decide +kernel
theorem d14_75 : decode (mB m14) 75 = .ok (.iload 5, 2) := by decide +kernel
theorem d14_77 : decode (mB m14) 77 = .ok (.iload 7, 2) := by decide +kernel
theorem d14_79 : decode (mB m14) 79 = .ok (.invokevirtual 73, 3) := by decide +kernel
theorem d14_82 : decode (mB m14) 82 = .ok (.iload 7, 2) := by decide +kernel
theorem d14_84 : decode (mB m14) 84 = .ok (.ireturn, 1) := by decide +kernel
theorem d15_0 : decode (mB m15) 0 = .ok (.aload_n 0, 1) := by decide +kernel
theorem d15_1 : decode (mB m15) 1 = .ok (.iload_n 1, 1) := by decide +kernel
theorem d15_2 : decode (mB m15) 2 = .ok (.invokevirtual 62, 3) := by decide +kernel
theorem d15_5 : decode (mB m15) 5 = .ok (.ifCond .ne 5, 3) := by decide +kernel
theorem d15_8 : decode (mB m15) 8 = .ok (.iconst 0, 1) := by decide +kernel
theorem d15_9 : decode (mB m15) 9 = .ok (.ireturn, 1) := by decide +kernel
theorem d15_10 : decode (mB m15) 10 = .ok (.aload_n 0, 1) := by decide +kernel
theorem d15_11 : decode (mB m15) 11 = .ok (.getfield 17, 3) := by decide +kernel
theorem d15_14 : decode (mB m15) 14 = .ok (.iload_n 1, 1) := by decide +kernel
theorem d15_15 : decode (mB m15) 15 = .ok (.iaload, 1) := by decide +kernel
theorem d15_16 : decode (mB m15) 16 = .ok (.ireturn, 1) := by decide +kernel
theorem d16_0 : decode (mB m16) 0 = .ok (.aload_n 0, 1) := by decide +kernel
theorem d16_1 : decode (mB m16) 1 = .ok (.iload_n 1, 1) := by decide +kernel
theorem d16_2 : decode (mB m16) 2 = .ok (.iload_n 2, 1) := by decide +kernel
theorem d16_3 : decode (mB m16) 3 = .ok (.invokevirtual 76, 3) := by decide +kernel
theorem d16_6 : decode (mB m16) 6 = .ok (.ifCond .ne 5, 3) := by decide +kernel
theorem d16_9 : decode (mB m16) 9 = .ok (.iconst (-1), 1) := by decide +kernel
theorem d16_10 : decode (mB m16) 10 = .ok (.ireturn, 1) := by decide +kernel
theorem d16_11 : decode (mB m16) 11 = .ok (.aload_n 0, 1) := by decide +kernel
theorem d16_12 : decode (mB m16) 12 = .ok (.iload_n 1, 1) := by decide +kernel
theorem d16_13 : decode (mB m16) 13 = .ok (.iload_n 2, 1) := by decide +kernel
theorem d16_14 : decode (mB m16) 14 = .ok (.invokevirtual 66, 3) := by decide +kernel
theorem d16_17 : decode (mB m16) 17 = .ok (.istore_n 3, 1) := by decide +kernel
theorem d16_18 : decode (mB m16) 18 = .ok (.aload_n 0, 1) := by decide +kernel
theorem d16_19 : decode (mB m16) 19 = .ok (.getfield 20, 3) := by decide +kernel
theorem d16_22 : decode (mB m16) 22 = .ok (.iload_n 3, 1) := by decide +kernel
theorem d16_23 : decode (mB m16) 23 = .ok (.iaload, 1) := by decide +kernel
theorem d16_24 : decode (mB m16) 24 = .ok (.istore 4, 2) := by decide +kernel
theorem d16_26 : decode (mB m16) 26 = .ok (.aload_n 0, 1) := by decide +kernel
theorem d16_27 : decode (mB m16) 27 = .ok (.iload 4, 2) := by decide +kernel
theorem d16_29 : decode (mB m16) 29 = .ok (.invokevirtual 62, 3) := by decide +kernel
theorem d16_32 : decode (mB m16) 32 = .ok (.ifCond .ne 5, 3) := by decide +kernel
theorem d16_35 : decode (mB m16) 35 = .ok (.iconst (-1), 1) := by decide +kernel
theorem d16_36 : decode (mB m16) 36 = .ok (.ireturn, 1) := by decide +kernel
theorem d16_37 : decode (mB m16) 37 = .ok (.iload 4, 2) := by decide +kernel
theorem d16_39 : decode (mB m16) 39 = .ok (.ireturn, 1) := by decide +kernel
theorem d17_0 : decode (mB m17) 0 = .ok (.aload_n 0, 1) := by decide +kernel
theorem d17_1 : decode (mB m17) 1 = .ok (.iload_n 1, 1) := by decide +kernel
theorem d17_2 : decode (mB m17) 2 = .ok (.iload_n 2, 1) := by decide +kernel
theorem d17_3 : decode (mB m17) 3 = .ok (.invokevirtual 88, 3) := by decide +kernel
theorem d17_6 : decode (mB m17) 6 = .ok (.istore 4, 2) := by decide +kernel
theorem d17_8 : decode (mB m17) 8 = .ok (.iload 4, 2) := by decide +kernel
theorem d17_10 : decode (mB m17) 10 = .ok (.ifCond .ge 5, 3) := by decide +kernel
theorem d17_13 : decode (mB m17) 13 = .ok (.iconst 0, 1) := by decide +kernel
theorem d17_14 : decode (mB m17) 14 = .ok (.ireturn, 1) := by decide +kernel
theorem d17_15 : decode (mB m17) 15 = .ok (.aload_n 0, 1) := by decide +kernel
theorem d17_16 : decode (mB m17) 16 = .ok (.getfield 13, 3) := by decide +kernel
theorem d17_19 : decode (mB m17) 19 = .ok (.iload 4, 2) := by decide +kernel
theorem d17_21 : decode (mB m17) 21 = .ok (.iload_n 3, 1) := by decide +kernel
theorem d17_22 : decode (mB m17) 22 = .ok (.iastore, 1) := by decide +kernel
theorem d17_23 : decode (mB m17) 23 = .ok (.iconst 1, 1) := by decide +kernel
theorem d17_24 : decode (mB m17) 24 = .ok (.ireturn, 1) := by decide +kernel
theorem d18_0 : decode (mB m18) 0 = .ok (.aload_n 0, 1) := by decide +kernel
theorem d18_1 : decode (mB m18) 1 = .ok (.iload_n 1, 1) := by decide +kernel
theorem d18_2 : decode (mB m18) 2 = .ok (.iload_n 2, 1) := by decide +kernel
theorem d18_3 : decode (mB m18) 3 = .ok (.invokevirtual 88, 3) := by decide +kernel
theorem d18_6 : decode (mB m18) 6 = .ok (.istore_n 3, 1) := by decide +kernel
theorem d18_7 : decode (mB m18) 7 = .ok (.iload_n 3, 1) := by decide +kernel
theorem d18_8 : decode (mB m18) 8 = .ok (.ifCond .ge 5, 3) := by decide +kernel
theorem d18_11 : decode (mB m18) 11 = .ok (.iconst 0, 1) := by decide +kernel
theorem d18_12 : decode (mB m18) 12 = .ok (.ireturn, 1) := by decide +kernel
theorem d18_13 : decode (mB m18) 13 = .ok (.aload_n 0, 1) := by decide +kernel
theorem d18_14 : decode (mB m18) 14 = .ok (.getfield 13, 3) := by decide +kernel
theorem d18_17 : decode (mB m18) 17 = .ok (.iload_n 3, 1) := by decide +kernel
theorem d18_18 : decode (mB m18) 18 = .ok (.iaload, 1) := by decide +kernel
theorem d18_19 : decode (mB m18) 19 = .ok (.ireturn, 1) := by decide +kernel
theorem d19_0 : decode (mB m19) 0 = .ok (.iload_n 1, 1) := by decide +kernel
theorem d19_1 : decode (mB m19) 1 = .ok (.ifCond .lt 9, 3) := by decide +kernel
theorem d19_4 : decode (mB m19) 4 = .ok (.iload_n 1, 1) := by decide +kernel
theorem d19_5 : decode (mB m19) 5 = .ok (.bipush 64, 2) := by decide +kernel
theorem d19_7 : decode (mB m19) 7 = .ok (.if_icmp .lt 5, 3) := by decide +kernel
theorem d19_10 : decode (mB m19) 10 = .ok (.iconst (-1), 1) := by decide +kernel
theorem d19_11 : decode (mB m19) 11 = .ok (.ireturn, 1) := by decide +kernel
theorem d19_12 : decode (mB m19) 12 = .ok (.aload_n 0, 1) := by decide +kernel
theorem d19_13 : decode (mB m19) 13 = .ok (.getfield 20, 3) := by decide +kernel
theorem d19_16 : decode (mB m19) 16 = .ok (.iload_n 1, 1) := by decide +kernel
theorem d19_17 : decode (mB m19) 17 = .ok (.iaload, 1) := by decide +kernel
theorem d19_18 : decode (mB m19) 18 = .ok (.istore_n 2, 1) := by decide +kernel
theorem d19_19 : decode (mB m19) 19 = .ok (.iload_n 2, 1) := by decide +kernel
theorem d19_20 : decode (mB m19) 20 = .ok (.ifCond .lt 9, 3) := by decide +kernel
theorem d19_23 : decode (mB m19) 23 = .ok (.iload_n 2, 1) := by decide +kernel
theorem d19_24 : decode (mB m19) 24 = .ok (.bipush 64, 2) := by decide +kernel
theorem d19_26 : decode (mB m19) 26 = .ok (.if_icmp .lt 5, 3) := by decide +kernel
theorem d19_29 : decode (mB m19) 29 = .ok (.iconst (-1), 1) := by decide +kernel
theorem d19_30 : decode (mB m19) 30 = .ok (.ireturn, 1) := by decide +kernel
theorem d19_31 : decode (mB m19) 31 = .ok (.aload_n 0, 1) := by decide +kernel
theorem d19_32 : decode (mB m19) 32 = .ok (.getfield 29, 3) := by decide +kernel
theorem d19_35 : decode (mB m19) 35 = .ok (.iload_n 1, 1) := by decide +kernel
theorem d19_36 : decode (mB m19) 36 = .ok (.iaload, 1) := by decide +kernel
theorem d19_37 : decode (mB m19) 37 = .ok (.istore_n 3, 1) := by decide +kernel
theorem d19_38 : decode (mB m19) 38 = .ok (.aload_n 0, 1) := by decide +kernel
theorem d19_39 : decode (mB m19) 39 = .ok (.getfield 26, 3) := by decide +kernel
theorem d19_42 : decode (mB m19) 42 = .ok (.iload_n 1, 1) := by decide +kernel
theorem d19_43 : decode (mB m19) 43 = .ok (.iaload, 1) := by decide +kernel
theorem d19_44 : decode (mB m19) 44 = .ok (.istore 4, 2) := by decide +kernel
theorem d19_46 : decode (mB m19) 46 = .ok (.iload_n 3, 1) := by decide +kernel
theorem d19_47 : decode (mB m19) 47 = .ok (.ifCond .lt 20, 3) := by decide +kernel
theorem d19_50 : decode (mB m19) 50 = .ok (.iload_n 3, 1) := by decide +kernel
theorem d19_51 : decode (mB m19) 51 = .ok (.bipush 64, 2) := by decide +kernel
theorem d19_53 : decode (mB m19) 53 = .ok (.if_icmp .ge 14, 3) := by decide +kernel
theorem d19_56 : decode (mB m19) 56 = .ok (.aload_n 0, 1) := by decide +kernel
theorem d19_57 : decode (mB m19) 57 = .ok (.getfield 26, 3) := by decide +kernel
theorem d19_60 : decode (mB m19) 60 = .ok (.iload_n 3, 1) := by decide +kernel
theorem d19_61 : decode (mB m19) 61 = .ok (.iload 4, 2) := by decide +kernel
theorem d19_63 : decode (mB m19) 63 = .ok (.iastore, 1) := by decide +kernel
theorem d19_64 : decode (mB m19) 64 = .ok (.goto 11, 3) := by decide +kernel
theorem d19_67 : decode (mB m19) 67 = .ok (.aload_n 0, 1) := by decide +kernel
theorem d19_68 : decode (mB m19) 68 = .ok (.getfield 23, 3) := by decide +kernel
theorem d19_71 : decode (mB m19) 71 = .ok (.iload_n 2, 1) := by decide +kernel
theorem d19_72 : decode (mB m19) 72 = .ok (.iload 4, 2) := by decide +kernel
theorem d19_74 : decode (mB m19) 74 = .ok (.iastore, 1) := by decide +kernel
theorem d19_75 : decode (mB m19) 75 = .ok (.iload 4, 2) := by decide +kernel
theorem d19_77 : decode (mB m19) 77 = .ok (.ifCond .lt 18, 3) := by decide +kernel
theorem d19_80 : decode (mB m19) 80 = .ok (.iload 4, 2) := by decide +kernel
theorem d19_82 : decode (mB m19) 82 = .ok (.bipush 64, 2) := by decide +kernel
theorem d19_84 : decode (mB m19) 84 = .ok (.if_icmp .ge 11, 3) := by decide +kernel
theorem d19_87 : decode (mB m19) 87 = .ok (.aload_n 0, 1) := by decide +kernel
theorem d19_88 : decode (mB m19) 88 = .ok (.getfield 29, 3) := by decide +kernel
theorem d19_91 : decode (mB m19) 91 = .ok (.iload 4, 2) := by decide +kernel
theorem d19_93 : decode (mB m19) 93 = .ok (.iload_n 3, 1) := by decide +kernel
theorem d19_94 : decode (mB m19) 94 = .ok (.iastore, 1) := by decide +kernel
theorem d19_95 : decode (mB m19) 95 = .ok (.aload_n 0, 1) := by decide +kernel
theorem d19_96 : decode (mB m19) 96 = .ok (.getfield 29, 3) := by decide +kernel
theorem d19_99 : decode (mB m19) 99 = .ok (.iload_n 1, 1) := by decide +kernel
theorem d19_100 : decode (mB m19) 100 = .ok (.iconst (-1), 1) := by decide +kernel
theorem d19_101 : decode (mB m19) 101 = .ok (.iastore, 1) := by decide +kernel
theorem d19_102 : decode (mB m19) 102 = .ok (.aload_n 0, 1) := by decide +kernel
theorem d19_103 : decode (mB m19) 103 = .ok (.getfield 26, 3) := by decide +kernel
theorem d19_106 : decode (mB m19) 106 = .ok (.iload_n 1, 1) := by decide +kernel
theorem d19_107 : decode (mB m19) 107 = .ok (.iconst (-1), 1) := by decide +kernel
theorem d19_108 : decode (mB m19) 108 = .ok (.iastore, 1) := by decide +kernel
theorem d19_109 : decode (mB m19) 109 = .ok (.aload_n 0, 1) := by decide +kernel
theorem d19_110 : decode (mB m19) 110 = .ok (.getfield 20, 3) := by decide +kernel
theorem d19_113 : decode (mB m19) 113 = .ok (.iload_n 1, 1) := by decide +kernel
theorem d19_114 : decode (mB m19) 114 = .ok (.iconst (-1), 1) := by decide +kernel
theorem d19_115 : decode (mB m19) 115 = .ok (.iastore, 1) := by decide +kernel
theorem d19_116 : decode (mB m19) 116 = .ok (.iload_n 2, 1) := by decide +kernel
theorem d19_117 : decode (mB m19) 117 = .ok (.ireturn, 1) := by decide +kernel
theorem d20_0 : decode (mB m20) 0 = .ok (.aload_n 0, 1) := by decide +kernel
theorem d20_1 : decode (mB m20) 1 = .ok (.iload_n 1, 1) := by decide +kernel
theorem d20_2 : decode (mB m20) 2 = .ok (.invokevirtual 156, 3) := by decide +kernel
theorem d20_5 : decode (mB m20) 5 = .ok (.istore_n 2, 1) := by decide +kernel
theorem d20_6 : decode (mB m20) 6 = .ok (.aload_n 0, 1) := by decide +kernel
theorem d20_7 : decode (mB m20) 7 = .ok (.iload_n 2, 1) := by decide +kernel
theorem d20_8 : decode (mB m20) 8 = .ok (.invokevirtual 62, 3) := by decide +kernel
theorem d20_11 : decode (mB m20) 11 = .ok (.ifCond .ne 5, 3) := by decide +kernel
theorem d20_14 : decode (mB m20) 14 = .ok (.iconst (-1), 1) := by decide +kernel
theorem d20_15 : decode (mB m20) 15 = .ok (.ireturn, 1) := by decide +kernel
theorem d20_16 : decode (mB m20) 16 = .ok (.aload_n 0, 1) := by decide +kernel
theorem d20_17 : decode (mB m20) 17 = .ok (.getfield 17, 3) := by decide +kernel
theorem d20_20 : decode (mB m20) 20 = .ok (.iload_n 2, 1) := by decide +kernel
theorem d20_21 : decode (mB m20) 21 = .ok (.aload_n 0, 1) := by decide +kernel
theorem d20_22 : decode (mB m20) 22 = .ok (.getfield 17, 3) := by decide +kernel
theorem d20_25 : decode (mB m20) 25 = .ok (.iload_n 2, 1) := by decide +kernel
theorem d20_26 : decode (mB m20) 26 = .ok (.iaload, 1) := by decide +kernel
theorem d20_27 : decode (mB m20) 27 = .ok (.iconst 1, 1) := by decide +kernel
theorem d20_28 : decode (mB m20) 28 = .ok (.isub, 1) := by decide +kernel
theorem d20_29 : decode (mB m20) 29 = .ok (.iastore, 1) := by decide +kernel
theorem d20_30 : decode (mB m20) 30 = .ok (.iload_n 2, 1) := by decide +kernel
theorem d20_31 : decode (mB m20) 31 = .ok (.ireturn, 1) := by decide +kernel
theorem d21_0 : decode (mB m21) 0 = .ok (.aload_n 0, 1) := by decide +kernel
theorem d21_1 : decode (mB m21) 1 = .ok (.iload_n 1, 1) := by decide +kernel
theorem d21_2 : decode (mB m21) 2 = .ok (.invokevirtual 62, 3) := by decide +kernel
theorem d21_5 : decode (mB m21) 5 = .ok (.ifCond .ne 4, 3) := by decide +kernel
theorem d21_8 : decode (mB m21) 8 = .ok (.return_, 1) := by decide +kernel
theorem d21_9 : decode (mB m21) 9 = .ok (.aload_n 0, 1) := by decide +kernel
theorem d21_10 : decode (mB m21) 10 = .ok (.getfield 13, 3) := by decide +kernel
theorem d21_13 : decode (mB m21) 13 = .ok (.iload_n 1, 1) := by decide +kernel
theorem d21_14 : decode (mB m21) 14 = .ok (.iconst 0, 1) := by decide +kernel
theorem d21_15 : decode (mB m21) 15 = .ok (.iastore, 1) := by decide +kernel
theorem d21_16 : decode (mB m21) 16 = .ok (.aload_n 0, 1) := by decide +kernel
theorem d21_17 : decode (mB m21) 17 = .ok (.getfield 17, 3) := by decide +kernel
theorem d21_20 : decode (mB m21) 20 = .ok (.iload_n 1, 1) := by decide +kernel
theorem d21_21 : decode (mB m21) 21 = .ok (.iconst 0, 1) := by decide +kernel
theorem d21_22 : decode (mB m21) 22 = .ok (.iastore, 1) := by decide +kernel
theorem d21_23 : decode (mB m21) 23 = .ok (.aload_n 0, 1) := by decide +kernel
theorem d21_24 : decode (mB m21) 24 = .ok (.getfield 23, 3) := by decide +kernel
theorem d21_27 : decode (mB m21) 27 = .ok (.iload_n 1, 1) := by decide +kernel
theorem d21_28 : decode (mB m21) 28 = .ok (.iconst (-1), 1) := by decide +kernel
theorem d21_29 : decode (mB m21) 29 = .ok (.iastore, 1) := by decide +kernel
theorem d21_30 : decode (mB m21) 30 = .ok (.aload_n 0, 1) := by decide +kernel
theorem d21_31 : decode (mB m21) 31 = .ok (.iload_n 1, 1) := by decide +kernel
theorem d21_32 : decode (mB m21) 32 = .ok (.iconst 0, 1) := by decide +kernel
theorem d21_33 : decode (mB m21) 33 = .ok (.invokevirtual 69, 3) := by decide +kernel
theorem d21_36 : decode (mB m21) 36 = .ok (.return_, 1) := by decide +kernel
theorem d22_0 : decode (mB m22) 0 = .ok (.aload_n 0, 1) := by decide +kernel
theorem d22_1 : decode (mB m22) 1 = .ok (.iload_n 1, 1) := by decide +kernel
theorem d22_2 : decode (mB m22) 2 = .ok (.iload_n 2, 1) := by decide +kernel
theorem d22_3 : decode (mB m22) 3 = .ok (.invokevirtual 76, 3) := by decide +kernel
theorem d22_6 : decode (mB m22) 6 = .ok (.ifCond .ne 5, 3) := by decide +kernel
theorem d22_9 : decode (mB m22) 9 = .ok (.iconst (-1), 1) := by decide +kernel
theorem d22_10 : decode (mB m22) 10 = .ok (.ireturn, 1) := by decide +kernel
theorem d22_11 : decode (mB m22) 11 = .ok (.aload_n 0, 1) := by decide +kernel
theorem d22_12 : decode (mB m22) 12 = .ok (.iload_n 1, 1) := by decide +kernel
theorem d22_13 : decode (mB m22) 13 = .ok (.iload_n 2, 1) := by decide +kernel
theorem d22_14 : decode (mB m22) 14 = .ok (.invokevirtual 66, 3) := by decide +kernel
theorem d22_17 : decode (mB m22) 17 = .ok (.istore_n 3, 1) := by decide +kernel
theorem d22_18 : decode (mB m22) 18 = .ok (.aload_n 0, 1) := by decide +kernel
theorem d22_19 : decode (mB m22) 19 = .ok (.getfield 20, 3) := by decide +kernel
theorem d22_22 : decode (mB m22) 22 = .ok (.iload_n 3, 1) := by decide +kernel
theorem d22_23 : decode (mB m22) 23 = .ok (.iaload, 1) := by decide +kernel
theorem d22_24 : decode (mB m22) 24 = .ok (.ifCond .ge 6, 3) := by decide +kernel
theorem d22_27 : decode (mB m22) 27 = .ok (.bipush (-3), 2) := by decide +kernel
theorem d22_29 : decode (mB m22) 29 = .ok (.ireturn, 1) := by decide +kernel
theorem d22_30 : decode (mB m22) 30 = .ok (.aload_n 0, 1) := by decide +kernel
theorem d22_31 : decode (mB m22) 31 = .ok (.iload_n 3, 1) := by decide +kernel
theorem d22_32 : decode (mB m22) 32 = .ok (.invokevirtual 80, 3) := by decide +kernel
theorem d22_35 : decode (mB m22) 35 = .ok (.istore 4, 2) := by decide +kernel
theorem d22_37 : decode (mB m22) 37 = .ok (.aload_n 0, 1) := by decide +kernel
theorem d22_38 : decode (mB m22) 38 = .ok (.iload 4, 2) := by decide +kernel
theorem d22_40 : decode (mB m22) 40 = .ok (.invokevirtual 62, 3) := by decide +kernel
theorem d22_43 : decode (mB m22) 43 = .ok (.ifCond .ne 6, 3) := by decide +kernel
theorem d22_46 : decode (mB m22) 46 = .ok (.bipush (-3), 2) := by decide +kernel
theorem d22_48 : decode (mB m22) 48 = .ok (.ireturn, 1) := by decide +kernel
theorem d22_49 : decode (mB m22) 49 = .ok (.aload_n 0, 1) := by decide +kernel
theorem d22_50 : decode (mB m22) 50 = .ok (.getfield 17, 3) := by decide +kernel
theorem d22_53 : decode (mB m22) 53 = .ok (.iload 4, 2) := by decide +kernel
theorem d22_55 : decode (mB m22) 55 = .ok (.iaload, 1) := by decide +kernel
theorem d22_56 : decode (mB m22) 56 = .ok (.ifCond .gt 9, 3) := by decide +kernel
theorem d22_59 : decode (mB m22) 59 = .ok (.aload_n 0, 1) := by decide +kernel
theorem d22_60 : decode (mB m22) 60 = .ok (.iload 4, 2) := by decide +kernel
theorem d22_62 : decode (mB m22) 62 = .ok (.invokevirtual 84, 3) := by decide +kernel
theorem d22_65 : decode (mB m22) 65 = .ok (.iload 4, 2) := by decide +kernel
theorem d22_67 : decode (mB m22) 67 = .ok (.ireturn, 1) := by decide +kernel
theorem d23_0 : decode (mB m23) 0 = .ok (.aload_n 0, 1) := by decide +kernel
theorem d23_1 : decode (mB m23) 1 = .ok (.iload_n 1, 1) := by decide +kernel
theorem d23_2 : decode (mB m23) 2 = .ok (.invokevirtual 62, 3) := by decide +kernel
theorem d23_5 : decode (mB m23) 5 = .ok (.ifCond .ne 5, 3) := by decide +kernel
theorem d23_8 : decode (mB m23) 8 = .ok (.iconst (-1), 1) := by decide +kernel
theorem d23_9 : decode (mB m23) 9 = .ok (.ireturn, 1) := by decide +kernel
theorem d23_10 : decode (mB m23) 10 = .ok (.aload_n 0, 1) := by decide +kernel
theorem d23_11 : decode (mB m23) 11 = .ok (.getfield 7, 3) := by decide +kernel
theorem d23_14 : decode (mB m23) 14 = .ok (.iload_n 1, 1) := by decide +kernel
theorem d23_15 : decode (mB m23) 15 = .ok (.baload, 1) := by decide +kernel
theorem d23_16 : decode (mB m23) 16 = .ok (.ireturn, 1) := by decide +kernel
theorem d24_0 : decode (mB m24) 0 = .ok (.aload_n 0, 1) := by decide +kernel
theorem d24_1 : decode (mB m24) 1 = .ok (.iload_n 1, 1) := by decide +kernel
theorem d24_2 : decode (mB m24) 2 = .ok (.invokevirtual 62, 3) := by decide +kernel
theorem d24_5 : decode (mB m24) 5 = .ok (.ifCond .ne 5, 3) := by decide +kernel
theorem d24_8 : decode (mB m24) 8 = .ok (.iconst 0, 1) := by decide +kernel
theorem d24_9 : decode (mB m24) 9 = .ok (.ireturn, 1) := by decide +kernel
theorem d24_10 : decode (mB m24) 10 = .ok (.aload_n 0, 1) := by decide +kernel
theorem d24_11 : decode (mB m24) 11 = .ok (.getfield 7, 3) := by decide +kernel
theorem d24_14 : decode (mB m24) 14 = .ok (.iload_n 1, 1) := by decide +kernel
theorem d24_15 : decode (mB m24) 15 = .ok (.baload, 1) := by decide +kernel
theorem d24_16 : decode (mB m24) 16 = .ok (.istore_n 2, 1) := by decide +kernel
theorem d24_17 : decode (mB m24) 17 = .ok (.iload_n 2, 1) := by decide +kernel
theorem d24_18 : decode (mB m24) 18 = .ok (.ifCond .eq 8, 3) := by decide +kernel
theorem d24_21 : decode (mB m24) 21 = .ok (.iload_n 2, 1) := by decide +kernel
theorem d24_22 : decode (mB m24) 22 = .ok (.iconst 3, 1) := by decide +kernel
theorem d24_23 : decode (mB m24) 23 = .ok (.if_icmp .ne 5, 3) := by decide +kernel
theorem d24_26 : decode (mB m24) 26 = .ok (.iconst 0, 1) := by decide +kernel
theorem d24_27 : decode (mB m24) 27 = .ok (.ireturn, 1) := by decide +kernel
theorem d24_28 : decode (mB m24) 28 = .ok (.aload_n 0, 1) := by decide +kernel
theorem d24_29 : decode (mB m24) 29 = .ok (.getfield 13, 3) := by decide +kernel
theorem d24_32 : decode (mB m24) 32 = .ok (.iload_n 1, 1) := by decide +kernel
theorem d24_33 : decode (mB m24) 33 = .ok (.iaload, 1) := by decide +kernel
theorem d24_34 : decode (mB m24) 34 = .ok (.ireturn, 1) := by decide +kernel
theorem d25_0 : decode (mB m25) 0 = .ok (.lload_n 1, 1) := by decide +kernel
theorem d25_1 : decode (mB m25) 1 = .ok (.lload_n 1, 1) := by decide +kernel
theorem d25_2 : decode (mB m25) 2 = .ok (.iconst 1, 1) := by decide +kernel
theorem d25_3 : decode (mB m25) 3 = .ok (.lushr, 1) := by decide +kernel
theorem d25_4 : decode (mB m25) 4 = .ok (.ldc2_w 162, 3) := by decide +kernel
theorem d25_7 : decode (mB m25) 7 = .ok (.land, 1) := by decide +kernel
theorem d25_8 : decode (mB m25) 8 = .ok (.lsub, 1) := by decide +kernel
theorem d25_9 : decode (mB m25) 9 = .ok (.lstore_n 3, 1) := by decide +kernel
theorem d25_10 : decode (mB m25) 10 = .ok (.lload_n 3, 1) := by decide +kernel
theorem d25_11 : decode (mB m25) 11 = .ok (.ldc2_w 192, 3) := by decide +kernel
theorem d25_14 : decode (mB m25) 14 = .ok (.land, 1) := by decide +kernel
theorem d25_15 : decode (mB m25) 15 = .ok (.lload_n 3, 1) := by decide +kernel
theorem d25_16 : decode (mB m25) 16 = .ok (.iconst 2, 1) := by decide +kernel
theorem d25_17 : decode (mB m25) 17 = .ok (.lushr, 1) := by decide +kernel
theorem d25_18 : decode (mB m25) 18 = .ok (.ldc2_w 192, 3) := by decide +kernel
theorem d25_21 : decode (mB m25) 21 = .ok (.land, 1) := by decide +kernel
theorem d25_22 : decode (mB m25) 22 = .ok (.ladd, 1) := by decide +kernel
theorem d25_23 : decode (mB m25) 23 = .ok (.lstore_n 3, 1) := by decide +kernel
theorem d25_24 : decode (mB m25) 24 = .ok (.lload_n 3, 1) := by decide +kernel
theorem d25_25 : decode (mB m25) 25 = .ok (.lload_n 3, 1) := by decide +kernel
theorem d25_26 : decode (mB m25) 26 = .ok (.iconst 4, 1) := by decide +kernel
theorem d25_27 : decode (mB m25) 27 = .ok (.lushr, 1) := by decide +kernel
theorem d25_28 : decode (mB m25) 28 = .ok (.ladd, 1) := by decide +kernel
theorem d25_29 : decode (mB m25) 29 = .ok (.ldc2_w 194, 3) := by decide +kernel
theorem d25_32 : decode (mB m25) 32 = .ok (.land, 1) := by decide +kernel
theorem d25_33 : decode (mB m25) 33 = .ok (.lstore_n 3, 1) := by decide +kernel
theorem d25_34 : decode (mB m25) 34 = .ok (.lload_n 3, 1) := by decide +kernel
theorem d25_35 : decode (mB m25) 35 = .ok (.ldc2_w 166, 3) := by decide +kernel
theorem d25_38 : decode (mB m25) 38 = .ok (.lmul, 1) := by decide +kernel
theorem d25_39 : decode (mB m25) 39 = .ok (.bipush 56, 2) := by decide +kernel
theorem d25_41 : decode (mB m25) 41 = .ok (.lushr, 1) := by decide +kernel
theorem d25_42 : decode (mB m25) 42 = .ok (.l2i, 1) := by decide +kernel
theorem d25_43 : decode (mB m25) 43 = .ok (.ireturn, 1) := by decide +kernel
theorem d26_0 : decode (mB m26) 0 = .ok (.aload_n 0, 1) := by decide +kernel
theorem d26_1 : decode (mB m26) 1 = .ok (.aload_n 0, 1) := by decide +kernel
theorem d26_2 : decode (mB m26) 2 = .ok (.getfield 54, 3) := by decide +kernel
theorem d26_5 : decode (mB m26) 5 = .ok (.invokevirtual 123, 3) := by decide +kernel
theorem d26_8 : decode (mB m26) 8 = .ok (.ireturn, 1) := by decide +kernel
theorem d27_0 : decode (mB m27) 0 = .ok (.new 7, 3) := by decide +kernel
theorem d27_3 : decode (mB m27) 3 = .ok (.dup, 1) := by decide +kernel
theorem d27_4 : decode (mB m27) 4 = .ok (.iload_n 0, 1) := by decide +kernel
theorem d27_5 : decode (mB m27) 5 = .ok (.iload_n 1, 1) := by decide +kernel
theorem d27_6 : decode (mB m27) 6 = .ok (.invokespecial 9, 3) := by decide +kernel
theorem d27_9 : decode (mB m27) 9 = .ok (.astore 6, 2) := by decide +kernel
theorem d27_11 : decode (mB m27) 11 = .ok (.iload_n 0, 1) := by decide +kernel
theorem d27_12 : decode (mB m27) 12 = .ok (.bipush 8, 2) := by decide +kernel
theorem d27_14 : decode (mB m27) 14 = .ok (.if_icmp .ge 8, 3) := by decide +kernel
theorem d27_17 : decode (mB m27) 17 = .ok (.bipush 8, 2) := by decide +kernel
theorem d27_19 : decode (mB m27) 19 = .ok (.goto 15, 3) := by decide +kernel
theorem d27_22 : decode (mB m27) 22 = .ok (.iload_n 0, 1) := by decide +kernel
theorem d27_23 : decode (mB m27) 23 = .ok (.bipush 64, 2) := by decide +kernel
theorem d27_25 : decode (mB m27) 25 = .ok (.if_icmp .le 8, 3) := by decide +kernel
theorem d27_28 : decode (mB m27) 28 = .ok (.bipush 64, 2) := by decide +kernel
theorem d27_30 : decode (mB m27) 30 = .ok (.goto 4, 3) := by decide +kernel
theorem d27_33 : decode (mB m27) 33 = .ok (.iload_n 0, 1) := by decide +kernel
theorem d27_34 : decode (mB m27) 34 = .ok (.istore 7, 2) := by decide +kernel
theorem d27_36 : decode (mB m27) 36 = .ok (.iload_n 1, 1) := by decide +kernel
theorem d27_37 : decode (mB m27) 37 = .ok (.iconst 4, 1) := by decide +kernel
theorem d27_38 : decode (mB m27) 38 = .ok (.if_icmp .ge 7, 3) := by decide +kernel
theorem d27_41 : decode (mB m27) 41 = .ok (.iconst 4, 1) := by decide +kernel
theorem d27_42 : decode (mB m27) 42 = .ok (.goto 15, 3) := by decide +kernel
theorem d27_45 : decode (mB m27) 45 = .ok (.iload_n 1, 1) := by decide +kernel
theorem d27_46 : decode (mB m27) 46 = .ok (.bipush 16, 2) := by decide +kernel
theorem d27_48 : decode (mB m27) 48 = .ok (.if_icmp .le 8, 3) := by decide +kernel
theorem d27_51 : decode (mB m27) 51 = .ok (.bipush 16, 2) := by decide +kernel
theorem d27_53 : decode (mB m27) 53 = .ok (.goto 4, 3) := by decide +kernel
theorem d27_56 : decode (mB m27) 56 = .ok (.iload_n 1, 1) := by decide +kernel
theorem d27_57 : decode (mB m27) 57 = .ok (.istore 8, 2) := by decide +kernel
theorem d27_59 : decode (mB m27) 59 = .ok (.iload_n 2, 1) := by decide +kernel
theorem d27_60 : decode (mB m27) 60 = .ok (.ifCond .lt 22, 3) := by decide +kernel
theorem d27_63 : decode (mB m27) 63 = .ok (.iload_n 2, 1) := by decide +kernel
theorem d27_64 : decode (mB m27) 64 = .ok (.iconst 3, 1) := by decide +kernel
theorem d27_65 : decode (mB m27) 65 = .ok (.if_icmp .gt 17, 3) := by decide +kernel
theorem d27_68 : decode (mB m27) 68 = .ok (.iload_n 3, 1) := by decide +kernel
theorem d27_69 : decode (mB m27) 69 = .ok (.ifCond .lt 13, 3) := by decide +kernel
theorem d27_72 : decode (mB m27) 72 = .ok (.iload_n 3, 1) := by decide +kernel
theorem d27_73 : decode (mB m27) 73 = .ok (.iload 8, 2) := by decide +kernel
theorem d27_75 : decode (mB m27) 75 = .ok (.if_icmp .ge 7, 3) := by decide +kernel
theorem d27_78 : decode (mB m27) 78 = .ok (.iconst 1, 1) := by decide +kernel
theorem d27_79 : decode (mB m27) 79 = .ok (.goto 4, 3) := by decide +kernel
theorem d27_82 : decode (mB m27) 82 = .ok (.iconst 0, 1) := by decide +kernel
theorem d27_83 : decode (mB m27) 83 = .ok (.istore 9, 2) := by decide +kernel
theorem d27_85 : decode (mB m27) 85 = .ok (.iload_n 2, 1) := by decide +kernel
theorem d27_86 : decode (mB m27) 86 = .ok (.ifCond .ne 11, 3) := by decide +kernel
theorem d27_89 : decode (mB m27) 89 = .ok (.iload_n 3, 1) := by decide +kernel
theorem d27_90 : decode (mB m27) 90 = .ok (.ifCond .ne 7, 3) := by decide +kernel
theorem d27_93 : decode (mB m27) 93 = .ok (.iconst 1, 1) := by decide +kernel
theorem d27_94 : decode (mB m27) 94 = .ok (.goto 4, 3) := by decide +kernel
theorem d27_97 : decode (mB m27) 97 = .ok (.iconst 0, 1) := by decide +kernel
theorem d27_98 : decode (mB m27) 98 = .ok (.istore 10, 2) := by decide +kernel
theorem d27_100 : decode (mB m27) 100 = .ok (.iload 9, 2) := by decide +kernel
theorem d27_102 : decode (mB m27) 102 = .ok (.ifCond .eq 12, 3) := by decide +kernel
theorem d27_105 : decode (mB m27) 105 = .ok (.iload 10, 2) := by decide +kernel
theorem d27_107 : decode (mB m27) 107 = .ok (.ifCond .ne 7, 3) := by decide +kernel
theorem d27_110 : decode (mB m27) 110 = .ok (.iconst 1, 1) := by decide +kernel
theorem d27_111 : decode (mB m27) 111 = .ok (.goto 4, 3) := by decide +kernel
theorem d27_114 : decode (mB m27) 114 = .ok (.iconst 0, 1) := by decide +kernel
theorem d27_115 : decode (mB m27) 115 = .ok (.istore 11, 2) := by decide +kernel
theorem d27_117 : decode (mB m27) 117 = .ok (.aload 6, 2) := by decide +kernel
theorem d27_119 : decode (mB m27) 119 = .ok (.iconst 0, 1) := by decide +kernel
theorem d27_120 : decode (mB m27) 120 = .ok (.iconst 0, 1) := by decide +kernel
theorem d27_121 : decode (mB m27) 121 = .ok (.iload 4, 2) := by decide +kernel
theorem d27_123 : decode (mB m27) 123 = .ok (.invokevirtual 12, 3) := by decide +kernel
theorem d27_126 : decode (mB m27) 126 = .ok (.ifCond .eq 5, 3) := by decide +kernel
theorem d27_129 : decode (mB m27) 129 = .ok (.iconst 0, 1) := by decide +kernel
theorem d27_130 : decode (mB m27) 130 = .ok (.ireturn, 1) := by decide +kernel
theorem d27_131 : decode (mB m27) 131 = .ok (.aload 6, 2) := by decide +kernel
theorem d27_133 : decode (mB m27) 133 = .ok (.iload_n 2, 1) := by decide +kernel
theorem d27_134 : decode (mB m27) 134 = .ok (.iload_n 3, 1) := by decide +kernel
theorem d27_135 : decode (mB m27) 135 = .ok (.iconst 0, 1) := by decide +kernel
theorem d27_136 : decode (mB m27) 136 = .ok (.iconst 0, 1) := by decide +kernel
theorem d27_137 : decode (mB m27) 137 = .ok (.invokevirtual 16, 3) := by decide +kernel
theorem d27_140 : decode (mB m27) 140 = .ok (.istore 12, 2) := by decide +kernel
theorem d27_142 : decode (mB m27) 142 = .ok (.iload 9, 2) := by decide +kernel
theorem d27_144 : decode (mB m27) 144 = .ok (.ifCond .ne 7, 3) := by decide +kernel
theorem d27_147 : decode (mB m27) 147 = .ok (.iconst (-1), 1) := by decide +kernel
theorem d27_148 : decode (mB m27) 148 = .ok (.goto 14, 3) := by decide +kernel
theorem d27_151 : decode (mB m27) 151 = .ok (.iload 10, 2) := by decide +kernel
theorem d27_153 : decode (mB m27) 153 = .ok (.ifCond .eq 8, 3) := by decide +kernel
theorem d27_156 : decode (mB m27) 156 = .ok (.bipush (-2), 2) := by decide +kernel
theorem d27_158 : decode (mB m27) 158 = .ok (.goto 4, 3) := by decide +kernel
theorem d27_161 : decode (mB m27) 161 = .ok (.iconst 0, 1) := by decide +kernel
theorem d27_162 : decode (mB m27) 162 = .ok (.istore 13, 2) := by decide +kernel
theorem d27_164 : decode (mB m27) 164 = .ok (.iload 12, 2) := by decide +kernel
theorem d27_166 : decode (mB m27) 166 = .ok (.iload 13, 2) := by decide +kernel
theorem d27_168 : decode (mB m27) 168 = .ok (.if_icmp .eq 5, 3) := by decide +kernel
theorem d27_171 : decode (mB m27) 171 = .ok (.iconst 0, 1) := by decide +kernel
theorem d27_172 : decode (mB m27) 172 = .ok (.ireturn, 1) := by decide +kernel
theorem d27_173 : decode (mB m27) 173 = .ok (.aload 6, 2) := by decide +kernel
theorem d27_175 : decode (mB m27) 175 = .ok (.iconst 0, 1) := by decide +kernel
theorem d27_176 : decode (mB m27) 176 = .ok (.invokevirtual 20, 3) := by decide +kernel
theorem d27_179 : decode (mB m27) 179 = .ok (.iload 11, 2) := by decide +kernel
theorem d27_181 : decode (mB m27) 181 = .ok (.ifCond .eq 7, 3) := by decide +kernel
theorem d27_184 : decode (mB m27) 184 = .ok (.iconst 2, 1) := by decide +kernel
theorem d27_185 : decode (mB m27) 185 = .ok (.goto 4, 3) := by decide +kernel
theorem d27_188 : decode (mB m27) 188 = .ok (.iconst 1, 1) := by decide +kernel
theorem d27_189 : decode (mB m27) 189 = .ok (.if_icmp .eq 5, 3) := by decide +kernel
theorem d27_192 : decode (mB m27) 192 = .ok (.iconst 0, 1) := by decide +kernel
theorem d27_193 : decode (mB m27) 193 = .ok (.ireturn, 1) := by decide +kernel
theorem d27_194 : decode (mB m27) 194 = .ok (.aload 6, 2) := by decide +kernel
theorem d27_196 : decode (mB m27) 196 = .ok (.iload_n 2, 1) := by decide +kernel
theorem d27_197 : decode (mB m27) 197 = .ok (.iload_n 3, 1) := by decide +kernel
theorem d27_198 : decode (mB m27) 198 = .ok (.iload 5, 2) := by decide +kernel
theorem d27_200 : decode (mB m27) 200 = .ok (.invokevirtual 24, 3) := by decide +kernel
theorem d27_203 : decode (mB m27) 203 = .ok (.istore 14, 2) := by decide +kernel
theorem d27_205 : decode (mB m27) 205 = .ok (.iload 14, 2) := by decide +kernel
theorem d27_207 : decode (mB m27) 207 = .ok (.iload 9, 2) := by decide +kernel
theorem d27_209 : decode (mB m27) 209 = .ok (.if_icmp .eq 5, 3) := by decide +kernel
theorem d27_212 : decode (mB m27) 212 = .ok (.iconst 0, 1) := by decide +kernel
theorem d27_213 : decode (mB m27) 213 = .ok (.ireturn, 1) := by decide +kernel
theorem d27_214 : decode (mB m27) 214 = .ok (.iload 9, 2) := by decide +kernel
theorem d27_216 : decode (mB m27) 216 = .ok (.ifCond .eq 8, 3) := by decide +kernel
theorem d27_219 : decode (mB m27) 219 = .ok (.iload 5, 2) := by decide +kernel
theorem d27_221 : decode (mB m27) 221 = .ok (.goto 5, 3) := by decide +kernel
theorem d27_224 : decode (mB m27) 224 = .ok (.iload 4, 2) := by decide +kernel
theorem d27_226 : decode (mB m27) 226 = .ok (.istore 15, 2) := by decide +kernel
theorem d27_228 : decode (mB m27) 228 = .ok (.aload 6, 2) := by decide +kernel
theorem d27_230 : decode (mB m27) 230 = .ok (.iconst 0, 1) := by decide +kernel
theorem d27_231 : decode (mB m27) 231 = .ok (.iconst 0, 1) := by decide +kernel
theorem d27_232 : decode (mB m27) 232 = .ok (.invokevirtual 28, 3) := by decide +kernel
theorem d27_235 : decode (mB m27) 235 = .ok (.iload 15, 2) := by decide +kernel
theorem d27_237 : decode (mB m27) 237 = .ok (.if_icmp .eq 5, 3) := by decide +kernel
theorem d27_240 : decode (mB m27) 240 = .ok (.iconst 0, 1) := by decide +kernel
theorem d27_241 : decode (mB m27) 241 = .ok (.ireturn, 1) := by decide +kernel
theorem d27_242 : decode (mB m27) 242 = .ok (.aload 6, 2) := by decide +kernel
theorem d27_244 : decode (mB m27) 244 = .ok (.iconst 0, 1) := by decide +kernel
theorem d27_245 : decode (mB m27) 245 = .ok (.iconst 0, 1) := by decide +kernel
theorem d27_246 : decode (mB m27) 246 = .ok (.invokevirtual 32, 3) := by decide +kernel
theorem d27_249 : decode (mB m27) 249 = .ok (.ifCond .eq 5, 3) := by decide +kernel
theorem d27_252 : decode (mB m27) 252 = .ok (.iconst 0, 1) := by decide +kernel
theorem d27_253 : decode (mB m27) 253 = .ok (.ireturn, 1) := by decide +kernel
theorem d27_254 : decode (mB m27) 254 = .ok (.aload 6, 2) := by decide +kernel
theorem d27_256 : decode (mB m27) 256 = .ok (.iconst 0, 1) := by decide +kernel
theorem d27_257 : decode (mB m27) 257 = .ok (.invokevirtual 35, 3) := by decide +kernel
theorem d27_260 : decode (mB m27) 260 = .ok (.iload 11, 2) := by decide +kernel
theorem d27_262 : decode (mB m27) 262 = .ok (.ifCond .eq 7, 3) := by decide +kernel
theorem d27_265 : decode (mB m27) 265 = .ok (.iconst 1, 1) := by decide +kernel
theorem d27_266 : decode (mB m27) 266 = .ok (.goto 4, 3) := by decide +kernel
theorem d27_269 : decode (mB m27) 269 = .ok (.iconst 0, 1) := by decide +kernel
theorem d27_270 : decode (mB m27) 270 = .ok (.if_icmp .eq 5, 3) := by decide +kernel
theorem d27_273 : decode (mB m27) 273 = .ok (.iconst 0, 1) := by decide +kernel
theorem d27_274 : decode (mB m27) 274 = .ok (.ireturn, 1) := by decide +kernel
theorem d27_275 : decode (mB m27) 275 = .ok (.aload 6, 2) := by decide +kernel
theorem d27_277 : decode (mB m27) 277 = .ok (.iconst 0, 1) := by decide +kernel
theorem d27_278 : decode (mB m27) 278 = .ok (.invokevirtual 38, 3) := by decide +kernel
theorem d27_281 : decode (mB m27) 281 = .ok (.iload 11, 2) := by decide +kernel
theorem d27_283 : decode (mB m27) 283 = .ok (.ifCond .eq 8, 3) := by decide +kernel
theorem d27_286 : decode (mB m27) 286 = .ok (.iload 15, 2) := by decide +kernel
theorem d27_288 : decode (mB m27) 288 = .ok (.goto 4, 3) := by decide +kernel
theorem d27_291 : decode (mB m27) 291 = .ok (.iconst 0, 1) := by decide +kernel
theorem d27_292 : decode (mB m27) 292 = .ok (.if_icmp .eq 5, 3) := by decide +kernel
theorem d27_295 : decode (mB m27) 295 = .ok (.iconst 0, 1) := by decide +kernel
theorem d27_296 : decode (mB m27) 296 = .ok (.ireturn, 1) := by decide +kernel
theorem d27_297 : decode (mB m27) 297 = .ok (.aload 6, 2) := by decide +kernel
theorem d27_299 : decode (mB m27) 299 = .ok (.invokevirtual 41, 3) := by decide +kernel
theorem d27_302 : decode (mB m27) 302 = .ok (.iload 11, 2) := by decide +kernel
theorem d27_304 : decode (mB m27) 304 = .ok (.ifCond .eq 10, 3) := by decide +kernel
theorem d27_307 : decode (mB m27) 307 = .ok (.iload 7, 2) := by decide +kernel
theorem d27_309 : decode (mB m27) 309 = .ok (.iconst 1, 1) := by decide +kernel
theorem d27_310 : decode (mB m27) 310 = .ok (.isub, 1) := by decide +kernel
theorem d27_311 : decode (mB m27) 311 = .ok (.goto 5, 3) := by decide +kernel
theorem d27_314 : decode (mB m27) 314 = .ok (.iload 7, 2) := by decide +kernel
theorem d27_316 : decode (mB m27) 316 = .ok (.if_icmp .eq 5, 3) := by decide +kernel
theorem d27_319 : decode (mB m27) 319 = .ok (.iconst 0, 1) := by decide +kernel
theorem d27_320 : decode (mB m27) 320 = .ok (.ireturn, 1) := by decide +kernel
theorem d27_321 : decode (mB m27) 321 = .ok (.aload 6, 2) := by decide +kernel
theorem d27_323 : decode (mB m27) 323 = .ok (.iload_n 2, 1) := by decide +kernel
theorem d27_324 : decode (mB m27) 324 = .ok (.iload_n 3, 1) := by decide +kernel
theorem d27_325 : decode (mB m27) 325 = .ok (.invokevirtual 28, 3) := by decide +kernel
theorem d27_328 : decode (mB m27) 328 = .ok (.iload 11, 2) := by decide +kernel
theorem d27_330 : decode (mB m27) 330 = .ok (.ifCond .eq 8, 3) := by decide +kernel
theorem d27_333 : decode (mB m27) 333 = .ok (.iload 15, 2) := by decide +kernel
theorem d27_335 : decode (mB m27) 335 = .ok (.goto 4, 3) := by decide +kernel
theorem d27_338 : decode (mB m27) 338 = .ok (.iconst 0, 1) := by decide +kernel
theorem d27_339 : decode (mB m27) 339 = .ok (.if_icmp .eq 5, 3) := by decide +kernel
theorem d27_342 : decode (mB m27) 342 = .ok (.iconst 0, 1) := by decide +kernel
theorem d27_343 : decode (mB m27) 343 = .ok (.ireturn, 1) := by decide +kernel
theorem d27_344 : decode (mB m27) 344 = .ok (.iconst 1, 1) := by decide +kernel
theorem d27_345 : decode (mB m27) 345 = .ok (.ireturn, 1) := by decide +kernel
theorem cb_m4 : (-4 : Int32) = (Int8.ofInt (-4)).toInt32 := by decide
theorem cb_m3 : (-3 : Int32) = (Int8.ofInt (-3)).toInt32 := by decide
theorem cb_m2 : (-2 : Int32) = (Int8.ofInt (-2)).toInt32 := by decide
theorem cb_7 : (7 : Int32) = (Int8.ofInt (7)).toInt32 := by decide
theorem cb_8 : (8 : Int32) = (Int8.ofInt (8)).toInt32 := by decide
theorem cb_16 : (16 : Int32) = (Int8.ofInt (16)).toInt32 := by decide
theorem cb_32 : (32 : Int32) = (Int8.ofInt (32)).toInt32 := by decide
theorem cb_56 : (56 : Int32) = (Int8.ofInt (56)).toInt32 := by decide
theorem cb_63 : (63 : Int32) = (Int8.ofInt (63)).toInt32 := by decide
theorem cb_64 : (64 : Int32) = (Int8.ofInt (64)).toInt32 := by decide
theorem ci_m1 : (-1 : Int32) = Int32.ofInt (-1) := by decide
theorem ci_0 : (0 : Int32) = Int32.ofInt (0) := by decide
theorem ci_1 : (1 : Int32) = Int32.ofInt (1) := by decide
theorem ci_2 : (2 : Int32) = Int32.ofInt (2) := by decide
theorem ci_3 : (3 : Int32) = Int32.ofInt (3) := by decide
theorem ci_4 : (4 : Int32) = Int32.ofInt (4) := by decide
theorem ci_8 : (8 : Int32) = Int32.ofInt (8) := by decide
theorem ci_16 : (16 : Int32) = Int32.ofInt (16) := by decide
theorem ci_32 : (32 : Int32) = Int32.ofInt (32) := by decide
theorem cl_0 : (0 : Int64) = Int64.ofNat ((0 : Fin 2)) := by decide
theorem cl_1 : (1 : Int64) = Int64.ofNat ((1 : Fin 2)) := by decide
theorem j_1_5 : 0 ≤ ((1 : Nat) : Int) + (5) ∧ (((1 : Nat) : Int) + (5)).toNat = 6 := by decide
theorem j_1_8 : 0 ≤ ((1 : Nat) : Int) + (8) ∧ (((1 : Nat) : Int) + (8)).toNat = 9 := by decide
theorem j_1_9 : 0 ≤ ((1 : Nat) : Int) + (9) ∧ (((1 : Nat) : Int) + (9)).toNat = 10 := by decide
theorem j_1_15 : 0 ≤ ((1 : Nat) : Int) + (15) ∧ (((1 : Nat) : Int) + (15)).toNat = 16 := by decide
theorem j_1_17 : 0 ≤ ((1 : Nat) : Int) + (17) ∧ (((1 : Nat) : Int) + (17)).toNat = 18 := by decide
theorem j_2_5 : 0 ≤ ((2 : Nat) : Int) + (5) ∧ (((2 : Nat) : Int) + (5)).toNat = 7 := by decide
theorem j_3_5 : 0 ≤ ((3 : Nat) : Int) + (5) ∧ (((3 : Nat) : Int) + (5)).toNat = 8 := by decide
theorem j_5_4 : 0 ≤ ((5 : Nat) : Int) + (4) ∧ (((5 : Nat) : Int) + (4)).toNat = 9 := by decide
theorem j_5_5 : 0 ≤ ((5 : Nat) : Int) + (5) ∧ (((5 : Nat) : Int) + (5)).toNat = 10 := by decide
theorem j_5_58 : 0 ≤ ((5 : Nat) : Int) + (58) ∧ (((5 : Nat) : Int) + (58)).toNat = 63 := by decide
theorem j_6_5 : 0 ≤ ((6 : Nat) : Int) + (5) ∧ (((6 : Nat) : Int) + (5)).toNat = 11 := by decide
theorem j_7_5 : 0 ≤ ((7 : Nat) : Int) + (5) ∧ (((7 : Nat) : Int) + (5)).toNat = 12 := by decide
theorem j_7_11 : 0 ≤ ((7 : Nat) : Int) + (11) ∧ (((7 : Nat) : Int) + (11)).toNat = 18 := by decide
theorem j_8_5 : 0 ≤ ((8 : Nat) : Int) + (5) ∧ (((8 : Nat) : Int) + (5)).toNat = 13 := by decide
theorem j_9_5 : 0 ≤ ((9 : Nat) : Int) + (5) ∧ (((9 : Nat) : Int) + (5)).toNat = 14 := by decide
theorem j_9_7 : 0 ≤ ((9 : Nat) : Int) + (7) ∧ (((9 : Nat) : Int) + (7)).toNat = 16 := by decide
theorem j_10_5 : 0 ≤ ((10 : Nat) : Int) + (5) ∧ (((10 : Nat) : Int) + (5)).toNat = 15 := by decide
theorem j_10_6 : 0 ≤ ((10 : Nat) : Int) + (6) ∧ (((10 : Nat) : Int) + (6)).toNat = 16 := by decide
theorem j_11_5 : 0 ≤ ((11 : Nat) : Int) + (5) ∧ (((11 : Nat) : Int) + (5)).toNat = 16 := by decide
theorem j_12_15 : 0 ≤ ((12 : Nat) : Int) + (15) ∧ (((12 : Nat) : Int) + (15)).toNat = 27 := by decide
theorem j_13_4 : 0 ≤ ((13 : Nat) : Int) + (4) ∧ (((13 : Nat) : Int) + (4)).toNat = 17 := by decide
theorem j_14_8 : 0 ≤ ((14 : Nat) : Int) + (8) ∧ (((14 : Nat) : Int) + (8)).toNat = 22 := by decide
theorem j_15_4 : 0 ≤ ((15 : Nat) : Int) + (4) ∧ (((15 : Nat) : Int) + (4)).toNat = 19 := by decide
theorem j_18_5 : 0 ≤ ((18 : Nat) : Int) + (5) ∧ (((18 : Nat) : Int) + (5)).toNat = 23 := by decide
theorem j_18_8 : 0 ≤ ((18 : Nat) : Int) + (8) ∧ (((18 : Nat) : Int) + (8)).toNat = 26 := by decide
theorem j_19_15 : 0 ≤ ((19 : Nat) : Int) + (15) ∧ (((19 : Nat) : Int) + (15)).toNat = 34 := by decide
theorem j_20_7 : 0 ≤ ((20 : Nat) : Int) + (7) ∧ (((20 : Nat) : Int) + (7)).toNat = 27 := by decide
theorem j_20_9 : 0 ≤ ((20 : Nat) : Int) + (9) ∧ (((20 : Nat) : Int) + (9)).toNat = 29 := by decide
theorem j_21_13 : 0 ≤ ((21 : Nat) : Int) + (13) ∧ (((21 : Nat) : Int) + (13)).toNat = 34 := by decide
theorem j_22_6 : 0 ≤ ((22 : Nat) : Int) + (6) ∧ (((22 : Nat) : Int) + (6)).toNat = 28 := by decide
theorem j_22_16 : 0 ≤ ((22 : Nat) : Int) + (16) ∧ (((22 : Nat) : Int) + (16)).toNat = 38 := by decide
theorem j_23_5 : 0 ≤ ((23 : Nat) : Int) + (5) ∧ (((23 : Nat) : Int) + (5)).toNat = 28 := by decide
theorem j_24_4 : 0 ≤ ((24 : Nat) : Int) + (4) ∧ (((24 : Nat) : Int) + (4)).toNat = 28 := by decide
theorem j_24_6 : 0 ≤ ((24 : Nat) : Int) + (6) ∧ (((24 : Nat) : Int) + (6)).toNat = 30 := by decide
theorem j_25_8 : 0 ≤ ((25 : Nat) : Int) + (8) ∧ (((25 : Nat) : Int) + (8)).toNat = 33 := by decide
theorem j_26_5 : 0 ≤ ((26 : Nat) : Int) + (5) ∧ (((26 : Nat) : Int) + (5)).toNat = 31 := by decide
theorem j_28_10 : 0 ≤ ((28 : Nat) : Int) + (10) ∧ (((28 : Nat) : Int) + (10)).toNat = 38 := by decide
theorem j_30_4 : 0 ≤ ((30 : Nat) : Int) + (4) ∧ (((30 : Nat) : Int) + (4)).toNat = 34 := by decide
theorem j_32_5 : 0 ≤ ((32 : Nat) : Int) + (5) ∧ (((32 : Nat) : Int) + (5)).toNat = 37 := by decide
theorem j_38_6 : 0 ≤ ((38 : Nat) : Int) + (6) ∧ (((38 : Nat) : Int) + (6)).toNat = 44 := by decide
theorem j_38_7 : 0 ≤ ((38 : Nat) : Int) + (7) ∧ (((38 : Nat) : Int) + (7)).toNat = 45 := by decide
theorem j_42_13 : 0 ≤ ((42 : Nat) : Int) + (13) ∧ (((42 : Nat) : Int) + (13)).toNat = 55 := by decide
theorem j_42_15 : 0 ≤ ((42 : Nat) : Int) + (15) ∧ (((42 : Nat) : Int) + (15)).toNat = 57 := by decide
theorem j_43_6 : 0 ≤ ((43 : Nat) : Int) + (6) ∧ (((43 : Nat) : Int) + (6)).toNat = 49 := by decide
theorem j_44_6 : 0 ≤ ((44 : Nat) : Int) + (6) ∧ (((44 : Nat) : Int) + (6)).toNat = 50 := by decide
theorem j_47_20 : 0 ≤ ((47 : Nat) : Int) + (20) ∧ (((47 : Nat) : Int) + (20)).toNat = 67 := by decide
theorem j_48_8 : 0 ≤ ((48 : Nat) : Int) + (8) ∧ (((48 : Nat) : Int) + (8)).toNat = 56 := by decide
theorem j_53_4 : 0 ≤ ((53 : Nat) : Int) + (4) ∧ (((53 : Nat) : Int) + (4)).toNat = 57 := by decide
theorem j_53_14 : 0 ≤ ((53 : Nat) : Int) + (14) ∧ (((53 : Nat) : Int) + (14)).toNat = 67 := by decide
theorem j_56_9 : 0 ≤ ((56 : Nat) : Int) + (9) ∧ (((56 : Nat) : Int) + (9)).toNat = 65 := by decide
theorem j_60_m58 : 0 ≤ ((60 : Nat) : Int) + (-58) ∧ (((60 : Nat) : Int) + (-58)).toNat = 2 := by decide
theorem j_60_22 : 0 ≤ ((60 : Nat) : Int) + (22) ∧ (((60 : Nat) : Int) + (22)).toNat = 82 := by decide
theorem j_63_13 : 0 ≤ ((63 : Nat) : Int) + (13) ∧ (((63 : Nat) : Int) + (13)).toNat = 76 := by decide
theorem j_64_11 : 0 ≤ ((64 : Nat) : Int) + (11) ∧ (((64 : Nat) : Int) + (11)).toNat = 75 := by decide
theorem j_65_17 : 0 ≤ ((65 : Nat) : Int) + (17) ∧ (((65 : Nat) : Int) + (17)).toNat = 82 := by decide
theorem j_68_6 : 0 ≤ ((68 : Nat) : Int) + (6) ∧ (((68 : Nat) : Int) + (6)).toNat = 74 := by decide
theorem j_69_13 : 0 ≤ ((69 : Nat) : Int) + (13) ∧ (((69 : Nat) : Int) + (13)).toNat = 82 := by decide
theorem j_72_16 : 0 ≤ ((72 : Nat) : Int) + (16) ∧ (((72 : Nat) : Int) + (16)).toNat = 88 := by decide
theorem j_75_7 : 0 ≤ ((75 : Nat) : Int) + (7) ∧ (((75 : Nat) : Int) + (7)).toNat = 82 := by decide
theorem j_77_18 : 0 ≤ ((77 : Nat) : Int) + (18) ∧ (((77 : Nat) : Int) + (18)).toNat = 95 := by decide
theorem j_79_4 : 0 ≤ ((79 : Nat) : Int) + (4) ∧ (((79 : Nat) : Int) + (4)).toNat = 83 := by decide
theorem j_84_11 : 0 ≤ ((84 : Nat) : Int) + (11) ∧ (((84 : Nat) : Int) + (11)).toNat = 95 := by decide
theorem j_84_12 : 0 ≤ ((84 : Nat) : Int) + (12) ∧ (((84 : Nat) : Int) + (12)).toNat = 96 := by decide
theorem j_85_49 : 0 ≤ ((85 : Nat) : Int) + (49) ∧ (((85 : Nat) : Int) + (49)).toNat = 134 := by decide
theorem j_86_11 : 0 ≤ ((86 : Nat) : Int) + (11) ∧ (((86 : Nat) : Int) + (11)).toNat = 97 := by decide
theorem j_90_7 : 0 ≤ ((90 : Nat) : Int) + (7) ∧ (((90 : Nat) : Int) + (7)).toNat = 97 := by decide
theorem j_90_16 : 0 ≤ ((90 : Nat) : Int) + (16) ∧ (((90 : Nat) : Int) + (16)).toNat = 106 := by decide
theorem j_94_4 : 0 ≤ ((94 : Nat) : Int) + (4) ∧ (((94 : Nat) : Int) + (4)).toNat = 98 := by decide
theorem j_102_12 : 0 ≤ ((102 : Nat) : Int) + (12) ∧ (((102 : Nat) : Int) + (12)).toNat = 114 := by decide
theorem j_103_31 : 0 ≤ ((103 : Nat) : Int) + (31) ∧ (((103 : Nat) : Int) + (31)).toNat = 134 := by decide
theorem j_104_12 : 0 ≤ ((104 : Nat) : Int) + (12) ∧ (((104 : Nat) : Int) + (12)).toNat = 116 := by decide
theorem j_107_7 : 0 ≤ ((107 : Nat) : Int) + (7) ∧ (((107 : Nat) : Int) + (7)).toNat = 114 := by decide
theorem j_108_16 : 0 ≤ ((108 : Nat) : Int) + (16) ∧ (((108 : Nat) : Int) + (16)).toNat = 124 := by decide
theorem j_111_4 : 0 ≤ ((111 : Nat) : Int) + (4) ∧ (((111 : Nat) : Int) + (4)).toNat = 115 := by decide
theorem j_121_13 : 0 ≤ ((121 : Nat) : Int) + (13) ∧ (((121 : Nat) : Int) + (13)).toNat = 134 := by decide
theorem j_122_6 : 0 ≤ ((122 : Nat) : Int) + (6) ∧ (((122 : Nat) : Int) + (6)).toNat = 128 := by decide
theorem j_126_5 : 0 ≤ ((126 : Nat) : Int) + (5) ∧ (((126 : Nat) : Int) + (5)).toNat = 131 := by decide
theorem j_144_7 : 0 ≤ ((144 : Nat) : Int) + (7) ∧ (((144 : Nat) : Int) + (7)).toNat = 151 := by decide
theorem j_148_14 : 0 ≤ ((148 : Nat) : Int) + (14) ∧ (((148 : Nat) : Int) + (14)).toNat = 162 := by decide
theorem j_153_8 : 0 ≤ ((153 : Nat) : Int) + (8) ∧ (((153 : Nat) : Int) + (8)).toNat = 161 := by decide
theorem j_158_4 : 0 ≤ ((158 : Nat) : Int) + (4) ∧ (((158 : Nat) : Int) + (4)).toNat = 162 := by decide
theorem j_168_5 : 0 ≤ ((168 : Nat) : Int) + (5) ∧ (((168 : Nat) : Int) + (5)).toNat = 173 := by decide
theorem j_181_7 : 0 ≤ ((181 : Nat) : Int) + (7) ∧ (((181 : Nat) : Int) + (7)).toNat = 188 := by decide
theorem j_185_4 : 0 ≤ ((185 : Nat) : Int) + (4) ∧ (((185 : Nat) : Int) + (4)).toNat = 189 := by decide
theorem j_189_5 : 0 ≤ ((189 : Nat) : Int) + (5) ∧ (((189 : Nat) : Int) + (5)).toNat = 194 := by decide
theorem j_209_5 : 0 ≤ ((209 : Nat) : Int) + (5) ∧ (((209 : Nat) : Int) + (5)).toNat = 214 := by decide
theorem j_216_8 : 0 ≤ ((216 : Nat) : Int) + (8) ∧ (((216 : Nat) : Int) + (8)).toNat = 224 := by decide
theorem j_221_5 : 0 ≤ ((221 : Nat) : Int) + (5) ∧ (((221 : Nat) : Int) + (5)).toNat = 226 := by decide
theorem j_237_5 : 0 ≤ ((237 : Nat) : Int) + (5) ∧ (((237 : Nat) : Int) + (5)).toNat = 242 := by decide
theorem j_249_5 : 0 ≤ ((249 : Nat) : Int) + (5) ∧ (((249 : Nat) : Int) + (5)).toNat = 254 := by decide
theorem j_262_7 : 0 ≤ ((262 : Nat) : Int) + (7) ∧ (((262 : Nat) : Int) + (7)).toNat = 269 := by decide
theorem j_266_4 : 0 ≤ ((266 : Nat) : Int) + (4) ∧ (((266 : Nat) : Int) + (4)).toNat = 270 := by decide
theorem j_270_5 : 0 ≤ ((270 : Nat) : Int) + (5) ∧ (((270 : Nat) : Int) + (5)).toNat = 275 := by decide
theorem j_283_8 : 0 ≤ ((283 : Nat) : Int) + (8) ∧ (((283 : Nat) : Int) + (8)).toNat = 291 := by decide
theorem j_288_4 : 0 ≤ ((288 : Nat) : Int) + (4) ∧ (((288 : Nat) : Int) + (4)).toNat = 292 := by decide
theorem j_292_5 : 0 ≤ ((292 : Nat) : Int) + (5) ∧ (((292 : Nat) : Int) + (5)).toNat = 297 := by decide
theorem j_304_10 : 0 ≤ ((304 : Nat) : Int) + (10) ∧ (((304 : Nat) : Int) + (10)).toNat = 314 := by decide
theorem j_311_5 : 0 ≤ ((311 : Nat) : Int) + (5) ∧ (((311 : Nat) : Int) + (5)).toNat = 316 := by decide
theorem j_316_5 : 0 ≤ ((316 : Nat) : Int) + (5) ∧ (((316 : Nat) : Int) + (5)).toNat = 321 := by decide
theorem j_330_8 : 0 ≤ ((330 : Nat) : Int) + (8) ∧ (((330 : Nat) : Int) + (8)).toNat = 338 := by decide
theorem j_335_4 : 0 ≤ ((335 : Nat) : Int) + (4) ∧ (((335 : Nat) : Int) + (4)).toNat = 339 := by decide
theorem j_339_5 : 0 ≤ ((339 : Nat) : Int) + (5) ∧ (((339 : Nat) : Int) + (5)).toNat = 344 := by decide
theorem lk_0_36 : LinkP PP "PageCompactorY" 36 m0 := ⟨List.mem_of_getElem? (i := 28) rfl, List.mem_of_getElem? (i := 29) rfl, List.mem_of_getElem? (i := 30) rfl, List.mem_of_getElem? (i := 31) rfl, rfl, rfl⟩
theorem lk_0_47 : LinkP PP "PageCompactorY" 47 m2 := ⟨List.mem_of_getElem? (i := 36) rfl, List.mem_of_getElem? (i := 37) rfl, List.mem_of_getElem? (i := 38) rfl, List.mem_of_getElem? (i := 39) rfl, rfl, rfl⟩
theorem lk_0_50 : LinkP PP "PageCompactorY" 50 m6 := ⟨List.mem_of_getElem? (i := 59) rfl, List.mem_of_getElem? (i := 60) rfl, List.mem_of_getElem? (i := 61) rfl, List.mem_of_getElem? (i := 62) rfl, rfl, rfl⟩
theorem lk_0_58 : LinkP PP "PageCompactorY" 58 m7 := ⟨List.mem_of_getElem? (i := 71) rfl, List.mem_of_getElem? (i := 72) rfl, List.mem_of_getElem? (i := 73) rfl, List.mem_of_getElem? (i := 74) rfl, rfl, rfl⟩
theorem lk_0_62 : LinkP PP "PageCompactorY" 62 m8 := ⟨List.mem_of_getElem? (i := 80) rfl, List.mem_of_getElem? (i := 81) rfl, List.mem_of_getElem? (i := 82) rfl, List.mem_of_getElem? (i := 83) rfl, rfl, rfl⟩
theorem lk_0_66 : LinkP PP "PageCompactorY" 66 m5 := ⟨List.mem_of_getElem? (i := 67) rfl, List.mem_of_getElem? (i := 68) rfl, List.mem_of_getElem? (i := 69) rfl, List.mem_of_getElem? (i := 70) rfl, rfl, rfl⟩
theorem lk_0_69 : LinkP PP "PageCompactorY" 69 m10 := ⟨List.mem_of_getElem? (i := 84) rfl, List.mem_of_getElem? (i := 85) rfl, List.mem_of_getElem? (i := 86) rfl, List.mem_of_getElem? (i := 87) rfl, rfl, rfl⟩
theorem lk_0_73 : LinkP PP "PageCompactorY" 73 m12 := ⟨List.mem_of_getElem? (i := 93) rfl, List.mem_of_getElem? (i := 94) rfl, List.mem_of_getElem? (i := 95) rfl, List.mem_of_getElem? (i := 96) rfl, rfl, rfl⟩
theorem lk_0_76 : LinkP PP "PageCompactorY" 76 m4 := ⟨List.mem_of_getElem? (i := 63) rfl, List.mem_of_getElem? (i := 64) rfl, List.mem_of_getElem? (i := 65) rfl, List.mem_of_getElem? (i := 66) rfl, rfl, rfl⟩
theorem lk_0_80 : LinkP PP "PageCompactorY" 80 m20 := ⟨List.mem_of_getElem? (i := 130) rfl, List.mem_of_getElem? (i := 131) rfl, List.mem_of_getElem? (i := 132) rfl, List.mem_of_getElem? (i := 133) rfl, rfl, rfl⟩
theorem lk_0_84 : LinkP PP "PageCompactorY" 84 m21 := ⟨List.mem_of_getElem? (i := 161) rfl, List.mem_of_getElem? (i := 162) rfl, List.mem_of_getElem? (i := 163) rfl, List.mem_of_getElem? (i := 164) rfl, rfl, rfl⟩
theorem lk_0_88 : LinkP PP "PageCompactorY" 88 m16 := ⟨List.mem_of_getElem? (i := 116) rfl, List.mem_of_getElem? (i := 117) rfl, List.mem_of_getElem? (i := 118) rfl, List.mem_of_getElem? (i := 119) rfl, rfl, rfl⟩
theorem lk_0_123 : LinkP PP "PageCompactorY" 123 m25 := ⟨List.mem_of_getElem? (i := 153) rfl, List.mem_of_getElem? (i := 154) rfl, List.mem_of_getElem? (i := 155) rfl, List.mem_of_getElem? (i := 156) rfl, rfl, rfl⟩
theorem lk_0_129 : LinkP PP "PageCompactorY" 129 m1 := ⟨List.mem_of_getElem? (i := 40) rfl, List.mem_of_getElem? (i := 41) rfl, List.mem_of_getElem? (i := 42) rfl, List.mem_of_getElem? (i := 43) rfl, rfl, rfl⟩
theorem lk_0_145 : LinkP PP "PageCompactorY" 145 m9 := ⟨List.mem_of_getElem? (i := 88) rfl, List.mem_of_getElem? (i := 89) rfl, List.mem_of_getElem? (i := 90) rfl, List.mem_of_getElem? (i := 91) rfl, rfl, rfl⟩
theorem lk_0_153 : LinkP PP "PageCompactorY" 153 m11 := ⟨List.mem_of_getElem? (i := 97) rfl, List.mem_of_getElem? (i := 98) rfl, List.mem_of_getElem? (i := 99) rfl, List.mem_of_getElem? (i := 100) rfl, rfl, rfl⟩
theorem lk_0_156 : LinkP PP "PageCompactorY" 156 m19 := ⟨List.mem_of_getElem? (i := 134) rfl, List.mem_of_getElem? (i := 135) rfl, List.mem_of_getElem? (i := 136) rfl, List.mem_of_getElem? (i := 137) rfl, rfl, rfl⟩
theorem lk_1_9 : LinkI PP "PageCompactorYL2" 9 m3 := ⟨List.mem_of_getElem? (i := 3) rfl, List.mem_of_getElem? (i := 4) rfl, List.mem_of_getElem? (i := 5) rfl, rfl, rfl, rfl, rfl⟩
theorem lk_1_12 : LinkV PP "PageCompactorYL2" 12 m13 := ⟨List.mem_of_getElem? (i := 54) rfl, List.mem_of_getElem? (i := 55) rfl, List.mem_of_getElem? (i := 57) rfl, List.mem_of_getElem? (i := 56) rfl, List.mem_of_getElem? (i := 58) rfl, rfl, rfl⟩
theorem lk_1_16 : LinkV PP "PageCompactorYL2" 16 m14 := ⟨List.mem_of_getElem? (i := 101) rfl, List.mem_of_getElem? (i := 102) rfl, List.mem_of_getElem? (i := 104) rfl, List.mem_of_getElem? (i := 103) rfl, List.mem_of_getElem? (i := 105) rfl, rfl, rfl⟩
theorem lk_1_20 : LinkV PP "PageCompactorYL2" 20 m15 := ⟨List.mem_of_getElem? (i := 106) rfl, List.mem_of_getElem? (i := 107) rfl, List.mem_of_getElem? (i := 109) rfl, List.mem_of_getElem? (i := 108) rfl, List.mem_of_getElem? (i := 110) rfl, rfl, rfl⟩
theorem lk_1_24 : LinkV PP "PageCompactorYL2" 24 m17 := ⟨List.mem_of_getElem? (i := 111) rfl, List.mem_of_getElem? (i := 112) rfl, List.mem_of_getElem? (i := 114) rfl, List.mem_of_getElem? (i := 113) rfl, List.mem_of_getElem? (i := 115) rfl, rfl, rfl⟩
theorem lk_1_28 : LinkV PP "PageCompactorYL2" 28 m18 := ⟨List.mem_of_getElem? (i := 120) rfl, List.mem_of_getElem? (i := 121) rfl, List.mem_of_getElem? (i := 123) rfl, List.mem_of_getElem? (i := 122) rfl, List.mem_of_getElem? (i := 124) rfl, rfl, rfl⟩
theorem lk_1_32 : LinkV PP "PageCompactorYL2" 32 m22 := ⟨List.mem_of_getElem? (i := 125) rfl, List.mem_of_getElem? (i := 126) rfl, List.mem_of_getElem? (i := 128) rfl, List.mem_of_getElem? (i := 127) rfl, List.mem_of_getElem? (i := 129) rfl, rfl, rfl⟩
theorem lk_1_35 : LinkV PP "PageCompactorYL2" 35 m23 := ⟨List.mem_of_getElem? (i := 138) rfl, List.mem_of_getElem? (i := 139) rfl, List.mem_of_getElem? (i := 141) rfl, List.mem_of_getElem? (i := 140) rfl, List.mem_of_getElem? (i := 142) rfl, rfl, rfl⟩
theorem lk_1_38 : LinkV PP "PageCompactorYL2" 38 m24 := ⟨List.mem_of_getElem? (i := 143) rfl, List.mem_of_getElem? (i := 144) rfl, List.mem_of_getElem? (i := 146) rfl, List.mem_of_getElem? (i := 145) rfl, List.mem_of_getElem? (i := 147) rfl, rfl, rfl⟩
theorem lk_1_41 : LinkV PP "PageCompactorYL2" 41 m26 := ⟨List.mem_of_getElem? (i := 148) rfl, List.mem_of_getElem? (i := 149) rfl, List.mem_of_getElem? (i := 151) rfl, List.mem_of_getElem? (i := 150) rfl, List.mem_of_getElem? (i := 152) rfl, rfl, rfl⟩
theorem facts1 {Z : State} {a0 : Array Value} (hw : ∀ d ∈ tables_1, d.before a0 Z = true) : Facts Z a0 ci1 := by
  refine ⟨hw _ (List.mem_of_getElem? (i := 1) rfl), hw _ (List.mem_of_getElem? (i := 2) rfl), ?_, ?_, by decide, ?_, by decide⟩
  · intro f x hx
    match f, hx with
    | 0, hx => cases hx; exact ⟨Or.inl (hw _ (List.mem_of_getElem? (i := 33) rfl)), by decide⟩
    | 1, hx => cases hx; exact ⟨Or.inl (hw _ (List.mem_of_getElem? (i := 35) rfl)), by decide⟩
    | 2, hx => cases hx; exact ⟨Or.inl (hw _ (List.mem_of_getElem? (i := 45) rfl)), by decide⟩
    | 3, hx => cases hx; exact ⟨Or.inl (hw _ (List.mem_of_getElem? (i := 47) rfl)), by decide⟩
    | 4, hx => cases hx; exact ⟨Or.inl (hw _ (List.mem_of_getElem? (i := 49) rfl)), by decide⟩
    | 5, hx => cases hx; exact ⟨Or.inl (hw _ (List.mem_of_getElem? (i := 51) rfl)), by decide⟩
    | 6, hx => cases hx; exact ⟨Or.inl (hw _ (List.mem_of_getElem? (i := 53) rfl)), by decide⟩
    | n + 7, hx => simp [cS, ci1] at hx
  · intro q x hx
    match q, hx with
    | 0, hx => cases hx; exact ⟨Or.inr (hw _ (List.mem_of_getElem? (i := 11) rfl)), by decide⟩
    | 1, hx => cases hx; exact ⟨Or.inr (hw _ (List.mem_of_getElem? (i := 14) rfl)), by decide⟩
    | 2, hx => cases hx; exact ⟨Or.inr (hw _ (List.mem_of_getElem? (i := 16) rfl)), by decide⟩
    | 3, hx => cases hx; exact ⟨Or.inr (hw _ (List.mem_of_getElem? (i := 18) rfl)), by decide⟩
    | 4, hx => cases hx; exact ⟨Or.inr (hw _ (List.mem_of_getElem? (i := 20) rfl)), by decide⟩
    | 5, hx => cases hx; exact ⟨Or.inr (hw _ (List.mem_of_getElem? (i := 22) rfl)), by decide⟩
    | 6, hx => cases hx; exact ⟨Or.inr (hw _ (List.mem_of_getElem? (i := 24) rfl)), by decide⟩
    | 7, hx => cases hx; exact ⟨Or.inr (hw _ (List.mem_of_getElem? (i := 27) rfl)), by decide⟩
    | n + 8, hx => simp [cA, ci1] at hx
  · intro f x hx
    match f, hx with
    | 0, hx => cases hx; rfl
    | 1, hx => cases hx; rfl
    | 2, hx => cases hx; rfl
    | 3, hx => cases hx; rfl
    | 4, hx => cases hx; rfl
    | 5, hx => cases hx; rfl
    | 6, hx => cases hx; rfl
    | n + 7, hx => simp [cS, ci1] at hx
def k_clampInt  (v1 : Int32) (v2 : Int32) (v3 : Int32)  : Int32 :=
  if v1 < v2 then
    v2
  else
    if v3 < v1 then
      v3
    else
      v1
def k_lowMask  (v1 : Int32)  : Int64 :=
  if 0 < v1 then
    if v1 < (64 : Int32) then
      ((1 : Int64) <<< (v1.toInt64 &&& 63)) - (1 : Int64)
    else
      (-1 : Int64)
  else
    (0 : Int64)
def k_resetAll_63   (s : S) : Option S :=
  some (sI (sL (sL (sL (sL s 2 (k_lowMask (gI s 0))) 3 (0 : Int64)) 4 (0 : Int64)) 5 (0 : Int64)) 6 (1 : Int32))
def k_resetAll_2  : Nat → Int32 → S → Option S
  | 0, _, _ => none
  | n + 1, v1, s =>
    if v1 < (64 : Int32) then
      (Jvm.AM.st (gA s 0) v1 (nar .byte (0 : Int32))).bind fun a14 =>
      (Jvm.AM.st (gA s 1) v1 (0 : Int32)).bind fun a21 =>
      (Jvm.AM.st (gA s 2) v1 (0 : Int32)).bind fun a28 =>
      (Jvm.AM.st (gA s 3) v1 (-1 : Int32)).bind fun a35 =>
      (Jvm.AM.st (gA s 4) v1 (-1 : Int32)).bind fun a42 =>
      (Jvm.AM.st (gA s 5) v1 (-1 : Int32)).bind fun a49 =>
      (Jvm.AM.st (gA s 6) v1 (-1 : Int32)).bind fun a56 =>
      k_resetAll_2 n (v1 + (1 : Int32)) (sA (sA (sA (sA (sA (sA (sA s 0 a14) 1 a21) 2 a28) 3 a35) 4 a42) 5 a49) 6 a56)
    else
      k_resetAll_63 s
def k_resetAll   (s : S) : Option S :=
  k_resetAll_2 BIG (0 : Int32) s
def k_init  (v1 : Int32) (v2 : Int32)  : Option S :=
  (k_resetAll (sI (sI (sB (sA (sA (sA (sA (sA (sA (sA s0 0 (rep 64 0)) 1 (rep 64 0)) 2 (rep 64 0)) 3 (rep 64 0)) 4 (rep 64 0)) 5 (rep 64 0)) 6 (rep 64 0)) 7 (rep 7 0)) 0 (k_clampInt v1 (8 : Int32) (64 : Int32))) 1 (k_clampInt v2 (4 : Int32) (16 : Int32)))).bind fun r94 =>
  some r94
def k_pageInRange  (v1 : Int32) (v2 : Int32) (s : S) : Int32 :=
  if v1 < 0 then
    (0 : Int32)
  else
    if v1 < (4 : Int32) then
      if v2 < 0 then
        (0 : Int32)
      else
        if v2 < (gI s 1) then
          (1 : Int32)
        else
          (0 : Int32)
    else
      (0 : Int32)
def k_slotOf  (v1 : Int32) (v2 : Int32)  : Int32 :=
  (v1 * (16 : Int32)) + v2
def k_checkTarget  (v1 : Int32) (v2 : Int32) (s : S) : Option Int32 :=
  if (k_pageInRange v1 v2 s) = 0 then
    some (-1 : Int32)
  else
    (ix (gA s 3) (k_slotOf v1 v2)).bind fun a23 =>
    if a23 < 0 then
      some (0 : Int32)
    else
      some (-2 : Int32)
def k_lowestBit_116  (v3 : Int32) (v4 : Int64)  : Int32 :=
  if (v4 &&& (1 : Int64)) = (0 : Int64) then
    v3 + (1 : Int32)
  else
    v3
def k_lowestBit_96  (v3 : Int32) (v4 : Int64)  : Int32 :=
  k_lowestBit_116 (if (v4 &&& (3 : Int64)) = (0 : Int64) then v3 + (2 : Int32) else v3) (if (v4 &&& (3 : Int64)) = (0 : Int64) then XT.ushrL v4 (2 : Int32) else v4)
def k_lowestBit_76  (v3 : Int32) (v4 : Int64)  : Int32 :=
  k_lowestBit_96 (if (v4 &&& (15 : Int64)) = (0 : Int64) then v3 + (4 : Int32) else v3) (if (v4 &&& (15 : Int64)) = (0 : Int64) then XT.ushrL v4 (4 : Int32) else v4)
def k_lowestBit_55  (v3 : Int32) (v4 : Int64)  : Int32 :=
  k_lowestBit_76 (if (v4 &&& (255 : Int64)) = (0 : Int64) then v3 + (8 : Int32) else v3) (if (v4 &&& (255 : Int64)) = (0 : Int64) then XT.ushrL v4 (8 : Int32) else v4)
def k_lowestBit_34  (v3 : Int32) (v4 : Int64)  : Int32 :=
  k_lowestBit_55 (if (v4 &&& (65535 : Int64)) = (0 : Int64) then v3 + (16 : Int32) else v3) (if (v4 &&& (65535 : Int64)) = (0 : Int64) then XT.ushrL v4 (16 : Int32) else v4)
def k_lowestBit  (v1 : Int64)  : Int32 :=
  if v1 = (0 : Int64) then
    (-1 : Int32)
  else
    k_lowestBit_34 (if (v1 &&& (4294967295 : Int64)) = (0 : Int64) then (0 : Int32) + (32 : Int32) else (0 : Int32)) (if (v1 &&& (4294967295 : Int64)) = (0 : Int64) then XT.ushrL v1 (32 : Int32) else v1)
def k_frameInRange  (v1 : Int32) (s : S) : Int32 :=
  if v1 < 0 then
    (0 : Int32)
  else
    if v1 < (gI s 0) then
      (1 : Int32)
    else
      (0 : Int32)
def k_bitOf_10    : Int64 :=
  (0 : Int64)
def k_bitOf  (v1 : Int32)  : Int64 :=
  if v1 < 0 then
    k_bitOf_10
  else
    if (63 : Int32) < v1 then
      k_bitOf_10
    else
      (1 : Int64) <<< (v1.toInt64 &&& 63)
def k_enterState_134  (v1 : Int32) (v2 : Int32) (s : S) : Option S :=
  (Jvm.AM.st (gA s 0) v1 (nar .byte v2.toInt8.toInt32)).bind fun a141 =>
  some (sI (sA s 0 a141) 6 (1 : Int32))
def k_enterState  (v1 : Int32) (v2 : Int32) (s : S) : Option S :=
  if (k_frameInRange v1 s) = 0 then
    some s
  else
    if v2 = 0 then
      k_enterState_134 v1 v2 (sL (sL (sL (sL (sL s 2 ((gL s 2) &&& ((k_bitOf v1) ^^^ (-1 : Int64)))) 3 ((gL s 3) &&& ((k_bitOf v1) ^^^ (-1 : Int64)))) 4 ((gL s 4) &&& ((k_bitOf v1) ^^^ (-1 : Int64)))) 5 ((gL s 5) &&& ((k_bitOf v1) ^^^ (-1 : Int64)))) 2 (((gL s 2) &&& ((k_bitOf v1) ^^^ (-1 : Int64))) ||| (k_bitOf v1)))
    else
      if v2 = (1 : Int32) then
        k_enterState_134 v1 v2 (sL (sL (sL (sL (sL s 2 ((gL s 2) &&& ((k_bitOf v1) ^^^ (-1 : Int64)))) 3 ((gL s 3) &&& ((k_bitOf v1) ^^^ (-1 : Int64)))) 4 ((gL s 4) &&& ((k_bitOf v1) ^^^ (-1 : Int64)))) 5 ((gL s 5) &&& ((k_bitOf v1) ^^^ (-1 : Int64)))) 3 (((gL s 3) &&& ((k_bitOf v1) ^^^ (-1 : Int64))) ||| (k_bitOf v1)))
      else
        if v2 = (2 : Int32) then
          k_enterState_134 v1 v2 (sL (sL (sL (sL (sL s 2 ((gL s 2) &&& ((k_bitOf v1) ^^^ (-1 : Int64)))) 3 ((gL s 3) &&& ((k_bitOf v1) ^^^ (-1 : Int64)))) 4 ((gL s 4) &&& ((k_bitOf v1) ^^^ (-1 : Int64)))) 5 ((gL s 5) &&& ((k_bitOf v1) ^^^ (-1 : Int64)))) 4 (((gL s 4) &&& ((k_bitOf v1) ^^^ (-1 : Int64))) ||| (k_bitOf v1)))
        else
          k_enterState_134 v1 v2 (sL (sL (sL (sL (sL s 2 ((gL s 2) &&& ((k_bitOf v1) ^^^ (-1 : Int64)))) 3 ((gL s 3) &&& ((k_bitOf v1) ^^^ (-1 : Int64)))) 4 ((gL s 4) &&& ((k_bitOf v1) ^^^ (-1 : Int64)))) 5 ((gL s 5) &&& ((k_bitOf v1) ^^^ (-1 : Int64)))) 5 (((gL s 5) &&& ((k_bitOf v1) ^^^ (-1 : Int64))) ||| (k_bitOf v1)))
def k_rmapLink_38  (v1 : Int32) (v2 : Int32) (s : S) : Option S :=
  (Jvm.AM.st (gA s 4) v2 v1).bind fun a44 =>
  (Jvm.AM.st (gA s 3) v1 v2).bind fun a51 =>
  some (sA (sA s 4 a44) 3 a51)
def k_rmapLink  (v1 : Int32) (v2 : Int32) (s : S) : Option S :=
  (ix (gA s 4) v2).bind fun a5 =>
  (Jvm.AM.st (gA s 6) v1 (-1 : Int32)).bind fun a13 =>
  (Jvm.AM.st (gA s 5) v1 a5).bind fun a20 =>
  if a5 < 0 then
    k_rmapLink_38 v1 v2 (sA (sA s 6 a13) 5 a20)
  else
    if a5 < (64 : Int32) then
      (Jvm.AM.st a13 a5 v1).bind fun a37 =>
      k_rmapLink_38 v1 v2 (sA (sA (sA s 6 a13) 5 a20) 6 a37)
    else
      k_rmapLink_38 v1 v2 (sA (sA s 6 a13) 5 a20)
def k_attachPage  (v1 : Int32) (v2 : Int32) (s : S) : Option S :=
  if v1 < 0 then
    some s
  else
    if v1 < (64 : Int32) then
      if (k_frameInRange v2 s) = 0 then
        some s
      else
        (k_rmapLink v1 v2 s).bind fun r22 =>
        (ix (gA r22 2) v2).bind fun a35 =>
        (Jvm.AM.st (gA r22 2) v2 (a35 + (1 : Int32))).bind fun a38 =>
        some (sA r22 2 a38)
    else
      some s
def k_mapNew  (v1 : Int32) (v2 : Int32) (v3 : Int32) (s : S) : Option (Int32 × S) :=
  (k_checkTarget v1 v2 s).bind fun r3 =>
  if r3 = 0 then
    if (gL s 2) = (0 : Int64) then
      some ((-4 : Int32), s)
    else
      if (k_frameInRange (k_lowestBit (gL s 2)) s) = 0 then
        some ((-4 : Int32), s)
      else
        (k_enterState (k_lowestBit (gL s 2)) (1 : Int32) s).bind fun r62 =>
        (Jvm.AM.st (gA r62 1) (k_lowestBit (gL s 2)) v3).bind fun a72 =>
        (Jvm.AM.st (gA r62 2) (k_lowestBit (gL s 2)) (0 : Int32)).bind fun a80 =>
        (k_attachPage (k_slotOf v1 v2) (k_lowestBit (gL s 2)) (sA (sA r62 1 a72) 2 a80)).bind fun r86 =>
        some ((k_lowestBit (gL s 2)), r86)
  else
    some (r3, s)
def k_share  (v1 : Int32) (v2 : Int32) (v3 : Int32) (v4 : Int32) (s : S) : Option (Int32 × S) :=
  if (k_pageInRange v1 v2 s) = 0 then
    some ((-1 : Int32), s)
  else
    if (k_pageInRange v3 v4 s) = 0 then
      some ((-1 : Int32), s)
    else
      (ix (gA s 3) (k_slotOf v1 v2)).bind fun a37 =>
      if a37 < 0 then
        (ix (gA s 3) (k_slotOf v3 v4)).bind fun a59 =>
        if (k_frameInRange a59 s) = 0 then
          some ((-3 : Int32), s)
        else
          (k_attachPage (k_slotOf v1 v2) a59 s).bind fun r79 =>
          some (a59, r79)
      else
        some ((-2 : Int32), s)
def k_mapCount  (v1 : Int32) (s : S) : Option Int32 :=
  if (k_frameInRange v1 s) = 0 then
    some (0 : Int32)
  else
    (ix (gA s 2) v1).bind fun a15 =>
    some a15
def k_mappedFrame  (v1 : Int32) (v2 : Int32) (s : S) : Option Int32 :=
  if (k_pageInRange v1 v2 s) = 0 then
    some (-1 : Int32)
  else
    (ix (gA s 3) (k_slotOf v1 v2)).bind fun a23 =>
    if (k_frameInRange a23 s) = 0 then
      some (-1 : Int32)
    else
      some a23
def k_write  (v1 : Int32) (v2 : Int32) (v3 : Int32) (s : S) : Option (Int32 × S) :=
  (k_mappedFrame v1 v2 s).bind fun r3 =>
  if r3 < 0 then
    some ((0 : Int32), s)
  else
    (Jvm.AM.st (gA s 1) r3 v3).bind fun a22 =>
    some ((1 : Int32), sA s 1 a22)
def k_read  (v1 : Int32) (v2 : Int32) (s : S) : Option Int32 :=
  (k_mappedFrame v1 v2 s).bind fun r3 =>
  if r3 < 0 then
    some (0 : Int32)
  else
    (ix (gA s 1) r3).bind fun a18 =>
    some a18
def k_rmapUnlink_95  (v1 : Int32) (v2 : Int32) (s : S) : Option (Int32 × S) :=
  (Jvm.AM.st (gA s 6) v1 (-1 : Int32)).bind fun a101 =>
  (Jvm.AM.st (gA s 5) v1 (-1 : Int32)).bind fun a108 =>
  (Jvm.AM.st (gA s 3) v1 (-1 : Int32)).bind fun a115 =>
  some (v2, sA (sA (sA s 6 a101) 5 a108) 3 a115)
def k_rmapUnlink_75  (v1 : Int32) (v2 : Int32) (v3 : Int32) (v4 : Int32) (s : S) : Option (Int32 × S) :=
  if v4 < 0 then
    k_rmapUnlink_95 v1 v2 s
  else
    if v4 < (64 : Int32) then
      (Jvm.AM.st (gA s 6) v4 v3).bind fun a94 =>
      k_rmapUnlink_95 v1 v2 (sA s 6 a94)
    else
      k_rmapUnlink_95 v1 v2 s
def k_rmapUnlink_67  (v1 : Int32) (v2 : Int32) (v3 : Int32) (v4 : Int32) (s : S) : Option (Int32 × S) :=
  (Jvm.AM.st (gA s 4) v2 v4).bind fun a74 =>
  k_rmapUnlink_75 v1 v2 v3 v4 (sA s 4 a74)
def k_rmapUnlink  (v1 : Int32) (s : S) : Option (Int32 × S) :=
  if v1 < 0 then
    some ((-1 : Int32), s)
  else
    if v1 < (64 : Int32) then
      (ix (gA s 3) v1).bind fun a17 =>
      if a17 < 0 then
        some ((-1 : Int32), s)
      else
        if a17 < (64 : Int32) then
          (ix (gA s 6) v1).bind fun a36 =>
          (ix (gA s 5) v1).bind fun a43 =>
          if a36 < 0 then
            k_rmapUnlink_67 v1 a17 a36 a43 s
          else
            if a36 < (64 : Int32) then
              (Jvm.AM.st (gA s 5) a36 a43).bind fun a63 =>
              k_rmapUnlink_75 v1 a17 a36 a43 (sA s 5 a63)
            else
              k_rmapUnlink_67 v1 a17 a36 a43 s
        else
          some ((-1 : Int32), s)
    else
      some ((-1 : Int32), s)
def k_detachPage  (v1 : Int32) (s : S) : Option (Int32 × S) :=
  (k_rmapUnlink v1 s).bind fun r2 =>
  if (k_frameInRange r2.1 r2.2) = 0 then
    some ((-1 : Int32), r2.2)
  else
    (ix (gA r2.2 2) r2.1).bind fun a26 =>
    (Jvm.AM.st (gA r2.2 2) r2.1 (a26 - (1 : Int32))).bind fun a29 =>
    some (r2.1, sA r2.2 2 a29)
def k_freeFrame  (v1 : Int32) (s : S) : Option S :=
  if (k_frameInRange v1 s) = 0 then
    some s
  else
    (Jvm.AM.st (gA s 1) v1 (0 : Int32)).bind fun a15 =>
    (Jvm.AM.st (gA s 2) v1 (0 : Int32)).bind fun a22 =>
    (Jvm.AM.st (gA s 4) v1 (-1 : Int32)).bind fun a29 =>
    (k_enterState v1 (0 : Int32) (sA (sA (sA s 1 a15) 2 a22) 4 a29)).bind fun r33 =>
    some r33
def k_unmap  (v1 : Int32) (v2 : Int32) (s : S) : Option (Int32 × S) :=
  if (k_pageInRange v1 v2 s) = 0 then
    some ((-1 : Int32), s)
  else
    (ix (gA s 3) (k_slotOf v1 v2)).bind fun a23 =>
    if a23 < 0 then
      some ((-3 : Int32), s)
    else
      (k_detachPage (k_slotOf v1 v2) s).bind fun r32 =>
      if (k_frameInRange r32.1 r32.2) = 0 then
        some ((-3 : Int32), r32.2)
      else
        (ix (gA r32.2 2) r32.1).bind fun a55 =>
        if 0 < a55 then
          some (r32.1, r32.2)
        else
          (k_freeFrame r32.1 r32.2).bind fun r62 =>
          some (r32.1, r62)
def k_frameState  (v1 : Int32) (s : S) : Option Int32 :=
  if (k_frameInRange v1 s) = 0 then
    some (-1 : Int32)
  else
    (ix (gA s 0) v1).bind fun a15 =>
    some a15
def k_frameValue  (v1 : Int32) (s : S) : Option Int32 :=
  if (k_frameInRange v1 s) = 0 then
    some (0 : Int32)
  else
    (ix (gA s 0) v1).bind fun a15 =>
    if a15 = 0 then
      some (0 : Int32)
    else
      if a15 = (3 : Int32) then
        some (0 : Int32)
      else
        (ix (gA s 1) v1).bind fun a33 =>
        some a33
def k_bitCount_34  (v3 : Int64)  : Int32 :=
  (XT.ushrL (v3 * (72340172838076673 : Int64)) (56 : Int32)).toInt32
def k_bitCount  (v1 : Int64)  : Int32 :=
  k_bitCount_34 (((((v1 - ((XT.ushrL v1 (1 : Int32)) &&& (6148914691236517205 : Int64))) &&& (3689348814741910323 : Int64)) + ((XT.ushrL (v1 - ((XT.ushrL v1 (1 : Int32)) &&& (6148914691236517205 : Int64))) (2 : Int32)) &&& (3689348814741910323 : Int64))) + (XT.ushrL (((v1 - ((XT.ushrL v1 (1 : Int32)) &&& (6148914691236517205 : Int64))) &&& (3689348814741910323 : Int64)) + ((XT.ushrL (v1 - ((XT.ushrL v1 (1 : Int32)) &&& (6148914691236517205 : Int64))) (2 : Int32)) &&& (3689348814741910323 : Int64))) (4 : Int32))) &&& (1085102592571150095 : Int64))
def k_freeCount   (s : S) : Int32 :=
  (k_bitCount (gL s 2))
def law_339  (p0 : Int32) (p1 : Int32) (t0 : S) : Option (Int32 × S) :=
  if p1 = p0 then
    some ((1 : Int32), t0)
  else
    some ((0 : Int32), t0)
def law_316  (v2 : Int32) (v3 : Int32) (v11 : Int32) (v15 : Int32) (p0 : Int32) (p1 : Int32) (t0 : S) : Option (Int32 × S) :=
  if p1 = p0 then
    (k_read v2 v3 t0).bind fun r325 =>
    law_339 (if v11 = 0 then (0 : Int32) else v15) r325 t0
  else
    some ((0 : Int32), t0)
def law_292  (v2 : Int32) (v3 : Int32) (v7 : Int32) (v11 : Int32) (v15 : Int32) (p0 : Int32) (p1 : Int32) (t0 : S) : Option (Int32 × S) :=
  if p1 = p0 then
    law_316 v2 v3 v11 v15 (if v11 = 0 then v7 else v7 - (1 : Int32)) (k_freeCount t0) t0
  else
    some ((0 : Int32), t0)
def law_270  (v2 : Int32) (v3 : Int32) (v7 : Int32) (v11 : Int32) (v15 : Int32) (p0 : Int32) (p1 : Int32) (t0 : S) : Option (Int32 × S) :=
  if p1 = p0 then
    (k_frameValue (0 : Int32) t0).bind fun r278 =>
    law_292 v2 v3 v7 v11 v15 (if v11 = 0 then (0 : Int32) else v15) r278 t0
  else
    some ((0 : Int32), t0)
def law_226  (v2 : Int32) (v3 : Int32) (v7 : Int32) (v11 : Int32) (p0 : Int32) (t0 : S) : Option (Int32 × S) :=
  (k_read (0 : Int32) (0 : Int32) t0).bind fun r232 =>
  if r232 = p0 then
    (k_unmap (0 : Int32) (0 : Int32) t0).bind fun r246 =>
    if r246.1 = 0 then
      (k_frameState (0 : Int32) r246.2).bind fun r257 =>
      law_270 v2 v3 v7 v11 p0 (if v11 = 0 then (0 : Int32) else (1 : Int32)) r257 r246.2
    else
      some ((0 : Int32), r246.2)
  else
    some ((0 : Int32), t0)
def law_189  (v2 : Int32) (v3 : Int32) (v4 : Int32) (v5 : Int32) (v7 : Int32) (v9 : Int32) (v11 : Int32) (p0 : Int32) (p1 : Int32) (t0 : S) : Option (Int32 × S) :=
  if p1 = p0 then
    (k_write v2 v3 v5 t0).bind fun r200 =>
    if r200.1 = v9 then
      law_226 v2 v3 v7 v11 (if v9 = 0 then v4 else v5) r200.2
    else
      some ((0 : Int32), r200.2)
  else
    some ((0 : Int32), t0)
def law_162  (v2 : Int32) (v3 : Int32) (v4 : Int32) (v5 : Int32) (v7 : Int32) (v9 : Int32) (v11 : Int32) (v12 : Int32) (p0 : Int32) (t0 : S) : Option (Int32 × S) :=
  if v12 = p0 then
    (k_mapCount (0 : Int32) t0).bind fun r176 =>
    law_189 v2 v3 v4 v5 v7 v9 v11 (if v11 = 0 then (1 : Int32) else (2 : Int32)) r176 t0
  else
    some ((0 : Int32), t0)
def law_115  (v2 : Int32) (v3 : Int32) (v4 : Int32) (v5 : Int32) (v7 : Int32) (v9 : Int32) (v10 : Int32) (p0 : Int32) (t0 : S) : Option (Int32 × S) :=
  (k_mapNew (0 : Int32) (0 : Int32) v4 t0).bind fun r123 =>
  if r123.1 = 0 then
    (k_share v2 v3 (0 : Int32) (0 : Int32) r123.2).bind fun r137 =>
    law_162 v2 v3 v4 v5 v7 v9 p0 r137.1 (if v9 = 0 then (-1 : Int32) else if v10 = 0 then (0 : Int32) else (-2 : Int32)) r137.2
  else
    some ((0 : Int32), r123.2)
def law_98  (v2 : Int32) (v3 : Int32) (v4 : Int32) (v5 : Int32) (v7 : Int32) (v9 : Int32) (p0 : Int32) (t0 : S) : Option (Int32 × S) :=
  law_115 v2 v3 v4 v5 v7 v9 p0 (if v9 = 0 then (0 : Int32) else if p0 = 0 then (1 : Int32) else (0 : Int32)) t0
def law_83  (v2 : Int32) (v3 : Int32) (v4 : Int32) (v5 : Int32) (v7 : Int32) (p0 : Int32) (t0 : S) : Option (Int32 × S) :=
  law_98 v2 v3 v4 v5 v7 p0 (if v2 = 0 then if v3 = 0 then (1 : Int32) else (0 : Int32) else (0 : Int32)) t0
def law_57  (v2 : Int32) (v3 : Int32) (v4 : Int32) (v5 : Int32) (v7 : Int32) (p0 : Int32) (t0 : S) : Option (Int32 × S) :=
  law_83 v2 v3 v4 v5 v7 (if v2 < 0 then (0 : Int32) else if (3 : Int32) < v2 then (0 : Int32) else if v3 < 0 then (0 : Int32) else if v3 < p0 then (1 : Int32) else (0 : Int32)) t0
def law_34  (v1 : Int32) (v2 : Int32) (v3 : Int32) (v4 : Int32) (v5 : Int32) (p0 : Int32) (t0 : S) : Option (Int32 × S) :=
  law_57 v2 v3 v4 v5 p0 (if v1 < (4 : Int32) then (4 : Int32) else if (16 : Int32) < v1 then (16 : Int32) else v1) t0
def law  (v0 : Int32) (v1 : Int32) (v2 : Int32) (v3 : Int32) (v4 : Int32) (v5 : Int32)  : Option (Int32 × S) :=
  (k_init v0 v1).bind fun r6 =>
  law_34 v1 v2 v3 v4 v5 (if v0 < (8 : Int32) then (8 : Int32) else if (64 : Int32) < v0 then (64 : Int32) else v0) r6
set_option maxRecDepth 65536 in
set_option maxHeartbeats 4000000 in
theorem k_clampInt_ok  {s : S} : ∀ (v1 : Int32) (v2 : Int32) (v3 : Int32)   (o : Int32), k_clampInt v1 v2 v3 = o → Go PP m0 0 [.val (.ref 1), .val (.int v1), .val (.int v2), .val (.int v3)] [] (none, [(8, s)]) (some (.int o), (none, [(8, s)])) := by
  intro v1 v2 v3 o hf
  unfold k_clampInt at hf
  refine go_iloadN (pc := 0) d0_0 rfl (go_iloadN (pc := 1) d0_1 rfl ?_)
  by_cases h1 : v1 < v2
  · replace hf := (if_pos h1).symm.trans hf
    refine go_icN (pc := 2) d0_2 (XT.ii_ge_f h1) ?_
    refine go_iloadN (pc := 5) d0_5 rfl ?_
    cases hf
    exact go_iret (pc := 6) rfl d0_6
  · replace hf := (if_neg h1).symm.trans hf
    refine go_icY (pc := 2) (pc' := 7) d0_2 (XT.ii_ge_t h1) j_2_5 ?_
    refine go_iloadN (pc := 7) d0_7 rfl (go_iloadN (pc := 8) d0_8 rfl ?_)
    by_cases h2 : v3 < v1
    · replace hf := (if_pos h2).symm.trans hf
      refine go_icN (pc := 9) d0_9 (XT.ii_le_f h2) ?_
      refine go_iloadN (pc := 12) d0_12 rfl ?_
      cases hf
      exact go_iret (pc := 13) rfl d0_13
    · replace hf := (if_neg h2).symm.trans hf
      refine go_icY (pc := 9) (pc' := 14) d0_9 (XT.ii_le_t h2) j_9_5 ?_
      refine go_iloadN (pc := 14) d0_14 rfl ?_
      cases hf
      exact go_iret (pc := 15) rfl d0_15
theorem c_k_clampInt (v1 : Int32) (v2 : Int32) (v3 : Int32) (s : S) : Call PP m0 [.ref 1, .int v1, .int v2, .int v3] (none, [(8, s)]) (some (.int (k_clampInt v1 v2 v3)), (none, [(8, s)])) := call_of_go pl_0 rfl (fun h => nomatch h) (k_clampInt_ok v1 v2 v3   _ rfl)
set_option maxRecDepth 65536 in
set_option maxHeartbeats 4000000 in
theorem k_lowMask_ok  {s : S} : ∀ (v1 : Int32)   (o : Int64), k_lowMask v1 = o → Go PP m1 0 [.val (.ref 1), .val (.int v1)] [] (none, [(8, s)]) (some (.long o), (none, [(8, s)])) := by
  intro v1 o hf
  unfold k_lowMask at hf
  refine go_iloadN (pc := 0) d1_0 rfl ?_
  by_cases h1 : 0 < v1
  · replace hf := (if_pos h1).symm.trans hf
    refine go_ifY (pc := 1) (pc' := 6) d1_1 (XT.i0_gt_t h1) j_1_5 ?_
    refine go_iloadN (pc := 6) d1_6 rfl (go_bipush (pc := 7) d1_7 cb_64 ?_)
    by_cases h2 : v1 < (64 : Int32)
    · replace hf := (if_pos h2).symm.trans hf
      refine go_icY (pc := 9) (pc' := 16) d1_9 (XT.ii_lt_t h2) j_9_7 ?_
      refine go_lconst (pc := 16) d1_16 cl_1 (go_iloadN (pc := 17) d1_17 rfl (go_lshl (pc := 18) d1_18 (go_lconst (pc := 19) d1_19 cl_1 (go_lsub (pc := 20) d1_20 ?_))))
      cases hf
      exact go_lret (pc := 21) rfl d1_21
    · replace hf := (if_neg h2).symm.trans hf
      refine go_icN (pc := 9) d1_9 (XT.ii_lt_f h2) ?_
      refine go_ldc2 (pc := 12) (u := (-1 : Int64)) d1_12 (List.mem_of_getElem? (i := 92) rfl) ?_
      cases hf
      exact go_lret (pc := 15) rfl d1_15
  · replace hf := (if_neg h1).symm.trans hf
    refine go_ifN (pc := 1) d1_1 (XT.i0_gt_f h1) ?_
    refine go_lconst (pc := 4) d1_4 cl_0 ?_
    cases hf
    exact go_lret (pc := 5) rfl d1_5
theorem c_k_lowMask (v1 : Int32) (s : S) : Call PP m1 [.ref 1, .int v1] (none, [(8, s)]) (some (.long (k_lowMask v1)), (none, [(8, s)])) := call_of_go pl_0 rfl (fun h => nomatch h) (k_lowMask_ok v1   _ rfl)
set_option maxRecDepth 65536 in
set_option maxHeartbeats 4000000 in
theorem k_resetAll_63_ok  : ∀  (s : S) (x1 : Slot) (hx1 : k1 x1) (o : S), k_resetAll_63 s = some o → Go PP m2 63 [.val (.ref 1), x1] [] (none, [(8, s)]) (none, (none, [(8, o)])) := by
  intro s x1 hx1 o hf
  unfold k_resetAll_63 at hf
  refine go_aloadN (pc := 63) d2_63 rfl (go_aloadN (pc := 64) d2_64 rfl (go_aloadN (pc := 65) d2_65 rfl (go_getI (pc := 66) fs_40 hm_2 d2_66 ?_)))
  refine go_priv (pc := 69) (i := 0) (as := [.int (gI s 0)]) (rest := [.ref 1]) (w' := (none, [(8, s)])) lk_0_129 pd_1 rfl oid_0 rfl rfl rfl rfl rfl rfl ⟨rfl, rfl, rfl, rfl, rfl⟩ d2_69 (c_k_lowMask (gI s 0) s) ?_
  refine go_putJ (pc := 72) fs_54 hm_2 (wr_2 _) hn_2 d2_72 (go_aloadN (pc := 75) d2_75 rfl (go_lconst (pc := 76) d2_76 cl_0 (go_putJ (pc := 77) fs_132 hm_2 (wr_3 _) hn_2 d2_77 (go_aloadN (pc := 80) d2_80 rfl (go_lconst (pc := 81) d2_81 cl_0 (go_putJ (pc := 82) fs_135 hm_2 (wr_4 _) hn_2 d2_82 (go_aloadN (pc := 85) d2_85 rfl ?_)))))))
  refine go_lconst (pc := 86) d2_86 cl_0 (go_putJ (pc := 87) fs_138 hm_2 (wr_5 _) hn_2 d2_87 (go_aloadN (pc := 90) d2_90 rfl (go_iconst (pc := 91) d2_91 ci_1 (go_putZ (pc := 92) fs_141 hm_2 (wr_6 _) hn_2 (by decide) d2_92 ?_))))
  cases hf
  exact go_ret (pc := 95) rfl d2_95
set_option maxRecDepth 65536 in
set_option maxHeartbeats 4000000 in
theorem k_resetAll_2_ok  : ∀ (n : Nat) (v1 : Int32) (s : S)  (o : S), k_resetAll_2 n v1 s = some o → Go PP m2 2 [.val (.ref 1), .val (.int v1)] [] (none, [(8, s)]) (none, (none, [(8, o)])) := by
  intro n
  induction n with
  | zero => intro v1 s o hf; exact nomatch hf
  | succ n ih =>
    intro v1 s o hf
    unfold k_resetAll_2 at hf
    refine go_iloadN (pc := 2) d2_2 rfl (go_bipush (pc := 3) d2_3 cb_64 ?_)
    by_cases h1 : v1 < (64 : Int32)
    · replace hf := (if_pos h1).symm.trans hf
      refine go_icN (pc := 5) d2_5 (XT.ii_ge_f h1) ?_
      refine go_aloadN (pc := 8) d2_8 rfl (go_getA (pc := 9) fa_7 hm_2 d2_9 rfl (go_iloadN (pc := 12) d2_12 rfl (go_iconst (pc := 13) d2_13 ci_0 ?_)))
      obtain ⟨a14, e2, hf⟩ := Option.bind_eq_some_iff.mp hf
      refine go_bastore (pc := 14) (q := 0) ar_0 (by decide) rfl hn_2 rfl e2 d2_14 ?_
      refine go_aloadN (pc := 15) d2_15 rfl (go_getA (pc := 16) fa_13 hm_2 d2_16 rfl (go_iloadN (pc := 19) d2_19 rfl (go_iconst (pc := 20) d2_20 ci_0 ?_)))
      obtain ⟨a21, e3, hf⟩ := Option.bind_eq_some_iff.mp hf
      refine go_iastore (pc := 21) (q := 1) ar_1 rfl hn_2 e3 d2_21 ?_
      refine go_aloadN (pc := 22) d2_22 rfl (go_getA (pc := 23) fa_17 hm_2 d2_23 rfl (go_iloadN (pc := 26) d2_26 rfl (go_iconst (pc := 27) d2_27 ci_0 ?_)))
      obtain ⟨a28, e4, hf⟩ := Option.bind_eq_some_iff.mp hf
      refine go_iastore (pc := 28) (q := 2) ar_2 rfl hn_2 e4 d2_28 ?_
      refine go_aloadN (pc := 29) d2_29 rfl (go_getA (pc := 30) fa_20 hm_2 d2_30 rfl (go_iloadN (pc := 33) d2_33 rfl (go_iconst (pc := 34) d2_34 ci_m1 ?_)))
      obtain ⟨a35, e5, hf⟩ := Option.bind_eq_some_iff.mp hf
      refine go_iastore (pc := 35) (q := 3) ar_3 rfl hn_2 e5 d2_35 ?_
      refine go_aloadN (pc := 36) d2_36 rfl (go_getA (pc := 37) fa_23 hm_2 d2_37 rfl (go_iloadN (pc := 40) d2_40 rfl (go_iconst (pc := 41) d2_41 ci_m1 ?_)))
      obtain ⟨a42, e6, hf⟩ := Option.bind_eq_some_iff.mp hf
      refine go_iastore (pc := 42) (q := 4) ar_4 rfl hn_2 e6 d2_42 ?_
      refine go_aloadN (pc := 43) d2_43 rfl (go_getA (pc := 44) fa_26 hm_2 d2_44 rfl (go_iloadN (pc := 47) d2_47 rfl (go_iconst (pc := 48) d2_48 ci_m1 ?_)))
      obtain ⟨a49, e7, hf⟩ := Option.bind_eq_some_iff.mp hf
      refine go_iastore (pc := 49) (q := 5) ar_5 rfl hn_2 e7 d2_49 ?_
      refine go_aloadN (pc := 50) d2_50 rfl (go_getA (pc := 51) fa_29 hm_2 d2_51 rfl (go_iloadN (pc := 54) d2_54 rfl (go_iconst (pc := 55) d2_55 ci_m1 ?_)))
      obtain ⟨a56, e8, hf⟩ := Option.bind_eq_some_iff.mp hf
      refine go_iastore (pc := 56) (q := 6) ar_6 rfl hn_2 e8 d2_56 ?_
      refine go_iinc (pc := 57) (L' := [.val (.ref 1), .val (.int (v1 + (1 : Int32)))]) d2_57 rfl ci_1 rfl (go_goto (pc := 60) (pc' := 2) d2_60 j_60_m58 ?_)
      exact ih (v1 + (1 : Int32)) (sA (sA (sA (sA (sA (sA (sA s 0 a14) 1 a21) 2 a28) 3 a35) 4 a42) 5 a49) 6 a56) _ hf
    · replace hf := (if_neg h1).symm.trans hf
      refine go_icY (pc := 5) (pc' := 63) d2_5 (XT.ii_ge_t h1) j_5_58 ?_
      exact k_resetAll_63_ok s (.val (.int v1)) (Or.inr ⟨_, rfl, rfl⟩) _ hf
set_option maxRecDepth 65536 in
set_option maxHeartbeats 4000000 in
theorem k_resetAll_ok  : ∀  (s : S)  (o : S), k_resetAll s = some o → Go PP m2 0 [.val (.ref 1), .unset] [] (none, [(8, s)]) (none, (none, [(8, o)])) := by
  intro s o hf
  unfold k_resetAll at hf
  refine go_iconst (pc := 0) d2_0 ci_0 (go_istoreN (pc := 1) (L' := [.val (.ref 1), .val (.int (0 : Int32))]) d2_1 rfl ?_)
  exact k_resetAll_2_ok BIG (0 : Int32) s _ hf
theorem c_k_resetAll (s : S) (o : S) (hf : k_resetAll s = some o) : Call PP m2 [.ref 1] (none, [(8, s)]) (none, (none, [(8, o)])) := call_of_go pl_0 rfl (fun _ => rfl) (k_resetAll_ok s   _ hf)
set_option maxRecDepth 65536 in
set_option maxHeartbeats 4000000 in
theorem k_init_ok  : ∀ (v1 : Int32) (v2 : Int32)   (o : S), k_init v1 v2 = some o → Go PP m3 0 [.val (.ref 1), .val (.int v1), .val (.int v2)] [] (none, [(0, s0)]) (none, (none, [(8, o)])) := by
  intro v1 v2 o hf
  unfold k_init at hf
  refine go_aloadN (pc := 0) d3_0 rfl ?_
  refine go_objinit (pc := 1) (rest := []) (a := 0) (List.mem_of_getElem? (i := 6) rfl) (List.mem_of_getElem? (i := 7) rfl) (List.mem_of_getElem? (i := 8) rfl) rfl rfl d3_1 ?_
  refine go_aloadN (pc := 4) d3_4 rfl (go_bipush (pc := 5) d3_5 cb_64 ?_)
  refine go_newI (pc := 7) (ty := .byte) rfl (by decide) ar_0 (List.mem_of_getElem? (i := 9) rfl) (List.mem_of_getElem? (i := 10) rfl) hm_3 (Or.inr ⟨List.mem_of_getElem? (i := 11) rfl, rfl⟩) rfl hn_3 (by decide) rfl rfl rfl rfl d3_7 d3_9 ?_
  refine go_aloadN (pc := 12) d3_12 rfl (go_bipush (pc := 13) d3_13 cb_64 ?_)
  refine go_newI (pc := 15) (ty := .int) rfl (by decide) ar_1 (List.mem_of_getElem? (i := 12) rfl) (List.mem_of_getElem? (i := 13) rfl) hm_3 (Or.inr ⟨List.mem_of_getElem? (i := 14) rfl, rfl⟩) rfl hn_3 (by decide) rfl rfl rfl rfl d3_15 d3_17 ?_
  refine go_aloadN (pc := 20) d3_20 rfl (go_bipush (pc := 21) d3_21 cb_64 ?_)
  refine go_newI (pc := 23) (ty := .int) rfl (by decide) ar_2 (List.mem_of_getElem? (i := 12) rfl) (List.mem_of_getElem? (i := 15) rfl) hm_3 (Or.inr ⟨List.mem_of_getElem? (i := 16) rfl, rfl⟩) rfl hn_3 (by decide) rfl rfl rfl rfl d3_23 d3_25 ?_
  refine go_aloadN (pc := 28) d3_28 rfl (go_bipush (pc := 29) d3_29 cb_64 ?_)
  refine go_newI (pc := 31) (ty := .int) rfl (by decide) ar_3 (List.mem_of_getElem? (i := 12) rfl) (List.mem_of_getElem? (i := 17) rfl) hm_3 (Or.inr ⟨List.mem_of_getElem? (i := 18) rfl, rfl⟩) rfl hn_3 (by decide) rfl rfl rfl rfl d3_31 d3_33 ?_
  refine go_aloadN (pc := 36) d3_36 rfl (go_bipush (pc := 37) d3_37 cb_64 ?_)
  refine go_newI (pc := 39) (ty := .int) rfl (by decide) ar_4 (List.mem_of_getElem? (i := 12) rfl) (List.mem_of_getElem? (i := 19) rfl) hm_3 (Or.inr ⟨List.mem_of_getElem? (i := 20) rfl, rfl⟩) rfl hn_3 (by decide) rfl rfl rfl rfl d3_39 d3_41 ?_
  refine go_aloadN (pc := 44) d3_44 rfl (go_bipush (pc := 45) d3_45 cb_64 ?_)
  refine go_newI (pc := 47) (ty := .int) rfl (by decide) ar_5 (List.mem_of_getElem? (i := 12) rfl) (List.mem_of_getElem? (i := 21) rfl) hm_3 (Or.inr ⟨List.mem_of_getElem? (i := 22) rfl, rfl⟩) rfl hn_3 (by decide) rfl rfl rfl rfl d3_47 d3_49 ?_
  refine go_aloadN (pc := 52) d3_52 rfl (go_bipush (pc := 53) d3_53 cb_64 ?_)
  refine go_newI (pc := 55) (ty := .int) rfl (by decide) ar_6 (List.mem_of_getElem? (i := 12) rfl) (List.mem_of_getElem? (i := 23) rfl) hm_3 (Or.inr ⟨List.mem_of_getElem? (i := 24) rfl, rfl⟩) rfl hn_3 (by decide) rfl rfl rfl rfl d3_55 d3_57 ?_
  refine go_aloadN (pc := 60) d3_60 rfl (go_bipush (pc := 61) d3_61 cb_7 ?_)
  refine go_newJ (pc := 63) ar_7 (List.mem_of_getElem? (i := 25) rfl) (List.mem_of_getElem? (i := 26) rfl) hm_3 (Or.inr ⟨List.mem_of_getElem? (i := 27) rfl, rfl⟩) rfl hn_3 (by decide) rfl rfl rfl rfl d3_63 d3_65 ?_
  refine go_aloadN (pc := 68) d3_68 rfl (go_aloadN (pc := 69) d3_69 rfl (go_iloadN (pc := 70) d3_70 rfl (go_bipush (pc := 71) d3_71 cb_8 (go_bipush (pc := 73) d3_73 cb_64 ?_))))
  refine go_priv (pc := 75) (i := 0) (as := [.int v1, .int (8 : Int32), .int (64 : Int32)]) (rest := [.ref 1]) (w' := (none, [(8, sB (sA (sA (sA (sA (sA (sA (sA s0 0 (rep 64 0)) 1 (rep 64 0)) 2 (rep 64 0)) 3 (rep 64 0)) 4 (rep 64 0)) 5 (rep 64 0)) 6 (rep 64 0)) 7 (rep 7 0))])) lk_0_36 pd_0 rfl oid_0 rfl rfl rfl rfl rfl rfl ⟨rfl, rfl, rfl, rfl, rfl⟩ d3_75 (c_k_clampInt v1 (8 : Int32) (64 : Int32) (sB (sA (sA (sA (sA (sA (sA (sA s0 0 (rep 64 0)) 1 (rep 64 0)) 2 (rep 64 0)) 3 (rep 64 0)) 4 (rep 64 0)) 5 (rep 64 0)) 6 (rep 64 0)) 7 (rep 7 0))) ?_
  refine go_putI (pc := 78) fs_40 hm_3 (wr_0 _) hn_3 d3_78 (go_aloadN (pc := 81) d3_81 rfl (go_aloadN (pc := 82) d3_82 rfl (go_iloadN (pc := 83) d3_83 rfl (go_iconst (pc := 84) d3_84 ci_4 (go_bipush (pc := 85) d3_85 cb_16 ?_)))))
  refine go_priv (pc := 87) (i := 0) (as := [.int v2, .int (4 : Int32), .int (16 : Int32)]) (rest := [.ref 1]) (w' := (none, [(8, sI (sB (sA (sA (sA (sA (sA (sA (sA s0 0 (rep 64 0)) 1 (rep 64 0)) 2 (rep 64 0)) 3 (rep 64 0)) 4 (rep 64 0)) 5 (rep 64 0)) 6 (rep 64 0)) 7 (rep 7 0)) 0 (k_clampInt v1 (8 : Int32) (64 : Int32)))])) lk_0_36 pd_0 rfl oid_0 rfl rfl rfl rfl rfl rfl ⟨rfl, rfl, rfl, rfl, rfl⟩ d3_87 (c_k_clampInt v2 (4 : Int32) (16 : Int32) (sI (sB (sA (sA (sA (sA (sA (sA (sA s0 0 (rep 64 0)) 1 (rep 64 0)) 2 (rep 64 0)) 3 (rep 64 0)) 4 (rep 64 0)) 5 (rep 64 0)) 6 (rep 64 0)) 7 (rep 7 0)) 0 (k_clampInt v1 (8 : Int32) (64 : Int32)))) ?_
  refine go_putI (pc := 90) fs_44 hm_3 (wr_1 _) hn_3 d3_90 (go_aloadN (pc := 93) d3_93 rfl ?_)
  obtain ⟨r94, e9, hf⟩ := Option.bind_eq_some_iff.mp hf
  refine go_priv (pc := 94) (i := 0) (as := []) (rest := []) (w' := (none, [(8, r94)])) lk_0_47 pd_2 rfl oid_0 rfl rfl rfl rfl rfl rfl ⟨rfl, rfl, rfl, rfl, rfl⟩ d3_94 (c_k_resetAll (sI (sI (sB (sA (sA (sA (sA (sA (sA (sA s0 0 (rep 64 0)) 1 (rep 64 0)) 2 (rep 64 0)) 3 (rep 64 0)) 4 (rep 64 0)) 5 (rep 64 0)) 6 (rep 64 0)) 7 (rep 7 0)) 0 (k_clampInt v1 (8 : Int32) (64 : Int32))) 1 (k_clampInt v2 (4 : Int32) (16 : Int32))) _ e9) ?_
  cases hf
  exact go_ret (pc := 97) rfl d3_97
theorem c_k_init (v1 : Int32) (v2 : Int32) (o : S) (hf : k_init v1 v2 = some o) : Call PP m3 [.ref 1, .int v1, .int v2] (none, [(0, s0)]) (none, (none, [(8, o)])) := call_of_go pl_0 rfl (fun _ => rfl) (k_init_ok v1 v2   _ hf)
set_option maxRecDepth 65536 in
set_option maxHeartbeats 4000000 in
theorem k_pageInRange_ok  : ∀ (v1 : Int32) (v2 : Int32) (s : S)  (o : Int32), k_pageInRange v1 v2 s = o → Go PP m4 0 [.val (.ref 1), .val (.int v1), .val (.int v2)] [] (none, [(8, s)]) (some (.int o), (none, [(8, s)])) := by
  intro v1 v2 s o hf
  unfold k_pageInRange at hf
  refine go_iloadN (pc := 0) d4_0 rfl ?_
  by_cases h1 : v1 < 0
  · replace hf := (if_pos h1).symm.trans hf
    refine go_ifY (pc := 1) (pc' := 9) d4_1 (XT.i0_lt_t h1) j_1_8 ?_
    refine go_iconst (pc := 9) d4_9 ci_0 ?_
    cases hf
    exact go_zret (pc := 10) rfl d4_10 (show (0 : Int32) = nar .boolean (0 : Int32) by decide)
  · replace hf := (if_neg h1).symm.trans hf
    refine go_ifN (pc := 1) d4_1 (XT.i0_lt_f h1) ?_
    refine go_iloadN (pc := 4) d4_4 rfl (go_iconst (pc := 5) d4_5 ci_4 ?_)
    by_cases h2 : v1 < (4 : Int32)
    · replace hf := (if_pos h2).symm.trans hf
      refine go_icY (pc := 6) (pc' := 11) d4_6 (XT.ii_lt_t h2) j_6_5 ?_
      refine go_iloadN (pc := 11) d4_11 rfl ?_
      by_cases h3 : v2 < 0
      · replace hf := (if_pos h3).symm.trans hf
        refine go_ifY (pc := 12) (pc' := 27) d4_12 (XT.i0_lt_t h3) j_12_15 ?_
        refine go_iconst (pc := 27) d4_27 ci_0 ?_
        cases hf
        exact go_zret (pc := 28) rfl d4_28 (show (0 : Int32) = nar .boolean (0 : Int32) by decide)
      · replace hf := (if_neg h3).symm.trans hf
        refine go_ifN (pc := 12) d4_12 (XT.i0_lt_f h3) ?_
        refine go_iloadN (pc := 15) d4_15 rfl (go_aloadN (pc := 16) d4_16 rfl (go_getI (pc := 17) fs_44 hm_4 d4_17 ?_))
        by_cases h4 : v2 < (gI s 1)
        · replace hf := (if_pos h4).symm.trans hf
          refine go_icN (pc := 20) d4_20 (XT.ii_ge_f h4) ?_
          refine go_iconst (pc := 23) d4_23 ci_1 (go_goto (pc := 24) (pc' := 28) d4_24 j_24_4 ?_)
          cases hf
          exact go_zret (pc := 28) rfl d4_28 (show (1 : Int32) = nar .boolean (1 : Int32) by decide)
        · replace hf := (if_neg h4).symm.trans hf
          refine go_icY (pc := 20) (pc' := 27) d4_20 (XT.ii_ge_t h4) j_20_7 ?_
          refine go_iconst (pc := 27) d4_27 ci_0 ?_
          cases hf
          exact go_zret (pc := 28) rfl d4_28 (show (0 : Int32) = nar .boolean (0 : Int32) by decide)
    · replace hf := (if_neg h2).symm.trans hf
      refine go_icN (pc := 6) d4_6 (XT.ii_lt_f h2) ?_
      refine go_iconst (pc := 9) d4_9 ci_0 ?_
      cases hf
      exact go_zret (pc := 10) rfl d4_10 (show (0 : Int32) = nar .boolean (0 : Int32) by decide)
theorem c_k_pageInRange (v1 : Int32) (v2 : Int32) (s : S) : Call PP m4 [.ref 1, .int v1, .int v2] (none, [(8, s)]) (some (.int (k_pageInRange v1 v2 s)), (none, [(8, s)])) := call_of_go pl_0 rfl (fun h => nomatch h) (k_pageInRange_ok v1 v2 s   _ rfl)
set_option maxRecDepth 65536 in
set_option maxHeartbeats 4000000 in
theorem k_slotOf_ok  {s : S} : ∀ (v1 : Int32) (v2 : Int32)   (o : Int32), k_slotOf v1 v2 = o → Go PP m5 0 [.val (.ref 1), .val (.int v1), .val (.int v2)] [] (none, [(8, s)]) (some (.int o), (none, [(8, s)])) := by
  intro v1 v2 o hf
  unfold k_slotOf at hf
  refine go_iloadN (pc := 0) d5_0 rfl (go_bipush (pc := 1) d5_1 cb_16 (go_imul (pc := 3) d5_3 (go_iloadN (pc := 4) d5_4 rfl (go_iadd (pc := 5) d5_5 ?_))))
  cases hf
  exact go_iret (pc := 6) rfl d5_6
theorem c_k_slotOf (v1 : Int32) (v2 : Int32) (s : S) : Call PP m5 [.ref 1, .int v1, .int v2] (none, [(8, s)]) (some (.int (k_slotOf v1 v2)), (none, [(8, s)])) := call_of_go pl_0 rfl (fun h => nomatch h) (k_slotOf_ok v1 v2   _ rfl)
set_option maxRecDepth 65536 in
set_option maxHeartbeats 4000000 in
theorem k_checkTarget_ok  : ∀ (v1 : Int32) (v2 : Int32) (s : S)  (o : Int32), k_checkTarget v1 v2 s = some o → Go PP m6 0 [.val (.ref 1), .val (.int v1), .val (.int v2), .unset] [] (none, [(8, s)]) (some (.int o), (none, [(8, s)])) := by
  intro v1 v2 s o hf
  unfold k_checkTarget at hf
  refine go_aloadN (pc := 0) d6_0 rfl (go_iloadN (pc := 1) d6_1 rfl (go_iloadN (pc := 2) d6_2 rfl ?_))
  refine go_priv (pc := 3) (i := 0) (as := [.int v1, .int v2]) (rest := []) (w' := (none, [(8, s)])) lk_0_76 pd_4 rfl oid_0 rfl rfl rfl rfl rfl rfl ⟨rfl, rfl, rfl, rfl, rfl⟩ d6_3 (c_k_pageInRange v1 v2 s) ?_
  by_cases h1 : (k_pageInRange v1 v2 s) = 0
  · replace hf := (if_pos h1).symm.trans hf
    refine go_ifN (pc := 6) d6_6 (XT.i0_ne_f h1) ?_
    refine go_iconst (pc := 9) d6_9 ci_m1 ?_
    cases hf
    exact go_iret (pc := 10) rfl d6_10
  · replace hf := (if_neg h1).symm.trans hf
    refine go_ifY (pc := 6) (pc' := 11) d6_6 (XT.i0_ne_t h1) j_6_5 ?_
    refine go_aloadN (pc := 11) d6_11 rfl (go_iloadN (pc := 12) d6_12 rfl (go_iloadN (pc := 13) d6_13 rfl ?_))
    refine go_priv (pc := 14) (i := 0) (as := [.int v1, .int v2]) (rest := []) (w' := (none, [(8, s)])) lk_0_66 pd_5 rfl oid_0 rfl rfl rfl rfl rfl rfl ⟨rfl, rfl, rfl, rfl, rfl⟩ d6_14 (c_k_slotOf v1 v2 s) ?_
    refine go_istoreN (pc := 17) (L' := [.val (.ref 1), .val (.int v1), .val (.int v2), .val (.int (k_slotOf v1 v2))]) d6_17 rfl (go_aloadN (pc := 18) d6_18 rfl (go_getA (pc := 19) fa_20 hm_6 d6_19 rfl (go_iloadN (pc := 22) d6_22 rfl ?_)))
    obtain ⟨a23, e2, hf⟩ := Option.bind_eq_some_iff.mp hf
    refine go_iaload (pc := 23) (q := 3) ar_3 rfl e2 d6_23 ?_
    by_cases h3 : a23 < 0
    · replace hf := (if_pos h3).symm.trans hf
      refine go_ifY (pc := 24) (pc' := 30) d6_24 (XT.i0_lt_t h3) j_24_6 ?_
      refine go_iconst (pc := 30) d6_30 ci_0 ?_
      cases hf
      exact go_iret (pc := 31) rfl d6_31
    · replace hf := (if_neg h3).symm.trans hf
      refine go_ifN (pc := 24) d6_24 (XT.i0_lt_f h3) ?_
      refine go_bipush (pc := 27) d6_27 cb_m2 ?_
      cases hf
      exact go_iret (pc := 29) rfl d6_29
theorem c_k_checkTarget (v1 : Int32) (v2 : Int32) (s : S) (o : Int32) (hf : k_checkTarget v1 v2 s = some o) : Call PP m6 [.ref 1, .int v1, .int v2] (none, [(8, s)]) (some (.int o), (none, [(8, s)])) := call_of_go pl_0 rfl (fun h => nomatch h) (k_checkTarget_ok v1 v2 s   _ hf)
set_option maxRecDepth 65536 in
set_option maxHeartbeats 4000000 in
theorem k_lowestBit_116_ok  {s : S} : ∀ (v3 : Int32) (v4 : Int64)  (x1 : Slot) (x2 : Slot) (hx1 : k2 x1 x2) (o : Int32), k_lowestBit_116 v3 v4 = o → Go PP m7 116 [.val (.ref 1), x1, x2, .val (.int v3), .val (.long v4), .second] [] (none, [(8, s)]) (some (.int o), (none, [(8, s)])) := by
  intro v3 v4 x1 x2 hx1 o hf
  unfold k_lowestBit_116 at hf
  refine go_lload (pc := 116) d7_116 rfl (go_lconst (pc := 118) d7_118 cl_1 (go_land (pc := 119) d7_119 (go_lconst (pc := 120) d7_120 cl_0 (go_lcmp (pc := 121) d7_121 ?_))))
  by_cases h2 : (v4 &&& (1 : Int64)) = (0 : Int64)
  · replace hf := (if_pos h2).symm.trans hf
    refine go_ifN (pc := 122) d7_122 (XT.ll_ne_f h2) ?_
    refine go_iinc (pc := 125) (L' := [.val (.ref 1), x1, x2, .val (.int (v3 + (1 : Int32))), .val (.long v4), .second]) d7_125 rfl ci_1 rfl (go_iloadN (pc := 128) d7_128 rfl ?_)
    cases hf
    exact go_iret (pc := 129) rfl d7_129
  · replace hf := (if_neg h2).symm.trans hf
    refine go_ifY (pc := 122) (pc' := 128) d7_122 (XT.ll_ne_t h2) j_122_6 ?_
    refine go_iloadN (pc := 128) d7_128 rfl ?_
    cases hf
    exact go_iret (pc := 129) rfl d7_129
set_option maxRecDepth 65536 in
set_option maxHeartbeats 4000000 in
theorem k_lowestBit_96_ok  {s : S} : ∀ (v3 : Int32) (v4 : Int64)  (x1 : Slot) (x2 : Slot) (hx1 : k2 x1 x2) (o : Int32), k_lowestBit_96 v3 v4 = o → Go PP m7 96 [.val (.ref 1), x1, x2, .val (.int v3), .val (.long v4), .second] [] (none, [(8, s)]) (some (.int o), (none, [(8, s)])) := by
  intro v3 v4 x1 x2 hx1 o hf
  unfold k_lowestBit_96 at hf
  refine go_lload (pc := 96) d7_96 rfl (go_ldc2 (pc := 98) (u := (3 : Int64)) d7_98 (List.mem_of_getElem? (i := 79) rfl) (go_land (pc := 101) d7_101 (go_lconst (pc := 102) d7_102 cl_0 (go_lcmp (pc := 103) d7_103 ?_))))
  by_cases h1 : (v4 &&& (3 : Int64)) = (0 : Int64)
  · refine go_ifN (pc := 104) d7_104 (XT.ll_ne_f h1) ?_
    refine go_iinc (pc := 107) (L' := [.val (.ref 1), x1, x2, .val (.int (v3 + (2 : Int32))), .val (.long v4), .second]) d7_107 rfl ci_2 rfl (go_lload (pc := 110) d7_110 rfl (go_iconst (pc := 112) d7_112 ci_2 (go_lushr (pc := 113) d7_113 (go_lstore (pc := 114) (L' := [.val (.ref 1), x1, x2, .val (.int (v3 + (2 : Int32))), .val (.long (XT.ushrL v4 (2 : Int32))), .second]) d7_114 rfl ?_))))
    exact k_lowestBit_116_ok (v3 + (2 : Int32)) (XT.ushrL v4 (2 : Int32)) x1 x2 hx1 _ (by simpa only [if_pos h1] using hf)
  · refine go_ifY (pc := 104) (pc' := 116) d7_104 (XT.ll_ne_t h1) j_104_12 ?_
    exact k_lowestBit_116_ok v3 v4 x1 x2 hx1 _ (by simpa only [if_neg h1] using hf)
set_option maxRecDepth 65536 in
set_option maxHeartbeats 4000000 in
theorem k_lowestBit_76_ok  {s : S} : ∀ (v3 : Int32) (v4 : Int64)  (x1 : Slot) (x2 : Slot) (hx1 : k2 x1 x2) (o : Int32), k_lowestBit_76 v3 v4 = o → Go PP m7 76 [.val (.ref 1), x1, x2, .val (.int v3), .val (.long v4), .second] [] (none, [(8, s)]) (some (.int o), (none, [(8, s)])) := by
  intro v3 v4 x1 x2 hx1 o hf
  unfold k_lowestBit_76 at hf
  refine go_lload (pc := 76) d7_76 rfl (go_ldc2 (pc := 78) (u := (15 : Int64)) d7_78 (List.mem_of_getElem? (i := 78) rfl) (go_land (pc := 81) d7_81 (go_lconst (pc := 82) d7_82 cl_0 (go_lcmp (pc := 83) d7_83 ?_))))
  by_cases h1 : (v4 &&& (15 : Int64)) = (0 : Int64)
  · refine go_ifN (pc := 84) d7_84 (XT.ll_ne_f h1) ?_
    refine go_iinc (pc := 87) (L' := [.val (.ref 1), x1, x2, .val (.int (v3 + (4 : Int32))), .val (.long v4), .second]) d7_87 rfl ci_4 rfl (go_lload (pc := 90) d7_90 rfl (go_iconst (pc := 92) d7_92 ci_4 (go_lushr (pc := 93) d7_93 (go_lstore (pc := 94) (L' := [.val (.ref 1), x1, x2, .val (.int (v3 + (4 : Int32))), .val (.long (XT.ushrL v4 (4 : Int32))), .second]) d7_94 rfl ?_))))
    exact k_lowestBit_96_ok (v3 + (4 : Int32)) (XT.ushrL v4 (4 : Int32)) x1 x2 hx1 _ (by simpa only [if_pos h1] using hf)
  · refine go_ifY (pc := 84) (pc' := 96) d7_84 (XT.ll_ne_t h1) j_84_12 ?_
    exact k_lowestBit_96_ok v3 v4 x1 x2 hx1 _ (by simpa only [if_neg h1] using hf)
set_option maxRecDepth 65536 in
set_option maxHeartbeats 4000000 in
theorem k_lowestBit_55_ok  {s : S} : ∀ (v3 : Int32) (v4 : Int64)  (x1 : Slot) (x2 : Slot) (hx1 : k2 x1 x2) (o : Int32), k_lowestBit_55 v3 v4 = o → Go PP m7 55 [.val (.ref 1), x1, x2, .val (.int v3), .val (.long v4), .second] [] (none, [(8, s)]) (some (.int o), (none, [(8, s)])) := by
  intro v3 v4 x1 x2 hx1 o hf
  unfold k_lowestBit_55 at hf
  refine go_lload (pc := 55) d7_55 rfl (go_ldc2 (pc := 57) (u := (255 : Int64)) d7_57 (List.mem_of_getElem? (i := 77) rfl) (go_land (pc := 60) d7_60 (go_lconst (pc := 61) d7_61 cl_0 (go_lcmp (pc := 62) d7_62 ?_))))
  by_cases h1 : (v4 &&& (255 : Int64)) = (0 : Int64)
  · refine go_ifN (pc := 63) d7_63 (XT.ll_ne_f h1) ?_
    refine go_iinc (pc := 66) (L' := [.val (.ref 1), x1, x2, .val (.int (v3 + (8 : Int32))), .val (.long v4), .second]) d7_66 rfl ci_8 rfl (go_lload (pc := 69) d7_69 rfl (go_bipush (pc := 71) d7_71 cb_8 (go_lushr (pc := 73) d7_73 (go_lstore (pc := 74) (L' := [.val (.ref 1), x1, x2, .val (.int (v3 + (8 : Int32))), .val (.long (XT.ushrL v4 (8 : Int32))), .second]) d7_74 rfl ?_))))
    exact k_lowestBit_76_ok (v3 + (8 : Int32)) (XT.ushrL v4 (8 : Int32)) x1 x2 hx1 _ (by simpa only [if_pos h1] using hf)
  · refine go_ifY (pc := 63) (pc' := 76) d7_63 (XT.ll_ne_t h1) j_63_13 ?_
    exact k_lowestBit_76_ok v3 v4 x1 x2 hx1 _ (by simpa only [if_neg h1] using hf)
set_option maxRecDepth 65536 in
set_option maxHeartbeats 4000000 in
theorem k_lowestBit_34_ok  {s : S} : ∀ (v3 : Int32) (v4 : Int64)  (x1 : Slot) (x2 : Slot) (hx1 : k2 x1 x2) (o : Int32), k_lowestBit_34 v3 v4 = o → Go PP m7 34 [.val (.ref 1), x1, x2, .val (.int v3), .val (.long v4), .second] [] (none, [(8, s)]) (some (.int o), (none, [(8, s)])) := by
  intro v3 v4 x1 x2 hx1 o hf
  unfold k_lowestBit_34 at hf
  refine go_lload (pc := 34) d7_34 rfl (go_ldc2 (pc := 36) (u := (65535 : Int64)) d7_36 (List.mem_of_getElem? (i := 76) rfl) (go_land (pc := 39) d7_39 (go_lconst (pc := 40) d7_40 cl_0 (go_lcmp (pc := 41) d7_41 ?_))))
  by_cases h1 : (v4 &&& (65535 : Int64)) = (0 : Int64)
  · refine go_ifN (pc := 42) d7_42 (XT.ll_ne_f h1) ?_
    refine go_iinc (pc := 45) (L' := [.val (.ref 1), x1, x2, .val (.int (v3 + (16 : Int32))), .val (.long v4), .second]) d7_45 rfl ci_16 rfl (go_lload (pc := 48) d7_48 rfl (go_bipush (pc := 50) d7_50 cb_16 (go_lushr (pc := 52) d7_52 (go_lstore (pc := 53) (L' := [.val (.ref 1), x1, x2, .val (.int (v3 + (16 : Int32))), .val (.long (XT.ushrL v4 (16 : Int32))), .second]) d7_53 rfl ?_))))
    exact k_lowestBit_55_ok (v3 + (16 : Int32)) (XT.ushrL v4 (16 : Int32)) x1 x2 hx1 _ (by simpa only [if_pos h1] using hf)
  · refine go_ifY (pc := 42) (pc' := 55) d7_42 (XT.ll_ne_t h1) j_42_13 ?_
    exact k_lowestBit_55_ok v3 v4 x1 x2 hx1 _ (by simpa only [if_neg h1] using hf)
set_option maxRecDepth 65536 in
set_option maxHeartbeats 4000000 in
theorem k_lowestBit_ok  {s : S} : ∀ (v1 : Int64)   (o : Int32), k_lowestBit v1 = o → Go PP m7 0 [.val (.ref 1), .val (.long v1), .second, .unset, .unset, .unset] [] (none, [(8, s)]) (some (.int o), (none, [(8, s)])) := by
  intro v1 o hf
  unfold k_lowestBit at hf
  refine go_lloadN (pc := 0) d7_0 rfl (go_lconst (pc := 1) d7_1 cl_0 (go_lcmp (pc := 2) d7_2 ?_))
  by_cases h1 : v1 = (0 : Int64)
  · replace hf := (if_pos h1).symm.trans hf
    refine go_ifN (pc := 3) d7_3 (XT.ll_ne_f h1) ?_
    refine go_iconst (pc := 6) d7_6 ci_m1 ?_
    cases hf
    exact go_iret (pc := 7) rfl d7_7
  · replace hf := (if_neg h1).symm.trans hf
    refine go_ifY (pc := 3) (pc' := 8) d7_3 (XT.ll_ne_t h1) j_3_5 ?_
    refine go_iconst (pc := 8) d7_8 ci_0 (go_istoreN (pc := 9) (L' := [.val (.ref 1), .val (.long v1), .second, .val (.int (0 : Int32)), .unset, .unset]) d7_9 rfl (go_lloadN (pc := 10) d7_10 rfl (go_lstore (pc := 11) (L' := [.val (.ref 1), .val (.long v1), .second, .val (.int (0 : Int32)), .val (.long v1), .second]) d7_11 rfl (go_lload (pc := 13) d7_13 rfl (go_ldc2 (pc := 15) (u := (4294967295 : Int64)) d7_15 (List.mem_of_getElem? (i := 75) rfl) (go_land (pc := 18) d7_18 (go_lconst (pc := 19) d7_19 cl_0 ?_)))))))
    refine go_lcmp (pc := 20) d7_20 ?_
    by_cases h2 : (v1 &&& (4294967295 : Int64)) = (0 : Int64)
    · refine go_ifN (pc := 21) d7_21 (XT.ll_ne_f h2) ?_
      refine go_iinc (pc := 24) (L' := [.val (.ref 1), .val (.long v1), .second, .val (.int ((0 : Int32) + (32 : Int32))), .val (.long v1), .second]) d7_24 rfl ci_32 rfl (go_lload (pc := 27) d7_27 rfl (go_bipush (pc := 29) d7_29 cb_32 (go_lushr (pc := 31) d7_31 (go_lstore (pc := 32) (L' := [.val (.ref 1), .val (.long v1), .second, .val (.int ((0 : Int32) + (32 : Int32))), .val (.long (XT.ushrL v1 (32 : Int32))), .second]) d7_32 rfl ?_))))
      exact k_lowestBit_34_ok ((0 : Int32) + (32 : Int32)) (XT.ushrL v1 (32 : Int32)) (.val (.long v1)) .second (Or.inr ⟨_, rfl, rfl⟩) _ (by simpa only [if_pos h2] using hf)
    · refine go_ifY (pc := 21) (pc' := 34) d7_21 (XT.ll_ne_t h2) j_21_13 ?_
      exact k_lowestBit_34_ok (0 : Int32) v1 (.val (.long v1)) .second (Or.inr ⟨_, rfl, rfl⟩) _ (by simpa only [if_neg h2] using hf)
theorem c_k_lowestBit (v1 : Int64) (s : S) : Call PP m7 [.ref 1, .long v1] (none, [(8, s)]) (some (.int (k_lowestBit v1)), (none, [(8, s)])) := call_of_go pl_0 rfl (fun h => nomatch h) (k_lowestBit_ok v1   _ rfl)
set_option maxRecDepth 65536 in
set_option maxHeartbeats 4000000 in
theorem k_frameInRange_ok  : ∀ (v1 : Int32) (s : S)  (o : Int32), k_frameInRange v1 s = o → Go PP m8 0 [.val (.ref 1), .val (.int v1)] [] (none, [(8, s)]) (some (.int o), (none, [(8, s)])) := by
  intro v1 s o hf
  unfold k_frameInRange at hf
  refine go_iloadN (pc := 0) d8_0 rfl ?_
  by_cases h1 : v1 < 0
  · replace hf := (if_pos h1).symm.trans hf
    refine go_ifY (pc := 1) (pc' := 16) d8_1 (XT.i0_lt_t h1) j_1_15 ?_
    refine go_iconst (pc := 16) d8_16 ci_0 ?_
    cases hf
    exact go_zret (pc := 17) rfl d8_17 (show (0 : Int32) = nar .boolean (0 : Int32) by decide)
  · replace hf := (if_neg h1).symm.trans hf
    refine go_ifN (pc := 1) d8_1 (XT.i0_lt_f h1) ?_
    refine go_iloadN (pc := 4) d8_4 rfl (go_aloadN (pc := 5) d8_5 rfl (go_getI (pc := 6) fs_40 hm_8 d8_6 ?_))
    by_cases h2 : v1 < (gI s 0)
    · replace hf := (if_pos h2).symm.trans hf
      refine go_icN (pc := 9) d8_9 (XT.ii_ge_f h2) ?_
      refine go_iconst (pc := 12) d8_12 ci_1 (go_goto (pc := 13) (pc' := 17) d8_13 j_13_4 ?_)
      cases hf
      exact go_zret (pc := 17) rfl d8_17 (show (1 : Int32) = nar .boolean (1 : Int32) by decide)
    · replace hf := (if_neg h2).symm.trans hf
      refine go_icY (pc := 9) (pc' := 16) d8_9 (XT.ii_ge_t h2) j_9_7 ?_
      refine go_iconst (pc := 16) d8_16 ci_0 ?_
      cases hf
      exact go_zret (pc := 17) rfl d8_17 (show (0 : Int32) = nar .boolean (0 : Int32) by decide)
theorem c_k_frameInRange (v1 : Int32) (s : S) : Call PP m8 [.ref 1, .int v1] (none, [(8, s)]) (some (.int (k_frameInRange v1 s)), (none, [(8, s)])) := call_of_go pl_0 rfl (fun h => nomatch h) (k_frameInRange_ok v1 s   _ rfl)
set_option maxRecDepth 65536 in
set_option maxHeartbeats 4000000 in
theorem k_bitOf_10_ok  {s : S} : ∀   (x1 : Slot) (hx1 : k1 x1) (o : Int64), k_bitOf_10 = o → Go PP m9 10 [.val (.ref 1), x1] [] (none, [(8, s)]) (some (.long o), (none, [(8, s)])) := by
  intro x1 hx1 o hf
  unfold k_bitOf_10 at hf
  refine go_lconst (pc := 10) d9_10 cl_0 ?_
  cases hf
  exact go_lret (pc := 11) rfl d9_11
set_option maxRecDepth 65536 in
set_option maxHeartbeats 4000000 in
theorem k_bitOf_ok  {s : S} : ∀ (v1 : Int32)   (o : Int64), k_bitOf v1 = o → Go PP m9 0 [.val (.ref 1), .val (.int v1)] [] (none, [(8, s)]) (some (.long o), (none, [(8, s)])) := by
  intro v1 o hf
  unfold k_bitOf at hf
  refine go_iloadN (pc := 0) d9_0 rfl ?_
  by_cases h1 : v1 < 0
  · replace hf := (if_pos h1).symm.trans hf
    refine go_ifY (pc := 1) (pc' := 10) d9_1 (XT.i0_lt_t h1) j_1_9 ?_
    exact k_bitOf_10_ok (.val (.int v1)) (Or.inr ⟨_, rfl, rfl⟩) _ hf
  · replace hf := (if_neg h1).symm.trans hf
    refine go_ifN (pc := 1) d9_1 (XT.i0_lt_f h1) ?_
    refine go_iloadN (pc := 4) d9_4 rfl (go_bipush (pc := 5) d9_5 cb_63 ?_)
    by_cases h2 : (63 : Int32) < v1
    · replace hf := (if_pos h2).symm.trans hf
      refine go_icN (pc := 7) d9_7 (XT.ii_le_f h2) ?_
      exact k_bitOf_10_ok (.val (.int v1)) (Or.inr ⟨_, rfl, rfl⟩) _ hf
    · replace hf := (if_neg h2).symm.trans hf
      refine go_icY (pc := 7) (pc' := 12) d9_7 (XT.ii_le_t h2) j_7_5 ?_
      refine go_lconst (pc := 12) d9_12 cl_1 (go_iloadN (pc := 13) d9_13 rfl (go_lshl (pc := 14) d9_14 ?_))
      cases hf
      exact go_lret (pc := 15) rfl d9_15
theorem c_k_bitOf (v1 : Int32) (s : S) : Call PP m9 [.ref 1, .int v1] (none, [(8, s)]) (some (.long (k_bitOf v1)), (none, [(8, s)])) := call_of_go pl_0 rfl (fun h => nomatch h) (k_bitOf_ok v1   _ rfl)
set_option maxRecDepth 65536 in
set_option maxHeartbeats 4000000 in
theorem k_enterState_134_ok  : ∀ (v1 : Int32) (v2 : Int32) (s : S) (x3 : Slot) (x4 : Slot) (hx3 : k2 x3 x4) (o : S), k_enterState_134 v1 v2 s = some o → Go PP m10 134 [.val (.ref 1), .val (.int v1), .val (.int v2), x3, x4] [] (none, [(8, s)]) (none, (none, [(8, o)])) := by
  intro v1 v2 s x3 x4 hx3 o hf
  unfold k_enterState_134 at hf
  refine go_aloadN (pc := 134) d10_134 rfl (go_getA (pc := 135) fa_7 hm_10 d10_135 rfl (go_iloadN (pc := 138) d10_138 rfl (go_iloadN (pc := 139) d10_139 rfl (go_i2b (pc := 140) d10_140 ?_))))
  obtain ⟨a141, e1, hf⟩ := Option.bind_eq_some_iff.mp hf
  refine go_bastore (pc := 141) (q := 0) ar_0 (by decide) rfl hn_10 rfl e1 d10_141 ?_
  refine go_aloadN (pc := 142) d10_142 rfl (go_iconst (pc := 143) d10_143 ci_1 (go_putZ (pc := 144) fs_141 hm_10 (wr_6 _) hn_10 (by decide) d10_144 ?_))
  cases hf
  exact go_ret (pc := 147) rfl d10_147
set_option maxRecDepth 65536 in
set_option maxHeartbeats 4000000 in
theorem k_enterState_ok  : ∀ (v1 : Int32) (v2 : Int32) (s : S)  (o : S), k_enterState v1 v2 s = some o → Go PP m10 0 [.val (.ref 1), .val (.int v1), .val (.int v2), .unset, .unset] [] (none, [(8, s)]) (none, (none, [(8, o)])) := by
  intro v1 v2 s o hf
  unfold k_enterState at hf
  refine go_aloadN (pc := 0) d10_0 rfl (go_iloadN (pc := 1) d10_1 rfl ?_)
  refine go_priv (pc := 2) (i := 0) (as := [.int v1]) (rest := []) (w' := (none, [(8, s)])) lk_0_62 pd_8 rfl oid_0 rfl rfl rfl rfl rfl rfl ⟨rfl, rfl, rfl, rfl, rfl⟩ d10_2 (c_k_frameInRange v1 s) ?_
  by_cases h1 : (k_frameInRange v1 s) = 0
  · replace hf := (if_pos h1).symm.trans hf
    refine go_ifN (pc := 5) d10_5 (XT.i0_ne_f h1) ?_
    cases hf
    exact go_ret (pc := 8) rfl d10_8
  · replace hf := (if_neg h1).symm.trans hf
    refine go_ifY (pc := 5) (pc' := 9) d10_5 (XT.i0_ne_t h1) j_5_4 ?_
    refine go_aloadN (pc := 9) d10_9 rfl (go_iloadN (pc := 10) d10_10 rfl ?_)
    refine go_priv (pc := 11) (i := 0) (as := [.int v1]) (rest := []) (w' := (none, [(8, s)])) lk_0_145 pd_9 rfl oid_0 rfl rfl rfl rfl rfl rfl ⟨rfl, rfl, rfl, rfl, rfl⟩ d10_11 (c_k_bitOf v1 s) ?_
    refine go_lstoreN (pc := 14) (L' := [.val (.ref 1), .val (.int v1), .val (.int v2), .val (.long (k_bitOf v1)), .second]) d10_14 rfl (go_aloadN (pc := 15) d10_15 rfl (go_aloadN (pc := 16) d10_16 rfl (go_getJ (pc := 17) fs_54 hm_10 d10_17 (go_lloadN (pc := 20) d10_20 rfl (go_ldc2 (pc := 21) (u := (-1 : Int64)) d10_21 (List.mem_of_getElem? (i := 92) rfl) (go_lxor (pc := 24) d10_24 (go_land (pc := 25) d10_25 ?_)))))))
    refine go_putJ (pc := 26) fs_54 hm_10 (wr_2 _) hn_10 d10_26 (go_aloadN (pc := 29) d10_29 rfl (go_aloadN (pc := 30) d10_30 rfl (go_getJ (pc := 31) fs_132 hm_10 d10_31 (go_lloadN (pc := 34) d10_34 rfl (go_ldc2 (pc := 35) (u := (-1 : Int64)) d10_35 (List.mem_of_getElem? (i := 92) rfl) (go_lxor (pc := 38) d10_38 (go_land (pc := 39) d10_39 ?_)))))))
    refine go_putJ (pc := 40) fs_132 hm_10 (wr_3 _) hn_10 d10_40 (go_aloadN (pc := 43) d10_43 rfl (go_aloadN (pc := 44) d10_44 rfl (go_getJ (pc := 45) fs_135 hm_10 d10_45 (go_lloadN (pc := 48) d10_48 rfl (go_ldc2 (pc := 49) (u := (-1 : Int64)) d10_49 (List.mem_of_getElem? (i := 92) rfl) (go_lxor (pc := 52) d10_52 (go_land (pc := 53) d10_53 ?_)))))))
    refine go_putJ (pc := 54) fs_135 hm_10 (wr_4 _) hn_10 d10_54 (go_aloadN (pc := 57) d10_57 rfl (go_aloadN (pc := 58) d10_58 rfl (go_getJ (pc := 59) fs_138 hm_10 d10_59 (go_lloadN (pc := 62) d10_62 rfl (go_ldc2 (pc := 63) (u := (-1 : Int64)) d10_63 (List.mem_of_getElem? (i := 92) rfl) (go_lxor (pc := 66) d10_66 (go_land (pc := 67) d10_67 ?_)))))))
    refine go_putJ (pc := 68) fs_138 hm_10 (wr_5 _) hn_10 d10_68 (go_iloadN (pc := 71) d10_71 rfl ?_)
    by_cases h2 : v2 = 0
    · replace hf := (if_pos h2).symm.trans hf
      refine go_ifN (pc := 72) d10_72 (XT.i0_ne_f h2) ?_
      refine go_aloadN (pc := 75) d10_75 rfl (go_aloadN (pc := 76) d10_76 rfl (go_getJ (pc := 77) fs_54 hm_10 d10_77 (go_lloadN (pc := 80) d10_80 rfl (go_lor (pc := 81) d10_81 (go_putJ (pc := 82) fs_54 hm_10 (wr_2 _) hn_10 d10_82 (go_goto (pc := 85) (pc' := 134) d10_85 j_85_49 ?_))))))
      exact k_enterState_134_ok v1 v2 (sL (sL (sL (sL (sL s 2 ((gL s 2) &&& ((k_bitOf v1) ^^^ (-1 : Int64)))) 3 ((gL s 3) &&& ((k_bitOf v1) ^^^ (-1 : Int64)))) 4 ((gL s 4) &&& ((k_bitOf v1) ^^^ (-1 : Int64)))) 5 ((gL s 5) &&& ((k_bitOf v1) ^^^ (-1 : Int64)))) 2 (((gL s 2) &&& ((k_bitOf v1) ^^^ (-1 : Int64))) ||| (k_bitOf v1))) (.val (.long (k_bitOf v1))) .second (Or.inr ⟨_, rfl, rfl⟩) _ hf
    · replace hf := (if_neg h2).symm.trans hf
      refine go_ifY (pc := 72) (pc' := 88) d10_72 (XT.i0_ne_t h2) j_72_16 ?_
      refine go_iloadN (pc := 88) d10_88 rfl (go_iconst (pc := 89) d10_89 ci_1 ?_)
      by_cases h3 : v2 = (1 : Int32)
      · replace hf := (if_pos h3).symm.trans hf
        refine go_icN (pc := 90) d10_90 (XT.ii_ne_f h3) ?_
        refine go_aloadN (pc := 93) d10_93 rfl (go_aloadN (pc := 94) d10_94 rfl (go_getJ (pc := 95) fs_132 hm_10 d10_95 (go_lloadN (pc := 98) d10_98 rfl (go_lor (pc := 99) d10_99 (go_putJ (pc := 100) fs_132 hm_10 (wr_3 _) hn_10 d10_100 (go_goto (pc := 103) (pc' := 134) d10_103 j_103_31 ?_))))))
        exact k_enterState_134_ok v1 v2 (sL (sL (sL (sL (sL s 2 ((gL s 2) &&& ((k_bitOf v1) ^^^ (-1 : Int64)))) 3 ((gL s 3) &&& ((k_bitOf v1) ^^^ (-1 : Int64)))) 4 ((gL s 4) &&& ((k_bitOf v1) ^^^ (-1 : Int64)))) 5 ((gL s 5) &&& ((k_bitOf v1) ^^^ (-1 : Int64)))) 3 (((gL s 3) &&& ((k_bitOf v1) ^^^ (-1 : Int64))) ||| (k_bitOf v1))) (.val (.long (k_bitOf v1))) .second (Or.inr ⟨_, rfl, rfl⟩) _ hf
      · replace hf := (if_neg h3).symm.trans hf
        refine go_icY (pc := 90) (pc' := 106) d10_90 (XT.ii_ne_t h3) j_90_16 ?_
        refine go_iloadN (pc := 106) d10_106 rfl (go_iconst (pc := 107) d10_107 ci_2 ?_)
        by_cases h4 : v2 = (2 : Int32)
        · replace hf := (if_pos h4).symm.trans hf
          refine go_icN (pc := 108) d10_108 (XT.ii_ne_f h4) ?_
          refine go_aloadN (pc := 111) d10_111 rfl (go_aloadN (pc := 112) d10_112 rfl (go_getJ (pc := 113) fs_135 hm_10 d10_113 (go_lloadN (pc := 116) d10_116 rfl (go_lor (pc := 117) d10_117 (go_putJ (pc := 118) fs_135 hm_10 (wr_4 _) hn_10 d10_118 (go_goto (pc := 121) (pc' := 134) d10_121 j_121_13 ?_))))))
          exact k_enterState_134_ok v1 v2 (sL (sL (sL (sL (sL s 2 ((gL s 2) &&& ((k_bitOf v1) ^^^ (-1 : Int64)))) 3 ((gL s 3) &&& ((k_bitOf v1) ^^^ (-1 : Int64)))) 4 ((gL s 4) &&& ((k_bitOf v1) ^^^ (-1 : Int64)))) 5 ((gL s 5) &&& ((k_bitOf v1) ^^^ (-1 : Int64)))) 4 (((gL s 4) &&& ((k_bitOf v1) ^^^ (-1 : Int64))) ||| (k_bitOf v1))) (.val (.long (k_bitOf v1))) .second (Or.inr ⟨_, rfl, rfl⟩) _ hf
        · replace hf := (if_neg h4).symm.trans hf
          refine go_icY (pc := 108) (pc' := 124) d10_108 (XT.ii_ne_t h4) j_108_16 ?_
          refine go_aloadN (pc := 124) d10_124 rfl (go_aloadN (pc := 125) d10_125 rfl (go_getJ (pc := 126) fs_138 hm_10 d10_126 (go_lloadN (pc := 129) d10_129 rfl (go_lor (pc := 130) d10_130 (go_putJ (pc := 131) fs_138 hm_10 (wr_5 _) hn_10 d10_131 ?_)))))
          exact k_enterState_134_ok v1 v2 (sL (sL (sL (sL (sL s 2 ((gL s 2) &&& ((k_bitOf v1) ^^^ (-1 : Int64)))) 3 ((gL s 3) &&& ((k_bitOf v1) ^^^ (-1 : Int64)))) 4 ((gL s 4) &&& ((k_bitOf v1) ^^^ (-1 : Int64)))) 5 ((gL s 5) &&& ((k_bitOf v1) ^^^ (-1 : Int64)))) 5 (((gL s 5) &&& ((k_bitOf v1) ^^^ (-1 : Int64))) ||| (k_bitOf v1))) (.val (.long (k_bitOf v1))) .second (Or.inr ⟨_, rfl, rfl⟩) _ hf
theorem c_k_enterState (v1 : Int32) (v2 : Int32) (s : S) (o : S) (hf : k_enterState v1 v2 s = some o) : Call PP m10 [.ref 1, .int v1, .int v2] (none, [(8, s)]) (none, (none, [(8, o)])) := call_of_go pl_0 rfl (fun _ => rfl) (k_enterState_ok v1 v2 s   _ hf)
set_option maxRecDepth 65536 in
set_option maxHeartbeats 4000000 in
theorem k_rmapLink_38_ok  : ∀ (v1 : Int32) (v2 : Int32) (s : S) (x3 : Slot) (hx3 : k1 x3) (o : S), k_rmapLink_38 v1 v2 s = some o → Go PP m11 38 [.val (.ref 1), .val (.int v1), .val (.int v2), x3] [] (none, [(8, s)]) (none, (none, [(8, o)])) := by
  intro v1 v2 s x3 hx3 o hf
  unfold k_rmapLink_38 at hf
  refine go_aloadN (pc := 38) d11_38 rfl (go_getA (pc := 39) fa_23 hm_11 d11_39 rfl (go_iloadN (pc := 42) d11_42 rfl (go_iloadN (pc := 43) d11_43 rfl ?_)))
  obtain ⟨a44, e1, hf⟩ := Option.bind_eq_some_iff.mp hf
  refine go_iastore (pc := 44) (q := 4) ar_4 rfl hn_11 e1 d11_44 ?_
  refine go_aloadN (pc := 45) d11_45 rfl (go_getA (pc := 46) fa_20 hm_11 d11_46 rfl (go_iloadN (pc := 49) d11_49 rfl (go_iloadN (pc := 50) d11_50 rfl ?_)))
  obtain ⟨a51, e2, hf⟩ := Option.bind_eq_some_iff.mp hf
  refine go_iastore (pc := 51) (q := 3) ar_3 rfl hn_11 e2 d11_51 ?_
  cases hf
  exact go_ret (pc := 52) rfl d11_52
set_option maxRecDepth 65536 in
set_option maxHeartbeats 4000000 in
theorem k_rmapLink_ok  : ∀ (v1 : Int32) (v2 : Int32) (s : S)  (o : S), k_rmapLink v1 v2 s = some o → Go PP m11 0 [.val (.ref 1), .val (.int v1), .val (.int v2), .unset] [] (none, [(8, s)]) (none, (none, [(8, o)])) := by
  intro v1 v2 s o hf
  unfold k_rmapLink at hf
  refine go_aloadN (pc := 0) d11_0 rfl (go_getA (pc := 1) fa_23 hm_11 d11_1 rfl (go_iloadN (pc := 4) d11_4 rfl ?_))
  obtain ⟨a5, e1, hf⟩ := Option.bind_eq_some_iff.mp hf
  refine go_iaload (pc := 5) (q := 4) ar_4 rfl e1 d11_5 ?_
  refine go_istoreN (pc := 6) (L' := [.val (.ref 1), .val (.int v1), .val (.int v2), .val (.int a5)]) d11_6 rfl (go_aloadN (pc := 7) d11_7 rfl (go_getA (pc := 8) fa_29 hm_11 d11_8 rfl (go_iloadN (pc := 11) d11_11 rfl (go_iconst (pc := 12) d11_12 ci_m1 ?_))))
  obtain ⟨a13, e2, hf⟩ := Option.bind_eq_some_iff.mp hf
  refine go_iastore (pc := 13) (q := 6) ar_6 rfl hn_11 e2 d11_13 ?_
  refine go_aloadN (pc := 14) d11_14 rfl (go_getA (pc := 15) fa_26 hm_11 d11_15 rfl (go_iloadN (pc := 18) d11_18 rfl (go_iloadN (pc := 19) d11_19 rfl ?_)))
  obtain ⟨a20, e3, hf⟩ := Option.bind_eq_some_iff.mp hf
  refine go_iastore (pc := 20) (q := 5) ar_5 rfl hn_11 e3 d11_20 ?_
  refine go_iloadN (pc := 21) d11_21 rfl ?_
  by_cases h4 : a5 < 0
  · replace hf := (if_pos h4).symm.trans hf
    refine go_ifY (pc := 22) (pc' := 38) d11_22 (XT.i0_lt_t h4) j_22_16 ?_
    exact k_rmapLink_38_ok v1 v2 (sA (sA s 6 a13) 5 a20) (.val (.int a5)) (Or.inr ⟨_, rfl, rfl⟩) _ hf
  · replace hf := (if_neg h4).symm.trans hf
    refine go_ifN (pc := 22) d11_22 (XT.i0_lt_f h4) ?_
    refine go_iloadN (pc := 25) d11_25 rfl (go_bipush (pc := 26) d11_26 cb_64 ?_)
    by_cases h5 : a5 < (64 : Int32)
    · replace hf := (if_pos h5).symm.trans hf
      refine go_icN (pc := 28) d11_28 (XT.ii_ge_f h5) ?_
      refine go_aloadN (pc := 31) d11_31 rfl (go_getA (pc := 32) fa_29 hm_11 d11_32 rfl (go_iloadN (pc := 35) d11_35 rfl (go_iloadN (pc := 36) d11_36 rfl ?_)))
      obtain ⟨a37, e6, hf⟩ := Option.bind_eq_some_iff.mp hf
      refine go_iastore (pc := 37) (q := 6) ar_6 rfl hn_11 e6 d11_37 ?_
      exact k_rmapLink_38_ok v1 v2 (sA (sA (sA s 6 a13) 5 a20) 6 a37) (.val (.int a5)) (Or.inr ⟨_, rfl, rfl⟩) _ hf
    · replace hf := (if_neg h5).symm.trans hf
      refine go_icY (pc := 28) (pc' := 38) d11_28 (XT.ii_ge_t h5) j_28_10 ?_
      exact k_rmapLink_38_ok v1 v2 (sA (sA s 6 a13) 5 a20) (.val (.int a5)) (Or.inr ⟨_, rfl, rfl⟩) _ hf
theorem c_k_rmapLink (v1 : Int32) (v2 : Int32) (s : S) (o : S) (hf : k_rmapLink v1 v2 s = some o) : Call PP m11 [.ref 1, .int v1, .int v2] (none, [(8, s)]) (none, (none, [(8, o)])) := call_of_go pl_0 rfl (fun _ => rfl) (k_rmapLink_ok v1 v2 s   _ hf)
set_option maxRecDepth 65536 in
set_option maxHeartbeats 4000000 in
theorem k_attachPage_ok  : ∀ (v1 : Int32) (v2 : Int32) (s : S)  (o : S), k_attachPage v1 v2 s = some o → Go PP m12 0 [.val (.ref 1), .val (.int v1), .val (.int v2)] [] (none, [(8, s)]) (none, (none, [(8, o)])) := by
  intro v1 v2 s o hf
  unfold k_attachPage at hf
  refine go_iloadN (pc := 0) d12_0 rfl ?_
  by_cases h1 : v1 < 0
  · replace hf := (if_pos h1).symm.trans hf
    refine go_ifY (pc := 1) (pc' := 18) d12_1 (XT.i0_lt_t h1) j_1_17 ?_
    cases hf
    exact go_ret (pc := 18) rfl d12_18
  · replace hf := (if_neg h1).symm.trans hf
    refine go_ifN (pc := 1) d12_1 (XT.i0_lt_f h1) ?_
    refine go_iloadN (pc := 4) d12_4 rfl (go_bipush (pc := 5) d12_5 cb_64 ?_)
    by_cases h2 : v1 < (64 : Int32)
    · replace hf := (if_pos h2).symm.trans hf
      refine go_icN (pc := 7) d12_7 (XT.ii_ge_f h2) ?_
      refine go_aloadN (pc := 10) d12_10 rfl (go_iloadN (pc := 11) d12_11 rfl ?_)
      refine go_priv (pc := 12) (i := 0) (as := [.int v2]) (rest := []) (w' := (none, [(8, s)])) lk_0_62 pd_8 rfl oid_0 rfl rfl rfl rfl rfl rfl ⟨rfl, rfl, rfl, rfl, rfl⟩ d12_12 (c_k_frameInRange v2 s) ?_
      by_cases h3 : (k_frameInRange v2 s) = 0
      · replace hf := (if_pos h3).symm.trans hf
        refine go_ifN (pc := 15) d12_15 (XT.i0_ne_f h3) ?_
        cases hf
        exact go_ret (pc := 18) rfl d12_18
      · replace hf := (if_neg h3).symm.trans hf
        refine go_ifY (pc := 15) (pc' := 19) d12_15 (XT.i0_ne_t h3) j_15_4 ?_
        refine go_aloadN (pc := 19) d12_19 rfl (go_iloadN (pc := 20) d12_20 rfl (go_iloadN (pc := 21) d12_21 rfl ?_))
        obtain ⟨r22, e4, hf⟩ := Option.bind_eq_some_iff.mp hf
        refine go_priv (pc := 22) (i := 0) (as := [.int v1, .int v2]) (rest := []) (w' := (none, [(8, r22)])) lk_0_153 pd_11 rfl oid_0 rfl rfl rfl rfl rfl rfl ⟨rfl, rfl, rfl, rfl, rfl⟩ d12_22 (c_k_rmapLink v1 v2 s _ e4) ?_
        refine go_aloadN (pc := 25) d12_25 rfl (go_getA (pc := 26) fa_17 hm_12 d12_26 rfl (go_iloadN (pc := 29) d12_29 rfl (go_aloadN (pc := 30) d12_30 rfl (go_getA (pc := 31) fa_17 hm_12 d12_31 rfl (go_iloadN (pc := 34) d12_34 rfl ?_)))))
        obtain ⟨a35, e5, hf⟩ := Option.bind_eq_some_iff.mp hf
        refine go_iaload (pc := 35) (q := 2) ar_2 rfl e5 d12_35 ?_
        refine go_iconst (pc := 36) d12_36 ci_1 (go_iadd (pc := 37) d12_37 ?_)
        obtain ⟨a38, e6, hf⟩ := Option.bind_eq_some_iff.mp hf
        refine go_iastore (pc := 38) (q := 2) ar_2 rfl hn_12 e6 d12_38 ?_
        cases hf
        exact go_ret (pc := 39) rfl d12_39
    · replace hf := (if_neg h2).symm.trans hf
      refine go_icY (pc := 7) (pc' := 18) d12_7 (XT.ii_ge_t h2) j_7_11 ?_
      cases hf
      exact go_ret (pc := 18) rfl d12_18
theorem c_k_attachPage (v1 : Int32) (v2 : Int32) (s : S) (o : S) (hf : k_attachPage v1 v2 s = some o) : Call PP m12 [.ref 1, .int v1, .int v2] (none, [(8, s)]) (none, (none, [(8, o)])) := call_of_go pl_0 rfl (fun _ => rfl) (k_attachPage_ok v1 v2 s   _ hf)
set_option maxRecDepth 65536 in
set_option maxHeartbeats 4000000 in
theorem k_mapNew_ok  : ∀ (v1 : Int32) (v2 : Int32) (v3 : Int32) (s : S)  (o : Int32 × S), k_mapNew v1 v2 v3 s = some o → Go PP m13 0 [.val (.ref 1), .val (.int v1), .val (.int v2), .val (.int v3), .unset, .unset, .unset] [] (none, [(8, s)]) (some (.int o.1), (none, [(8, o.2)])) := by
  intro v1 v2 v3 s o hf
  unfold k_mapNew at hf
  refine go_aloadN (pc := 0) d13_0 rfl (go_iloadN (pc := 1) d13_1 rfl (go_iloadN (pc := 2) d13_2 rfl ?_))
  obtain ⟨r3, e1, hf⟩ := Option.bind_eq_some_iff.mp hf
  refine go_priv (pc := 3) (i := 0) (as := [.int v1, .int v2]) (rest := []) (w' := (none, [(8, s)])) lk_0_50 pd_6 rfl oid_0 rfl rfl rfl rfl rfl rfl ⟨rfl, rfl, rfl, rfl, rfl⟩ d13_3 (c_k_checkTarget v1 v2 s _ e1) ?_
  refine go_istore (pc := 6) (L' := [.val (.ref 1), .val (.int v1), .val (.int v2), .val (.int v3), .val (.int r3), .unset, .unset]) d13_6 rfl (go_iload (pc := 8) d13_8 rfl ?_)
  by_cases h2 : r3 = 0
  · replace hf := (if_pos h2).symm.trans hf
    refine go_ifY (pc := 10) (pc' := 16) d13_10 (XT.i0_eq_t h2) j_10_6 ?_
    refine go_aloadN (pc := 16) d13_16 rfl (go_getJ (pc := 17) fs_54 hm_13 d13_17 (go_lconst (pc := 20) d13_20 cl_0 (go_lcmp (pc := 21) d13_21 ?_)))
    by_cases h3 : (gL s 2) = (0 : Int64)
    · replace hf := (if_pos h3).symm.trans hf
      refine go_ifN (pc := 22) d13_22 (XT.ll_ne_f h3) ?_
      refine go_bipush (pc := 25) d13_25 cb_m4 ?_
      cases hf
      exact go_iret (pc := 27) rfl d13_27
    · replace hf := (if_neg h3).symm.trans hf
      refine go_ifY (pc := 22) (pc' := 28) d13_22 (XT.ll_ne_t h3) j_22_6 ?_
      refine go_aloadN (pc := 28) d13_28 rfl (go_aloadN (pc := 29) d13_29 rfl (go_getJ (pc := 30) fs_54 hm_13 d13_30 ?_))
      refine go_priv (pc := 33) (i := 0) (as := [.long (gL s 2)]) (rest := []) (w' := (none, [(8, s)])) lk_0_58 pd_7 rfl oid_0 rfl rfl rfl rfl rfl rfl ⟨rfl, rfl, rfl, rfl, rfl⟩ d13_33 (c_k_lowestBit (gL s 2) s) ?_
      refine go_istore (pc := 36) (L' := [.val (.ref 1), .val (.int v1), .val (.int v2), .val (.int v3), .val (.int r3), .val (.int (k_lowestBit (gL s 2))), .unset]) d13_36 rfl (go_aloadN (pc := 38) d13_38 rfl (go_iload (pc := 39) d13_39 rfl ?_))
      refine go_priv (pc := 41) (i := 0) (as := [.int (k_lowestBit (gL s 2))]) (rest := []) (w' := (none, [(8, s)])) lk_0_62 pd_8 rfl oid_0 rfl rfl rfl rfl rfl rfl ⟨rfl, rfl, rfl, rfl, rfl⟩ d13_41 (c_k_frameInRange (k_lowestBit (gL s 2)) s) ?_
      by_cases h4 : (k_frameInRange (k_lowestBit (gL s 2)) s) = 0
      · replace hf := (if_pos h4).symm.trans hf
        refine go_ifN (pc := 44) d13_44 (XT.i0_ne_f h4) ?_
        refine go_bipush (pc := 47) d13_47 cb_m4 ?_
        cases hf
        exact go_iret (pc := 49) rfl d13_49
      · replace hf := (if_neg h4).symm.trans hf
        refine go_ifY (pc := 44) (pc' := 50) d13_44 (XT.i0_ne_t h4) j_44_6 ?_
        refine go_aloadN (pc := 50) d13_50 rfl (go_iloadN (pc := 51) d13_51 rfl (go_iloadN (pc := 52) d13_52 rfl ?_))
        refine go_priv (pc := 53) (i := 0) (as := [.int v1, .int v2]) (rest := []) (w' := (none, [(8, s)])) lk_0_66 pd_5 rfl oid_0 rfl rfl rfl rfl rfl rfl ⟨rfl, rfl, rfl, rfl, rfl⟩ d13_53 (c_k_slotOf v1 v2 s) ?_
        refine go_istore (pc := 56) (L' := [.val (.ref 1), .val (.int v1), .val (.int v2), .val (.int v3), .val (.int r3), .val (.int (k_lowestBit (gL s 2))), .val (.int (k_slotOf v1 v2))]) d13_56 rfl (go_aloadN (pc := 58) d13_58 rfl (go_iload (pc := 59) d13_59 rfl (go_iconst (pc := 61) d13_61 ci_1 ?_)))
        obtain ⟨r62, e5, hf⟩ := Option.bind_eq_some_iff.mp hf
        refine go_priv (pc := 62) (i := 0) (as := [.int (k_lowestBit (gL s 2)), .int (1 : Int32)]) (rest := []) (w' := (none, [(8, r62)])) lk_0_69 pd_10 rfl oid_0 rfl rfl rfl rfl rfl rfl ⟨rfl, rfl, rfl, rfl, rfl⟩ d13_62 (c_k_enterState (k_lowestBit (gL s 2)) (1 : Int32) s _ e5) ?_
        refine go_aloadN (pc := 65) d13_65 rfl (go_getA (pc := 66) fa_13 hm_13 d13_66 rfl (go_iload (pc := 69) d13_69 rfl (go_iloadN (pc := 71) d13_71 rfl ?_)))
        obtain ⟨a72, e6, hf⟩ := Option.bind_eq_some_iff.mp hf
        refine go_iastore (pc := 72) (q := 1) ar_1 rfl hn_13 e6 d13_72 ?_
        refine go_aloadN (pc := 73) d13_73 rfl (go_getA (pc := 74) fa_17 hm_13 d13_74 rfl (go_iload (pc := 77) d13_77 rfl (go_iconst (pc := 79) d13_79 ci_0 ?_)))
        obtain ⟨a80, e7, hf⟩ := Option.bind_eq_some_iff.mp hf
        refine go_iastore (pc := 80) (q := 2) ar_2 rfl hn_13 e7 d13_80 ?_
        refine go_aloadN (pc := 81) d13_81 rfl (go_iload (pc := 82) d13_82 rfl (go_iload (pc := 84) d13_84 rfl ?_))
        obtain ⟨r86, e8, hf⟩ := Option.bind_eq_some_iff.mp hf
        refine go_priv (pc := 86) (i := 0) (as := [.int (k_slotOf v1 v2), .int (k_lowestBit (gL s 2))]) (rest := []) (w' := (none, [(8, r86)])) lk_0_73 pd_12 rfl oid_0 rfl rfl rfl rfl rfl rfl ⟨rfl, rfl, rfl, rfl, rfl⟩ d13_86 (c_k_attachPage (k_slotOf v1 v2) (k_lowestBit (gL s 2)) (sA (sA r62 1 a72) 2 a80) _ e8) ?_
        refine go_iload (pc := 89) d13_89 rfl ?_
        cases hf
        exact go_iret (pc := 91) rfl d13_91
  · replace hf := (if_neg h2).symm.trans hf
    refine go_ifN (pc := 10) d13_10 (XT.i0_eq_f h2) ?_
    refine go_iload (pc := 13) d13_13 rfl ?_
    cases hf
    exact go_iret (pc := 15) rfl d13_15
theorem c_k_mapNew (v1 : Int32) (v2 : Int32) (v3 : Int32) (s : S) (o : Int32 × S) (hf : k_mapNew v1 v2 v3 s = some o) : Call PP m13 [.ref 1, .int v1, .int v2, .int v3] (none, [(8, s)]) (some (.int o.1), (none, [(8, o.2)])) := call_of_go pl_0 rfl (fun h => nomatch h) (k_mapNew_ok v1 v2 v3 s   _ hf)
set_option maxRecDepth 65536 in
set_option maxHeartbeats 4000000 in
theorem k_share_ok  : ∀ (v1 : Int32) (v2 : Int32) (v3 : Int32) (v4 : Int32) (s : S)  (o : Int32 × S), k_share v1 v2 v3 v4 s = some o → Go PP m14 0 [.val (.ref 1), .val (.int v1), .val (.int v2), .val (.int v3), .val (.int v4), .unset, .unset, .unset] [] (none, [(8, s)]) (some (.int o.1), (none, [(8, o.2)])) := by
  intro v1 v2 v3 v4 s o hf
  unfold k_share at hf
  refine go_aloadN (pc := 0) d14_0 rfl (go_iloadN (pc := 1) d14_1 rfl (go_iloadN (pc := 2) d14_2 rfl ?_))
  refine go_priv (pc := 3) (i := 0) (as := [.int v1, .int v2]) (rest := []) (w' := (none, [(8, s)])) lk_0_76 pd_4 rfl oid_0 rfl rfl rfl rfl rfl rfl ⟨rfl, rfl, rfl, rfl, rfl⟩ d14_3 (c_k_pageInRange v1 v2 s) ?_
  by_cases h1 : (k_pageInRange v1 v2 s) = 0
  · replace hf := (if_pos h1).symm.trans hf
    refine go_ifN (pc := 6) d14_6 (XT.i0_ne_f h1) ?_
    refine go_iconst (pc := 9) d14_9 ci_m1 ?_
    cases hf
    exact go_iret (pc := 10) rfl d14_10
  · replace hf := (if_neg h1).symm.trans hf
    refine go_ifY (pc := 6) (pc' := 11) d14_6 (XT.i0_ne_t h1) j_6_5 ?_
    refine go_aloadN (pc := 11) d14_11 rfl (go_iloadN (pc := 12) d14_12 rfl (go_iload (pc := 13) d14_13 rfl ?_))
    refine go_priv (pc := 15) (i := 0) (as := [.int v3, .int v4]) (rest := []) (w' := (none, [(8, s)])) lk_0_76 pd_4 rfl oid_0 rfl rfl rfl rfl rfl rfl ⟨rfl, rfl, rfl, rfl, rfl⟩ d14_15 (c_k_pageInRange v3 v4 s) ?_
    by_cases h2 : (k_pageInRange v3 v4 s) = 0
    · replace hf := (if_pos h2).symm.trans hf
      refine go_ifN (pc := 18) d14_18 (XT.i0_ne_f h2) ?_
      refine go_iconst (pc := 21) d14_21 ci_m1 ?_
      cases hf
      exact go_iret (pc := 22) rfl d14_22
    · replace hf := (if_neg h2).symm.trans hf
      refine go_ifY (pc := 18) (pc' := 23) d14_18 (XT.i0_ne_t h2) j_18_5 ?_
      refine go_aloadN (pc := 23) d14_23 rfl (go_iloadN (pc := 24) d14_24 rfl (go_iloadN (pc := 25) d14_25 rfl ?_))
      refine go_priv (pc := 26) (i := 0) (as := [.int v1, .int v2]) (rest := []) (w' := (none, [(8, s)])) lk_0_66 pd_5 rfl oid_0 rfl rfl rfl rfl rfl rfl ⟨rfl, rfl, rfl, rfl, rfl⟩ d14_26 (c_k_slotOf v1 v2 s) ?_
      refine go_istore (pc := 29) (L' := [.val (.ref 1), .val (.int v1), .val (.int v2), .val (.int v3), .val (.int v4), .val (.int (k_slotOf v1 v2)), .unset, .unset]) d14_29 rfl (go_aloadN (pc := 31) d14_31 rfl (go_getA (pc := 32) fa_20 hm_14 d14_32 rfl (go_iload (pc := 35) d14_35 rfl ?_)))
      obtain ⟨a37, e3, hf⟩ := Option.bind_eq_some_iff.mp hf
      refine go_iaload (pc := 37) (q := 3) ar_3 rfl e3 d14_37 ?_
      by_cases h4 : a37 < 0
      · replace hf := (if_pos h4).symm.trans hf
        refine go_ifY (pc := 38) (pc' := 44) d14_38 (XT.i0_lt_t h4) j_38_6 ?_
        refine go_aloadN (pc := 44) d14_44 rfl (go_iloadN (pc := 45) d14_45 rfl (go_iload (pc := 46) d14_46 rfl ?_))
        refine go_priv (pc := 48) (i := 0) (as := [.int v3, .int v4]) (rest := []) (w' := (none, [(8, s)])) lk_0_66 pd_5 rfl oid_0 rfl rfl rfl rfl rfl rfl ⟨rfl, rfl, rfl, rfl, rfl⟩ d14_48 (c_k_slotOf v3 v4 s) ?_
        refine go_istore (pc := 51) (L' := [.val (.ref 1), .val (.int v1), .val (.int v2), .val (.int v3), .val (.int v4), .val (.int (k_slotOf v1 v2)), .val (.int (k_slotOf v3 v4)), .unset]) d14_51 rfl (go_aloadN (pc := 53) d14_53 rfl (go_getA (pc := 54) fa_20 hm_14 d14_54 rfl (go_iload (pc := 57) d14_57 rfl ?_)))
        obtain ⟨a59, e5, hf⟩ := Option.bind_eq_some_iff.mp hf
        refine go_iaload (pc := 59) (q := 3) ar_3 rfl e5 d14_59 ?_
        refine go_istore (pc := 60) (L' := [.val (.ref 1), .val (.int v1), .val (.int v2), .val (.int v3), .val (.int v4), .val (.int (k_slotOf v1 v2)), .val (.int (k_slotOf v3 v4)), .val (.int a59)]) d14_60 rfl (go_aloadN (pc := 62) d14_62 rfl (go_iload (pc := 63) d14_63 rfl ?_))
        refine go_priv (pc := 65) (i := 0) (as := [.int a59]) (rest := []) (w' := (none, [(8, s)])) lk_0_62 pd_8 rfl oid_0 rfl rfl rfl rfl rfl rfl ⟨rfl, rfl, rfl, rfl, rfl⟩ d14_65 (c_k_frameInRange a59 s) ?_
        by_cases h6 : (k_frameInRange a59 s) = 0
        · replace hf := (if_pos h6).symm.trans hf
          refine go_ifN (pc := 68) d14_68 (XT.i0_ne_f h6) ?_
          refine go_bipush (pc := 71) d14_71 cb_m3 ?_
          cases hf
          exact go_iret (pc := 73) rfl d14_73
        · replace hf := (if_neg h6).symm.trans hf
          refine go_ifY (pc := 68) (pc' := 74) d14_68 (XT.i0_ne_t h6) j_68_6 ?_
          refine go_aloadN (pc := 74) d14_74 rfl (go_iload (pc := 75) d14_75 rfl (go_iload (pc := 77) d14_77 rfl ?_))
          obtain ⟨r79, e7, hf⟩ := Option.bind_eq_some_iff.mp hf
          refine go_priv (pc := 79) (i := 0) (as := [.int (k_slotOf v1 v2), .int a59]) (rest := []) (w' := (none, [(8, r79)])) lk_0_73 pd_12 rfl oid_0 rfl rfl rfl rfl rfl rfl ⟨rfl, rfl, rfl, rfl, rfl⟩ d14_79 (c_k_attachPage (k_slotOf v1 v2) a59 s _ e7) ?_
          refine go_iload (pc := 82) d14_82 rfl ?_
          cases hf
          exact go_iret (pc := 84) rfl d14_84
      · replace hf := (if_neg h4).symm.trans hf
        refine go_ifN (pc := 38) d14_38 (XT.i0_lt_f h4) ?_
        refine go_bipush (pc := 41) d14_41 cb_m2 ?_
        cases hf
        exact go_iret (pc := 43) rfl d14_43
theorem c_k_share (v1 : Int32) (v2 : Int32) (v3 : Int32) (v4 : Int32) (s : S) (o : Int32 × S) (hf : k_share v1 v2 v3 v4 s = some o) : Call PP m14 [.ref 1, .int v1, .int v2, .int v3, .int v4] (none, [(8, s)]) (some (.int o.1), (none, [(8, o.2)])) := call_of_go pl_0 rfl (fun h => nomatch h) (k_share_ok v1 v2 v3 v4 s   _ hf)
set_option maxRecDepth 65536 in
set_option maxHeartbeats 4000000 in
theorem k_mapCount_ok  : ∀ (v1 : Int32) (s : S)  (o : Int32), k_mapCount v1 s = some o → Go PP m15 0 [.val (.ref 1), .val (.int v1)] [] (none, [(8, s)]) (some (.int o), (none, [(8, s)])) := by
  intro v1 s o hf
  unfold k_mapCount at hf
  refine go_aloadN (pc := 0) d15_0 rfl (go_iloadN (pc := 1) d15_1 rfl ?_)
  refine go_priv (pc := 2) (i := 0) (as := [.int v1]) (rest := []) (w' := (none, [(8, s)])) lk_0_62 pd_8 rfl oid_0 rfl rfl rfl rfl rfl rfl ⟨rfl, rfl, rfl, rfl, rfl⟩ d15_2 (c_k_frameInRange v1 s) ?_
  by_cases h1 : (k_frameInRange v1 s) = 0
  · replace hf := (if_pos h1).symm.trans hf
    refine go_ifN (pc := 5) d15_5 (XT.i0_ne_f h1) ?_
    refine go_iconst (pc := 8) d15_8 ci_0 ?_
    cases hf
    exact go_iret (pc := 9) rfl d15_9
  · replace hf := (if_neg h1).symm.trans hf
    refine go_ifY (pc := 5) (pc' := 10) d15_5 (XT.i0_ne_t h1) j_5_5 ?_
    refine go_aloadN (pc := 10) d15_10 rfl (go_getA (pc := 11) fa_17 hm_15 d15_11 rfl (go_iloadN (pc := 14) d15_14 rfl ?_))
    obtain ⟨a15, e2, hf⟩ := Option.bind_eq_some_iff.mp hf
    refine go_iaload (pc := 15) (q := 2) ar_2 rfl e2 d15_15 ?_
    cases hf
    exact go_iret (pc := 16) rfl d15_16
theorem c_k_mapCount (v1 : Int32) (s : S) (o : Int32) (hf : k_mapCount v1 s = some o) : Call PP m15 [.ref 1, .int v1] (none, [(8, s)]) (some (.int o), (none, [(8, s)])) := call_of_go pl_0 rfl (fun h => nomatch h) (k_mapCount_ok v1 s   _ hf)
set_option maxRecDepth 65536 in
set_option maxHeartbeats 4000000 in
theorem k_mappedFrame_ok  : ∀ (v1 : Int32) (v2 : Int32) (s : S)  (o : Int32), k_mappedFrame v1 v2 s = some o → Go PP m16 0 [.val (.ref 1), .val (.int v1), .val (.int v2), .unset, .unset] [] (none, [(8, s)]) (some (.int o), (none, [(8, s)])) := by
  intro v1 v2 s o hf
  unfold k_mappedFrame at hf
  refine go_aloadN (pc := 0) d16_0 rfl (go_iloadN (pc := 1) d16_1 rfl (go_iloadN (pc := 2) d16_2 rfl ?_))
  refine go_priv (pc := 3) (i := 0) (as := [.int v1, .int v2]) (rest := []) (w' := (none, [(8, s)])) lk_0_76 pd_4 rfl oid_0 rfl rfl rfl rfl rfl rfl ⟨rfl, rfl, rfl, rfl, rfl⟩ d16_3 (c_k_pageInRange v1 v2 s) ?_
  by_cases h1 : (k_pageInRange v1 v2 s) = 0
  · replace hf := (if_pos h1).symm.trans hf
    refine go_ifN (pc := 6) d16_6 (XT.i0_ne_f h1) ?_
    refine go_iconst (pc := 9) d16_9 ci_m1 ?_
    cases hf
    exact go_iret (pc := 10) rfl d16_10
  · replace hf := (if_neg h1).symm.trans hf
    refine go_ifY (pc := 6) (pc' := 11) d16_6 (XT.i0_ne_t h1) j_6_5 ?_
    refine go_aloadN (pc := 11) d16_11 rfl (go_iloadN (pc := 12) d16_12 rfl (go_iloadN (pc := 13) d16_13 rfl ?_))
    refine go_priv (pc := 14) (i := 0) (as := [.int v1, .int v2]) (rest := []) (w' := (none, [(8, s)])) lk_0_66 pd_5 rfl oid_0 rfl rfl rfl rfl rfl rfl ⟨rfl, rfl, rfl, rfl, rfl⟩ d16_14 (c_k_slotOf v1 v2 s) ?_
    refine go_istoreN (pc := 17) (L' := [.val (.ref 1), .val (.int v1), .val (.int v2), .val (.int (k_slotOf v1 v2)), .unset]) d16_17 rfl (go_aloadN (pc := 18) d16_18 rfl (go_getA (pc := 19) fa_20 hm_16 d16_19 rfl (go_iloadN (pc := 22) d16_22 rfl ?_)))
    obtain ⟨a23, e2, hf⟩ := Option.bind_eq_some_iff.mp hf
    refine go_iaload (pc := 23) (q := 3) ar_3 rfl e2 d16_23 ?_
    refine go_istore (pc := 24) (L' := [.val (.ref 1), .val (.int v1), .val (.int v2), .val (.int (k_slotOf v1 v2)), .val (.int a23)]) d16_24 rfl (go_aloadN (pc := 26) d16_26 rfl (go_iload (pc := 27) d16_27 rfl ?_))
    refine go_priv (pc := 29) (i := 0) (as := [.int a23]) (rest := []) (w' := (none, [(8, s)])) lk_0_62 pd_8 rfl oid_0 rfl rfl rfl rfl rfl rfl ⟨rfl, rfl, rfl, rfl, rfl⟩ d16_29 (c_k_frameInRange a23 s) ?_
    by_cases h3 : (k_frameInRange a23 s) = 0
    · replace hf := (if_pos h3).symm.trans hf
      refine go_ifN (pc := 32) d16_32 (XT.i0_ne_f h3) ?_
      refine go_iconst (pc := 35) d16_35 ci_m1 ?_
      cases hf
      exact go_iret (pc := 36) rfl d16_36
    · replace hf := (if_neg h3).symm.trans hf
      refine go_ifY (pc := 32) (pc' := 37) d16_32 (XT.i0_ne_t h3) j_32_5 ?_
      refine go_iload (pc := 37) d16_37 rfl ?_
      cases hf
      exact go_iret (pc := 39) rfl d16_39
theorem c_k_mappedFrame (v1 : Int32) (v2 : Int32) (s : S) (o : Int32) (hf : k_mappedFrame v1 v2 s = some o) : Call PP m16 [.ref 1, .int v1, .int v2] (none, [(8, s)]) (some (.int o), (none, [(8, s)])) := call_of_go pl_0 rfl (fun h => nomatch h) (k_mappedFrame_ok v1 v2 s   _ hf)
set_option maxRecDepth 65536 in
set_option maxHeartbeats 4000000 in
theorem k_write_ok  : ∀ (v1 : Int32) (v2 : Int32) (v3 : Int32) (s : S)  (o : Int32 × S), k_write v1 v2 v3 s = some o → Go PP m17 0 [.val (.ref 1), .val (.int v1), .val (.int v2), .val (.int v3), .unset] [] (none, [(8, s)]) (some (.int o.1), (none, [(8, o.2)])) := by
  intro v1 v2 v3 s o hf
  unfold k_write at hf
  refine go_aloadN (pc := 0) d17_0 rfl (go_iloadN (pc := 1) d17_1 rfl (go_iloadN (pc := 2) d17_2 rfl ?_))
  obtain ⟨r3, e1, hf⟩ := Option.bind_eq_some_iff.mp hf
  refine go_priv (pc := 3) (i := 0) (as := [.int v1, .int v2]) (rest := []) (w' := (none, [(8, s)])) lk_0_88 pd_16 rfl oid_0 rfl rfl rfl rfl rfl rfl ⟨rfl, rfl, rfl, rfl, rfl⟩ d17_3 (c_k_mappedFrame v1 v2 s _ e1) ?_
  refine go_istore (pc := 6) (L' := [.val (.ref 1), .val (.int v1), .val (.int v2), .val (.int v3), .val (.int r3)]) d17_6 rfl (go_iload (pc := 8) d17_8 rfl ?_)
  by_cases h2 : r3 < 0
  · replace hf := (if_pos h2).symm.trans hf
    refine go_ifN (pc := 10) d17_10 (XT.i0_ge_f h2) ?_
    refine go_iconst (pc := 13) d17_13 ci_0 ?_
    cases hf
    exact go_zret (pc := 14) rfl d17_14 (show (0 : Int32) = nar .boolean (0 : Int32) by decide)
  · replace hf := (if_neg h2).symm.trans hf
    refine go_ifY (pc := 10) (pc' := 15) d17_10 (XT.i0_ge_t h2) j_10_5 ?_
    refine go_aloadN (pc := 15) d17_15 rfl (go_getA (pc := 16) fa_13 hm_17 d17_16 rfl (go_iload (pc := 19) d17_19 rfl (go_iloadN (pc := 21) d17_21 rfl ?_)))
    obtain ⟨a22, e3, hf⟩ := Option.bind_eq_some_iff.mp hf
    refine go_iastore (pc := 22) (q := 1) ar_1 rfl hn_17 e3 d17_22 ?_
    refine go_iconst (pc := 23) d17_23 ci_1 ?_
    cases hf
    exact go_zret (pc := 24) rfl d17_24 (show (1 : Int32) = nar .boolean (1 : Int32) by decide)
theorem c_k_write (v1 : Int32) (v2 : Int32) (v3 : Int32) (s : S) (o : Int32 × S) (hf : k_write v1 v2 v3 s = some o) : Call PP m17 [.ref 1, .int v1, .int v2, .int v3] (none, [(8, s)]) (some (.int o.1), (none, [(8, o.2)])) := call_of_go pl_0 rfl (fun h => nomatch h) (k_write_ok v1 v2 v3 s   _ hf)
set_option maxRecDepth 65536 in
set_option maxHeartbeats 4000000 in
theorem k_read_ok  : ∀ (v1 : Int32) (v2 : Int32) (s : S)  (o : Int32), k_read v1 v2 s = some o → Go PP m18 0 [.val (.ref 1), .val (.int v1), .val (.int v2), .unset] [] (none, [(8, s)]) (some (.int o), (none, [(8, s)])) := by
  intro v1 v2 s o hf
  unfold k_read at hf
  refine go_aloadN (pc := 0) d18_0 rfl (go_iloadN (pc := 1) d18_1 rfl (go_iloadN (pc := 2) d18_2 rfl ?_))
  obtain ⟨r3, e1, hf⟩ := Option.bind_eq_some_iff.mp hf
  refine go_priv (pc := 3) (i := 0) (as := [.int v1, .int v2]) (rest := []) (w' := (none, [(8, s)])) lk_0_88 pd_16 rfl oid_0 rfl rfl rfl rfl rfl rfl ⟨rfl, rfl, rfl, rfl, rfl⟩ d18_3 (c_k_mappedFrame v1 v2 s _ e1) ?_
  refine go_istoreN (pc := 6) (L' := [.val (.ref 1), .val (.int v1), .val (.int v2), .val (.int r3)]) d18_6 rfl (go_iloadN (pc := 7) d18_7 rfl ?_)
  by_cases h2 : r3 < 0
  · replace hf := (if_pos h2).symm.trans hf
    refine go_ifN (pc := 8) d18_8 (XT.i0_ge_f h2) ?_
    refine go_iconst (pc := 11) d18_11 ci_0 ?_
    cases hf
    exact go_iret (pc := 12) rfl d18_12
  · replace hf := (if_neg h2).symm.trans hf
    refine go_ifY (pc := 8) (pc' := 13) d18_8 (XT.i0_ge_t h2) j_8_5 ?_
    refine go_aloadN (pc := 13) d18_13 rfl (go_getA (pc := 14) fa_13 hm_18 d18_14 rfl (go_iloadN (pc := 17) d18_17 rfl ?_))
    obtain ⟨a18, e3, hf⟩ := Option.bind_eq_some_iff.mp hf
    refine go_iaload (pc := 18) (q := 1) ar_1 rfl e3 d18_18 ?_
    cases hf
    exact go_iret (pc := 19) rfl d18_19
theorem c_k_read (v1 : Int32) (v2 : Int32) (s : S) (o : Int32) (hf : k_read v1 v2 s = some o) : Call PP m18 [.ref 1, .int v1, .int v2] (none, [(8, s)]) (some (.int o), (none, [(8, s)])) := call_of_go pl_0 rfl (fun h => nomatch h) (k_read_ok v1 v2 s   _ hf)
set_option maxRecDepth 65536 in
set_option maxHeartbeats 4000000 in
theorem k_rmapUnlink_95_ok  : ∀ (v1 : Int32) (v2 : Int32) (s : S) (x3 : Slot) (x4 : Slot) (hx3 : k1 x3) (hx4 : k1 x4) (o : Int32 × S), k_rmapUnlink_95 v1 v2 s = some o → Go PP m19 95 [.val (.ref 1), .val (.int v1), .val (.int v2), x3, x4] [] (none, [(8, s)]) (some (.int o.1), (none, [(8, o.2)])) := by
  intro v1 v2 s x3 x4 hx3 hx4 o hf
  unfold k_rmapUnlink_95 at hf
  refine go_aloadN (pc := 95) d19_95 rfl (go_getA (pc := 96) fa_29 hm_19 d19_96 rfl (go_iloadN (pc := 99) d19_99 rfl (go_iconst (pc := 100) d19_100 ci_m1 ?_)))
  obtain ⟨a101, e1, hf⟩ := Option.bind_eq_some_iff.mp hf
  refine go_iastore (pc := 101) (q := 6) ar_6 rfl hn_19 e1 d19_101 ?_
  refine go_aloadN (pc := 102) d19_102 rfl (go_getA (pc := 103) fa_26 hm_19 d19_103 rfl (go_iloadN (pc := 106) d19_106 rfl (go_iconst (pc := 107) d19_107 ci_m1 ?_)))
  obtain ⟨a108, e2, hf⟩ := Option.bind_eq_some_iff.mp hf
  refine go_iastore (pc := 108) (q := 5) ar_5 rfl hn_19 e2 d19_108 ?_
  refine go_aloadN (pc := 109) d19_109 rfl (go_getA (pc := 110) fa_20 hm_19 d19_110 rfl (go_iloadN (pc := 113) d19_113 rfl (go_iconst (pc := 114) d19_114 ci_m1 ?_)))
  obtain ⟨a115, e3, hf⟩ := Option.bind_eq_some_iff.mp hf
  refine go_iastore (pc := 115) (q := 3) ar_3 rfl hn_19 e3 d19_115 ?_
  refine go_iloadN (pc := 116) d19_116 rfl ?_
  cases hf
  exact go_iret (pc := 117) rfl d19_117
set_option maxRecDepth 65536 in
set_option maxHeartbeats 4000000 in
theorem k_rmapUnlink_75_ok  : ∀ (v1 : Int32) (v2 : Int32) (v3 : Int32) (v4 : Int32) (s : S)  (o : Int32 × S), k_rmapUnlink_75 v1 v2 v3 v4 s = some o → Go PP m19 75 [.val (.ref 1), .val (.int v1), .val (.int v2), .val (.int v3), .val (.int v4)] [] (none, [(8, s)]) (some (.int o.1), (none, [(8, o.2)])) := by
  intro v1 v2 v3 v4 s o hf
  unfold k_rmapUnlink_75 at hf
  refine go_iload (pc := 75) d19_75 rfl ?_
  by_cases h1 : v4 < 0
  · replace hf := (if_pos h1).symm.trans hf
    refine go_ifY (pc := 77) (pc' := 95) d19_77 (XT.i0_lt_t h1) j_77_18 ?_
    exact k_rmapUnlink_95_ok v1 v2 s (.val (.int v3)) (.val (.int v4)) (Or.inr ⟨_, rfl, rfl⟩) (Or.inr ⟨_, rfl, rfl⟩) _ hf
  · replace hf := (if_neg h1).symm.trans hf
    refine go_ifN (pc := 77) d19_77 (XT.i0_lt_f h1) ?_
    refine go_iload (pc := 80) d19_80 rfl (go_bipush (pc := 82) d19_82 cb_64 ?_)
    by_cases h2 : v4 < (64 : Int32)
    · replace hf := (if_pos h2).symm.trans hf
      refine go_icN (pc := 84) d19_84 (XT.ii_ge_f h2) ?_
      refine go_aloadN (pc := 87) d19_87 rfl (go_getA (pc := 88) fa_29 hm_19 d19_88 rfl (go_iload (pc := 91) d19_91 rfl (go_iloadN (pc := 93) d19_93 rfl ?_)))
      obtain ⟨a94, e3, hf⟩ := Option.bind_eq_some_iff.mp hf
      refine go_iastore (pc := 94) (q := 6) ar_6 rfl hn_19 e3 d19_94 ?_
      exact k_rmapUnlink_95_ok v1 v2 (sA s 6 a94) (.val (.int v3)) (.val (.int v4)) (Or.inr ⟨_, rfl, rfl⟩) (Or.inr ⟨_, rfl, rfl⟩) _ hf
    · replace hf := (if_neg h2).symm.trans hf
      refine go_icY (pc := 84) (pc' := 95) d19_84 (XT.ii_ge_t h2) j_84_11 ?_
      exact k_rmapUnlink_95_ok v1 v2 s (.val (.int v3)) (.val (.int v4)) (Or.inr ⟨_, rfl, rfl⟩) (Or.inr ⟨_, rfl, rfl⟩) _ hf
set_option maxRecDepth 65536 in
set_option maxHeartbeats 4000000 in
theorem k_rmapUnlink_67_ok  : ∀ (v1 : Int32) (v2 : Int32) (v3 : Int32) (v4 : Int32) (s : S)  (o : Int32 × S), k_rmapUnlink_67 v1 v2 v3 v4 s = some o → Go PP m19 67 [.val (.ref 1), .val (.int v1), .val (.int v2), .val (.int v3), .val (.int v4)] [] (none, [(8, s)]) (some (.int o.1), (none, [(8, o.2)])) := by
  intro v1 v2 v3 v4 s o hf
  unfold k_rmapUnlink_67 at hf
  refine go_aloadN (pc := 67) d19_67 rfl (go_getA (pc := 68) fa_23 hm_19 d19_68 rfl (go_iloadN (pc := 71) d19_71 rfl (go_iload (pc := 72) d19_72 rfl ?_)))
  obtain ⟨a74, e1, hf⟩ := Option.bind_eq_some_iff.mp hf
  refine go_iastore (pc := 74) (q := 4) ar_4 rfl hn_19 e1 d19_74 ?_
  exact k_rmapUnlink_75_ok v1 v2 v3 v4 (sA s 4 a74) _ hf
set_option maxRecDepth 65536 in
set_option maxHeartbeats 4000000 in
theorem k_rmapUnlink_ok  : ∀ (v1 : Int32) (s : S)  (o : Int32 × S), k_rmapUnlink v1 s = some o → Go PP m19 0 [.val (.ref 1), .val (.int v1), .unset, .unset, .unset] [] (none, [(8, s)]) (some (.int o.1), (none, [(8, o.2)])) := by
  intro v1 s o hf
  unfold k_rmapUnlink at hf
  refine go_iloadN (pc := 0) d19_0 rfl ?_
  by_cases h1 : v1 < 0
  · replace hf := (if_pos h1).symm.trans hf
    refine go_ifY (pc := 1) (pc' := 10) d19_1 (XT.i0_lt_t h1) j_1_9 ?_
    refine go_iconst (pc := 10) d19_10 ci_m1 ?_
    cases hf
    exact go_iret (pc := 11) rfl d19_11
  · replace hf := (if_neg h1).symm.trans hf
    refine go_ifN (pc := 1) d19_1 (XT.i0_lt_f h1) ?_
    refine go_iloadN (pc := 4) d19_4 rfl (go_bipush (pc := 5) d19_5 cb_64 ?_)
    by_cases h2 : v1 < (64 : Int32)
    · replace hf := (if_pos h2).symm.trans hf
      refine go_icY (pc := 7) (pc' := 12) d19_7 (XT.ii_lt_t h2) j_7_5 ?_
      refine go_aloadN (pc := 12) d19_12 rfl (go_getA (pc := 13) fa_20 hm_19 d19_13 rfl (go_iloadN (pc := 16) d19_16 rfl ?_))
      obtain ⟨a17, e3, hf⟩ := Option.bind_eq_some_iff.mp hf
      refine go_iaload (pc := 17) (q := 3) ar_3 rfl e3 d19_17 ?_
      refine go_istoreN (pc := 18) (L' := [.val (.ref 1), .val (.int v1), .val (.int a17), .unset, .unset]) d19_18 rfl (go_iloadN (pc := 19) d19_19 rfl ?_)
      by_cases h4 : a17 < 0
      · replace hf := (if_pos h4).symm.trans hf
        refine go_ifY (pc := 20) (pc' := 29) d19_20 (XT.i0_lt_t h4) j_20_9 ?_
        refine go_iconst (pc := 29) d19_29 ci_m1 ?_
        cases hf
        exact go_iret (pc := 30) rfl d19_30
      · replace hf := (if_neg h4).symm.trans hf
        refine go_ifN (pc := 20) d19_20 (XT.i0_lt_f h4) ?_
        refine go_iloadN (pc := 23) d19_23 rfl (go_bipush (pc := 24) d19_24 cb_64 ?_)
        by_cases h5 : a17 < (64 : Int32)
        · replace hf := (if_pos h5).symm.trans hf
          refine go_icY (pc := 26) (pc' := 31) d19_26 (XT.ii_lt_t h5) j_26_5 ?_
          refine go_aloadN (pc := 31) d19_31 rfl (go_getA (pc := 32) fa_29 hm_19 d19_32 rfl (go_iloadN (pc := 35) d19_35 rfl ?_))
          obtain ⟨a36, e6, hf⟩ := Option.bind_eq_some_iff.mp hf
          refine go_iaload (pc := 36) (q := 6) ar_6 rfl e6 d19_36 ?_
          refine go_istoreN (pc := 37) (L' := [.val (.ref 1), .val (.int v1), .val (.int a17), .val (.int a36), .unset]) d19_37 rfl (go_aloadN (pc := 38) d19_38 rfl (go_getA (pc := 39) fa_26 hm_19 d19_39 rfl (go_iloadN (pc := 42) d19_42 rfl ?_)))
          obtain ⟨a43, e7, hf⟩ := Option.bind_eq_some_iff.mp hf
          refine go_iaload (pc := 43) (q := 5) ar_5 rfl e7 d19_43 ?_
          refine go_istore (pc := 44) (L' := [.val (.ref 1), .val (.int v1), .val (.int a17), .val (.int a36), .val (.int a43)]) d19_44 rfl (go_iloadN (pc := 46) d19_46 rfl ?_)
          by_cases h8 : a36 < 0
          · replace hf := (if_pos h8).symm.trans hf
            refine go_ifY (pc := 47) (pc' := 67) d19_47 (XT.i0_lt_t h8) j_47_20 ?_
            exact k_rmapUnlink_67_ok v1 a17 a36 a43 s _ hf
          · replace hf := (if_neg h8).symm.trans hf
            refine go_ifN (pc := 47) d19_47 (XT.i0_lt_f h8) ?_
            refine go_iloadN (pc := 50) d19_50 rfl (go_bipush (pc := 51) d19_51 cb_64 ?_)
            by_cases h9 : a36 < (64 : Int32)
            · replace hf := (if_pos h9).symm.trans hf
              refine go_icN (pc := 53) d19_53 (XT.ii_ge_f h9) ?_
              refine go_aloadN (pc := 56) d19_56 rfl (go_getA (pc := 57) fa_26 hm_19 d19_57 rfl (go_iloadN (pc := 60) d19_60 rfl (go_iload (pc := 61) d19_61 rfl ?_)))
              obtain ⟨a63, e10, hf⟩ := Option.bind_eq_some_iff.mp hf
              refine go_iastore (pc := 63) (q := 5) ar_5 rfl hn_19 e10 d19_63 ?_
              refine go_goto (pc := 64) (pc' := 75) d19_64 j_64_11 ?_
              exact k_rmapUnlink_75_ok v1 a17 a36 a43 (sA s 5 a63) _ hf
            · replace hf := (if_neg h9).symm.trans hf
              refine go_icY (pc := 53) (pc' := 67) d19_53 (XT.ii_ge_t h9) j_53_14 ?_
              exact k_rmapUnlink_67_ok v1 a17 a36 a43 s _ hf
        · replace hf := (if_neg h5).symm.trans hf
          refine go_icN (pc := 26) d19_26 (XT.ii_lt_f h5) ?_
          refine go_iconst (pc := 29) d19_29 ci_m1 ?_
          cases hf
          exact go_iret (pc := 30) rfl d19_30
    · replace hf := (if_neg h2).symm.trans hf
      refine go_icN (pc := 7) d19_7 (XT.ii_lt_f h2) ?_
      refine go_iconst (pc := 10) d19_10 ci_m1 ?_
      cases hf
      exact go_iret (pc := 11) rfl d19_11
theorem c_k_rmapUnlink (v1 : Int32) (s : S) (o : Int32 × S) (hf : k_rmapUnlink v1 s = some o) : Call PP m19 [.ref 1, .int v1] (none, [(8, s)]) (some (.int o.1), (none, [(8, o.2)])) := call_of_go pl_0 rfl (fun h => nomatch h) (k_rmapUnlink_ok v1 s   _ hf)
set_option maxRecDepth 65536 in
set_option maxHeartbeats 4000000 in
theorem k_detachPage_ok  : ∀ (v1 : Int32) (s : S)  (o : Int32 × S), k_detachPage v1 s = some o → Go PP m20 0 [.val (.ref 1), .val (.int v1), .unset] [] (none, [(8, s)]) (some (.int o.1), (none, [(8, o.2)])) := by
  intro v1 s o hf
  unfold k_detachPage at hf
  refine go_aloadN (pc := 0) d20_0 rfl (go_iloadN (pc := 1) d20_1 rfl ?_)
  obtain ⟨r2, e1, hf⟩ := Option.bind_eq_some_iff.mp hf
  refine go_priv (pc := 2) (i := 0) (as := [.int v1]) (rest := []) (w' := (none, [(8, r2.2)])) lk_0_156 pd_19 rfl oid_0 rfl rfl rfl rfl rfl rfl ⟨rfl, rfl, rfl, rfl, rfl⟩ d20_2 (c_k_rmapUnlink v1 s _ e1) ?_
  refine go_istoreN (pc := 5) (L' := [.val (.ref 1), .val (.int v1), .val (.int r2.1)]) d20_5 rfl (go_aloadN (pc := 6) d20_6 rfl (go_iloadN (pc := 7) d20_7 rfl ?_))
  refine go_priv (pc := 8) (i := 0) (as := [.int r2.1]) (rest := []) (w' := (none, [(8, r2.2)])) lk_0_62 pd_8 rfl oid_0 rfl rfl rfl rfl rfl rfl ⟨rfl, rfl, rfl, rfl, rfl⟩ d20_8 (c_k_frameInRange r2.1 r2.2) ?_
  by_cases h2 : (k_frameInRange r2.1 r2.2) = 0
  · replace hf := (if_pos h2).symm.trans hf
    refine go_ifN (pc := 11) d20_11 (XT.i0_ne_f h2) ?_
    refine go_iconst (pc := 14) d20_14 ci_m1 ?_
    cases hf
    exact go_iret (pc := 15) rfl d20_15
  · replace hf := (if_neg h2).symm.trans hf
    refine go_ifY (pc := 11) (pc' := 16) d20_11 (XT.i0_ne_t h2) j_11_5 ?_
    refine go_aloadN (pc := 16) d20_16 rfl (go_getA (pc := 17) fa_17 hm_20 d20_17 rfl (go_iloadN (pc := 20) d20_20 rfl (go_aloadN (pc := 21) d20_21 rfl (go_getA (pc := 22) fa_17 hm_20 d20_22 rfl (go_iloadN (pc := 25) d20_25 rfl ?_)))))
    obtain ⟨a26, e3, hf⟩ := Option.bind_eq_some_iff.mp hf
    refine go_iaload (pc := 26) (q := 2) ar_2 rfl e3 d20_26 ?_
    refine go_iconst (pc := 27) d20_27 ci_1 (go_isub (pc := 28) d20_28 ?_)
    obtain ⟨a29, e4, hf⟩ := Option.bind_eq_some_iff.mp hf
    refine go_iastore (pc := 29) (q := 2) ar_2 rfl hn_20 e4 d20_29 ?_
    refine go_iloadN (pc := 30) d20_30 rfl ?_
    cases hf
    exact go_iret (pc := 31) rfl d20_31
theorem c_k_detachPage (v1 : Int32) (s : S) (o : Int32 × S) (hf : k_detachPage v1 s = some o) : Call PP m20 [.ref 1, .int v1] (none, [(8, s)]) (some (.int o.1), (none, [(8, o.2)])) := call_of_go pl_0 rfl (fun h => nomatch h) (k_detachPage_ok v1 s   _ hf)
set_option maxRecDepth 65536 in
set_option maxHeartbeats 4000000 in
theorem k_freeFrame_ok  : ∀ (v1 : Int32) (s : S)  (o : S), k_freeFrame v1 s = some o → Go PP m21 0 [.val (.ref 1), .val (.int v1)] [] (none, [(8, s)]) (none, (none, [(8, o)])) := by
  intro v1 s o hf
  unfold k_freeFrame at hf
  refine go_aloadN (pc := 0) d21_0 rfl (go_iloadN (pc := 1) d21_1 rfl ?_)
  refine go_priv (pc := 2) (i := 0) (as := [.int v1]) (rest := []) (w' := (none, [(8, s)])) lk_0_62 pd_8 rfl oid_0 rfl rfl rfl rfl rfl rfl ⟨rfl, rfl, rfl, rfl, rfl⟩ d21_2 (c_k_frameInRange v1 s) ?_
  by_cases h1 : (k_frameInRange v1 s) = 0
  · replace hf := (if_pos h1).symm.trans hf
    refine go_ifN (pc := 5) d21_5 (XT.i0_ne_f h1) ?_
    cases hf
    exact go_ret (pc := 8) rfl d21_8
  · replace hf := (if_neg h1).symm.trans hf
    refine go_ifY (pc := 5) (pc' := 9) d21_5 (XT.i0_ne_t h1) j_5_4 ?_
    refine go_aloadN (pc := 9) d21_9 rfl (go_getA (pc := 10) fa_13 hm_21 d21_10 rfl (go_iloadN (pc := 13) d21_13 rfl (go_iconst (pc := 14) d21_14 ci_0 ?_)))
    obtain ⟨a15, e2, hf⟩ := Option.bind_eq_some_iff.mp hf
    refine go_iastore (pc := 15) (q := 1) ar_1 rfl hn_21 e2 d21_15 ?_
    refine go_aloadN (pc := 16) d21_16 rfl (go_getA (pc := 17) fa_17 hm_21 d21_17 rfl (go_iloadN (pc := 20) d21_20 rfl (go_iconst (pc := 21) d21_21 ci_0 ?_)))
    obtain ⟨a22, e3, hf⟩ := Option.bind_eq_some_iff.mp hf
    refine go_iastore (pc := 22) (q := 2) ar_2 rfl hn_21 e3 d21_22 ?_
    refine go_aloadN (pc := 23) d21_23 rfl (go_getA (pc := 24) fa_23 hm_21 d21_24 rfl (go_iloadN (pc := 27) d21_27 rfl (go_iconst (pc := 28) d21_28 ci_m1 ?_)))
    obtain ⟨a29, e4, hf⟩ := Option.bind_eq_some_iff.mp hf
    refine go_iastore (pc := 29) (q := 4) ar_4 rfl hn_21 e4 d21_29 ?_
    refine go_aloadN (pc := 30) d21_30 rfl (go_iloadN (pc := 31) d21_31 rfl (go_iconst (pc := 32) d21_32 ci_0 ?_))
    obtain ⟨r33, e5, hf⟩ := Option.bind_eq_some_iff.mp hf
    refine go_priv (pc := 33) (i := 0) (as := [.int v1, .int (0 : Int32)]) (rest := []) (w' := (none, [(8, r33)])) lk_0_69 pd_10 rfl oid_0 rfl rfl rfl rfl rfl rfl ⟨rfl, rfl, rfl, rfl, rfl⟩ d21_33 (c_k_enterState v1 (0 : Int32) (sA (sA (sA s 1 a15) 2 a22) 4 a29) _ e5) ?_
    cases hf
    exact go_ret (pc := 36) rfl d21_36
theorem c_k_freeFrame (v1 : Int32) (s : S) (o : S) (hf : k_freeFrame v1 s = some o) : Call PP m21 [.ref 1, .int v1] (none, [(8, s)]) (none, (none, [(8, o)])) := call_of_go pl_0 rfl (fun _ => rfl) (k_freeFrame_ok v1 s   _ hf)
set_option maxRecDepth 65536 in
set_option maxHeartbeats 4000000 in
theorem k_unmap_ok  : ∀ (v1 : Int32) (v2 : Int32) (s : S)  (o : Int32 × S), k_unmap v1 v2 s = some o → Go PP m22 0 [.val (.ref 1), .val (.int v1), .val (.int v2), .unset, .unset] [] (none, [(8, s)]) (some (.int o.1), (none, [(8, o.2)])) := by
  intro v1 v2 s o hf
  unfold k_unmap at hf
  refine go_aloadN (pc := 0) d22_0 rfl (go_iloadN (pc := 1) d22_1 rfl (go_iloadN (pc := 2) d22_2 rfl ?_))
  refine go_priv (pc := 3) (i := 0) (as := [.int v1, .int v2]) (rest := []) (w' := (none, [(8, s)])) lk_0_76 pd_4 rfl oid_0 rfl rfl rfl rfl rfl rfl ⟨rfl, rfl, rfl, rfl, rfl⟩ d22_3 (c_k_pageInRange v1 v2 s) ?_
  by_cases h1 : (k_pageInRange v1 v2 s) = 0
  · replace hf := (if_pos h1).symm.trans hf
    refine go_ifN (pc := 6) d22_6 (XT.i0_ne_f h1) ?_
    refine go_iconst (pc := 9) d22_9 ci_m1 ?_
    cases hf
    exact go_iret (pc := 10) rfl d22_10
  · replace hf := (if_neg h1).symm.trans hf
    refine go_ifY (pc := 6) (pc' := 11) d22_6 (XT.i0_ne_t h1) j_6_5 ?_
    refine go_aloadN (pc := 11) d22_11 rfl (go_iloadN (pc := 12) d22_12 rfl (go_iloadN (pc := 13) d22_13 rfl ?_))
    refine go_priv (pc := 14) (i := 0) (as := [.int v1, .int v2]) (rest := []) (w' := (none, [(8, s)])) lk_0_66 pd_5 rfl oid_0 rfl rfl rfl rfl rfl rfl ⟨rfl, rfl, rfl, rfl, rfl⟩ d22_14 (c_k_slotOf v1 v2 s) ?_
    refine go_istoreN (pc := 17) (L' := [.val (.ref 1), .val (.int v1), .val (.int v2), .val (.int (k_slotOf v1 v2)), .unset]) d22_17 rfl (go_aloadN (pc := 18) d22_18 rfl (go_getA (pc := 19) fa_20 hm_22 d22_19 rfl (go_iloadN (pc := 22) d22_22 rfl ?_)))
    obtain ⟨a23, e2, hf⟩ := Option.bind_eq_some_iff.mp hf
    refine go_iaload (pc := 23) (q := 3) ar_3 rfl e2 d22_23 ?_
    by_cases h3 : a23 < 0
    · replace hf := (if_pos h3).symm.trans hf
      refine go_ifN (pc := 24) d22_24 (XT.i0_ge_f h3) ?_
      refine go_bipush (pc := 27) d22_27 cb_m3 ?_
      cases hf
      exact go_iret (pc := 29) rfl d22_29
    · replace hf := (if_neg h3).symm.trans hf
      refine go_ifY (pc := 24) (pc' := 30) d22_24 (XT.i0_ge_t h3) j_24_6 ?_
      refine go_aloadN (pc := 30) d22_30 rfl (go_iloadN (pc := 31) d22_31 rfl ?_)
      obtain ⟨r32, e4, hf⟩ := Option.bind_eq_some_iff.mp hf
      refine go_priv (pc := 32) (i := 0) (as := [.int (k_slotOf v1 v2)]) (rest := []) (w' := (none, [(8, r32.2)])) lk_0_80 pd_20 rfl oid_0 rfl rfl rfl rfl rfl rfl ⟨rfl, rfl, rfl, rfl, rfl⟩ d22_32 (c_k_detachPage (k_slotOf v1 v2) s _ e4) ?_
      refine go_istore (pc := 35) (L' := [.val (.ref 1), .val (.int v1), .val (.int v2), .val (.int (k_slotOf v1 v2)), .val (.int r32.1)]) d22_35 rfl (go_aloadN (pc := 37) d22_37 rfl (go_iload (pc := 38) d22_38 rfl ?_))
      refine go_priv (pc := 40) (i := 0) (as := [.int r32.1]) (rest := []) (w' := (none, [(8, r32.2)])) lk_0_62 pd_8 rfl oid_0 rfl rfl rfl rfl rfl rfl ⟨rfl, rfl, rfl, rfl, rfl⟩ d22_40 (c_k_frameInRange r32.1 r32.2) ?_
      by_cases h5 : (k_frameInRange r32.1 r32.2) = 0
      · replace hf := (if_pos h5).symm.trans hf
        refine go_ifN (pc := 43) d22_43 (XT.i0_ne_f h5) ?_
        refine go_bipush (pc := 46) d22_46 cb_m3 ?_
        cases hf
        exact go_iret (pc := 48) rfl d22_48
      · replace hf := (if_neg h5).symm.trans hf
        refine go_ifY (pc := 43) (pc' := 49) d22_43 (XT.i0_ne_t h5) j_43_6 ?_
        refine go_aloadN (pc := 49) d22_49 rfl (go_getA (pc := 50) fa_17 hm_22 d22_50 rfl (go_iload (pc := 53) d22_53 rfl ?_))
        obtain ⟨a55, e6, hf⟩ := Option.bind_eq_some_iff.mp hf
        refine go_iaload (pc := 55) (q := 2) ar_2 rfl e6 d22_55 ?_
        by_cases h7 : 0 < a55
        · replace hf := (if_pos h7).symm.trans hf
          refine go_ifY (pc := 56) (pc' := 65) d22_56 (XT.i0_gt_t h7) j_56_9 ?_
          refine go_iload (pc := 65) d22_65 rfl ?_
          cases hf
          exact go_iret (pc := 67) rfl d22_67
        · replace hf := (if_neg h7).symm.trans hf
          refine go_ifN (pc := 56) d22_56 (XT.i0_gt_f h7) ?_
          refine go_aloadN (pc := 59) d22_59 rfl (go_iload (pc := 60) d22_60 rfl ?_)
          obtain ⟨r62, e8, hf⟩ := Option.bind_eq_some_iff.mp hf
          refine go_priv (pc := 62) (i := 0) (as := [.int r32.1]) (rest := []) (w' := (none, [(8, r62)])) lk_0_84 pd_21 rfl oid_0 rfl rfl rfl rfl rfl rfl ⟨rfl, rfl, rfl, rfl, rfl⟩ d22_62 (c_k_freeFrame r32.1 r32.2 _ e8) ?_
          refine go_iload (pc := 65) d22_65 rfl ?_
          cases hf
          exact go_iret (pc := 67) rfl d22_67
theorem c_k_unmap (v1 : Int32) (v2 : Int32) (s : S) (o : Int32 × S) (hf : k_unmap v1 v2 s = some o) : Call PP m22 [.ref 1, .int v1, .int v2] (none, [(8, s)]) (some (.int o.1), (none, [(8, o.2)])) := call_of_go pl_0 rfl (fun h => nomatch h) (k_unmap_ok v1 v2 s   _ hf)
set_option maxRecDepth 65536 in
set_option maxHeartbeats 4000000 in
theorem k_frameState_ok  : ∀ (v1 : Int32) (s : S)  (o : Int32), k_frameState v1 s = some o → Go PP m23 0 [.val (.ref 1), .val (.int v1)] [] (none, [(8, s)]) (some (.int o), (none, [(8, s)])) := by
  intro v1 s o hf
  unfold k_frameState at hf
  refine go_aloadN (pc := 0) d23_0 rfl (go_iloadN (pc := 1) d23_1 rfl ?_)
  refine go_priv (pc := 2) (i := 0) (as := [.int v1]) (rest := []) (w' := (none, [(8, s)])) lk_0_62 pd_8 rfl oid_0 rfl rfl rfl rfl rfl rfl ⟨rfl, rfl, rfl, rfl, rfl⟩ d23_2 (c_k_frameInRange v1 s) ?_
  by_cases h1 : (k_frameInRange v1 s) = 0
  · replace hf := (if_pos h1).symm.trans hf
    refine go_ifN (pc := 5) d23_5 (XT.i0_ne_f h1) ?_
    refine go_iconst (pc := 8) d23_8 ci_m1 ?_
    cases hf
    exact go_iret (pc := 9) rfl d23_9
  · replace hf := (if_neg h1).symm.trans hf
    refine go_ifY (pc := 5) (pc' := 10) d23_5 (XT.i0_ne_t h1) j_5_5 ?_
    refine go_aloadN (pc := 10) d23_10 rfl (go_getA (pc := 11) fa_7 hm_23 d23_11 rfl (go_iloadN (pc := 14) d23_14 rfl ?_))
    obtain ⟨a15, e2, hf⟩ := Option.bind_eq_some_iff.mp hf
    refine go_baload (pc := 15) (q := 0) ar_0 (by decide) rfl e2 d23_15 ?_
    cases hf
    exact go_iret (pc := 16) rfl d23_16
theorem c_k_frameState (v1 : Int32) (s : S) (o : Int32) (hf : k_frameState v1 s = some o) : Call PP m23 [.ref 1, .int v1] (none, [(8, s)]) (some (.int o), (none, [(8, s)])) := call_of_go pl_0 rfl (fun h => nomatch h) (k_frameState_ok v1 s   _ hf)
set_option maxRecDepth 65536 in
set_option maxHeartbeats 4000000 in
theorem k_frameValue_ok  : ∀ (v1 : Int32) (s : S)  (o : Int32), k_frameValue v1 s = some o → Go PP m24 0 [.val (.ref 1), .val (.int v1), .unset] [] (none, [(8, s)]) (some (.int o), (none, [(8, s)])) := by
  intro v1 s o hf
  unfold k_frameValue at hf
  refine go_aloadN (pc := 0) d24_0 rfl (go_iloadN (pc := 1) d24_1 rfl ?_)
  refine go_priv (pc := 2) (i := 0) (as := [.int v1]) (rest := []) (w' := (none, [(8, s)])) lk_0_62 pd_8 rfl oid_0 rfl rfl rfl rfl rfl rfl ⟨rfl, rfl, rfl, rfl, rfl⟩ d24_2 (c_k_frameInRange v1 s) ?_
  by_cases h1 : (k_frameInRange v1 s) = 0
  · replace hf := (if_pos h1).symm.trans hf
    refine go_ifN (pc := 5) d24_5 (XT.i0_ne_f h1) ?_
    refine go_iconst (pc := 8) d24_8 ci_0 ?_
    cases hf
    exact go_iret (pc := 9) rfl d24_9
  · replace hf := (if_neg h1).symm.trans hf
    refine go_ifY (pc := 5) (pc' := 10) d24_5 (XT.i0_ne_t h1) j_5_5 ?_
    refine go_aloadN (pc := 10) d24_10 rfl (go_getA (pc := 11) fa_7 hm_24 d24_11 rfl (go_iloadN (pc := 14) d24_14 rfl ?_))
    obtain ⟨a15, e2, hf⟩ := Option.bind_eq_some_iff.mp hf
    refine go_baload (pc := 15) (q := 0) ar_0 (by decide) rfl e2 d24_15 ?_
    refine go_istoreN (pc := 16) (L' := [.val (.ref 1), .val (.int v1), .val (.int a15)]) d24_16 rfl (go_iloadN (pc := 17) d24_17 rfl ?_)
    by_cases h3 : a15 = 0
    · replace hf := (if_pos h3).symm.trans hf
      refine go_ifY (pc := 18) (pc' := 26) d24_18 (XT.i0_eq_t h3) j_18_8 ?_
      refine go_iconst (pc := 26) d24_26 ci_0 ?_
      cases hf
      exact go_iret (pc := 27) rfl d24_27
    · replace hf := (if_neg h3).symm.trans hf
      refine go_ifN (pc := 18) d24_18 (XT.i0_eq_f h3) ?_
      refine go_iloadN (pc := 21) d24_21 rfl (go_iconst (pc := 22) d24_22 ci_3 ?_)
      by_cases h4 : a15 = (3 : Int32)
      · replace hf := (if_pos h4).symm.trans hf
        refine go_icN (pc := 23) d24_23 (XT.ii_ne_f h4) ?_
        refine go_iconst (pc := 26) d24_26 ci_0 ?_
        cases hf
        exact go_iret (pc := 27) rfl d24_27
      · replace hf := (if_neg h4).symm.trans hf
        refine go_icY (pc := 23) (pc' := 28) d24_23 (XT.ii_ne_t h4) j_23_5 ?_
        refine go_aloadN (pc := 28) d24_28 rfl (go_getA (pc := 29) fa_13 hm_24 d24_29 rfl (go_iloadN (pc := 32) d24_32 rfl ?_))
        obtain ⟨a33, e5, hf⟩ := Option.bind_eq_some_iff.mp hf
        refine go_iaload (pc := 33) (q := 1) ar_1 rfl e5 d24_33 ?_
        cases hf
        exact go_iret (pc := 34) rfl d24_34
theorem c_k_frameValue (v1 : Int32) (s : S) (o : Int32) (hf : k_frameValue v1 s = some o) : Call PP m24 [.ref 1, .int v1] (none, [(8, s)]) (some (.int o), (none, [(8, s)])) := call_of_go pl_0 rfl (fun h => nomatch h) (k_frameValue_ok v1 s   _ hf)
set_option maxRecDepth 65536 in
set_option maxHeartbeats 4000000 in
theorem k_bitCount_34_ok  {s : S} : ∀ (v3 : Int64)  (x1 : Slot) (x2 : Slot) (hx1 : k2 x1 x2) (o : Int32), k_bitCount_34 v3 = o → Go PP m25 34 [.val (.ref 1), x1, x2, .val (.long v3), .second] [] (none, [(8, s)]) (some (.int o), (none, [(8, s)])) := by
  intro v3 x1 x2 hx1 o hf
  unfold k_bitCount_34 at hf
  refine go_lloadN (pc := 34) d25_34 rfl (go_ldc2 (pc := 35) (u := (72340172838076673 : Int64)) d25_35 (List.mem_of_getElem? (i := 160) rfl) (go_lmul (pc := 38) d25_38 (go_bipush (pc := 39) d25_39 cb_56 (go_lushr (pc := 41) d25_41 (go_l2i (pc := 42) d25_42 ?_)))))
  cases hf
  exact go_iret (pc := 43) rfl d25_43
set_option maxRecDepth 65536 in
set_option maxHeartbeats 4000000 in
theorem k_bitCount_ok  {s : S} : ∀ (v1 : Int64)   (o : Int32), k_bitCount v1 = o → Go PP m25 0 [.val (.ref 1), .val (.long v1), .second, .unset, .unset] [] (none, [(8, s)]) (some (.int o), (none, [(8, s)])) := by
  intro v1 o hf
  unfold k_bitCount at hf
  refine go_lloadN (pc := 0) d25_0 rfl (go_lloadN (pc := 1) d25_1 rfl (go_iconst (pc := 2) d25_2 ci_1 (go_lushr (pc := 3) d25_3 (go_ldc2 (pc := 4) (u := (6148914691236517205 : Int64)) d25_4 (List.mem_of_getElem? (i := 157) rfl) (go_land (pc := 7) d25_7 (go_lsub (pc := 8) d25_8 (go_lstoreN (pc := 9) (L' := [.val (.ref 1), .val (.long v1), .second, .val (.long (v1 - ((XT.ushrL v1 (1 : Int32)) &&& (6148914691236517205 : Int64)))), .second]) d25_9 rfl ?_)))))))
  refine go_lloadN (pc := 10) d25_10 rfl (go_ldc2 (pc := 11) (u := (3689348814741910323 : Int64)) d25_11 (List.mem_of_getElem? (i := 158) rfl) (go_land (pc := 14) d25_14 (go_lloadN (pc := 15) d25_15 rfl (go_iconst (pc := 16) d25_16 ci_2 (go_lushr (pc := 17) d25_17 (go_ldc2 (pc := 18) (u := (3689348814741910323 : Int64)) d25_18 (List.mem_of_getElem? (i := 158) rfl) (go_land (pc := 21) d25_21 ?_)))))))
  refine go_ladd (pc := 22) d25_22 (go_lstoreN (pc := 23) (L' := [.val (.ref 1), .val (.long v1), .second, .val (.long (((v1 - ((XT.ushrL v1 (1 : Int32)) &&& (6148914691236517205 : Int64))) &&& (3689348814741910323 : Int64)) + ((XT.ushrL (v1 - ((XT.ushrL v1 (1 : Int32)) &&& (6148914691236517205 : Int64))) (2 : Int32)) &&& (3689348814741910323 : Int64)))), .second]) d25_23 rfl (go_lloadN (pc := 24) d25_24 rfl (go_lloadN (pc := 25) d25_25 rfl (go_iconst (pc := 26) d25_26 ci_4 (go_lushr (pc := 27) d25_27 (go_ladd (pc := 28) d25_28 (go_ldc2 (pc := 29) (u := (1085102592571150095 : Int64)) d25_29 (List.mem_of_getElem? (i := 159) rfl) ?_)))))))
  refine go_land (pc := 32) d25_32 (go_lstoreN (pc := 33) (L' := [.val (.ref 1), .val (.long v1), .second, .val (.long (((((v1 - ((XT.ushrL v1 (1 : Int32)) &&& (6148914691236517205 : Int64))) &&& (3689348814741910323 : Int64)) + ((XT.ushrL (v1 - ((XT.ushrL v1 (1 : Int32)) &&& (6148914691236517205 : Int64))) (2 : Int32)) &&& (3689348814741910323 : Int64))) + (XT.ushrL (((v1 - ((XT.ushrL v1 (1 : Int32)) &&& (6148914691236517205 : Int64))) &&& (3689348814741910323 : Int64)) + ((XT.ushrL (v1 - ((XT.ushrL v1 (1 : Int32)) &&& (6148914691236517205 : Int64))) (2 : Int32)) &&& (3689348814741910323 : Int64))) (4 : Int32))) &&& (1085102592571150095 : Int64))), .second]) d25_33 rfl ?_)
  exact k_bitCount_34_ok (((((v1 - ((XT.ushrL v1 (1 : Int32)) &&& (6148914691236517205 : Int64))) &&& (3689348814741910323 : Int64)) + ((XT.ushrL (v1 - ((XT.ushrL v1 (1 : Int32)) &&& (6148914691236517205 : Int64))) (2 : Int32)) &&& (3689348814741910323 : Int64))) + (XT.ushrL (((v1 - ((XT.ushrL v1 (1 : Int32)) &&& (6148914691236517205 : Int64))) &&& (3689348814741910323 : Int64)) + ((XT.ushrL (v1 - ((XT.ushrL v1 (1 : Int32)) &&& (6148914691236517205 : Int64))) (2 : Int32)) &&& (3689348814741910323 : Int64))) (4 : Int32))) &&& (1085102592571150095 : Int64)) (.val (.long v1)) .second (Or.inr ⟨_, rfl, rfl⟩) _ hf
theorem c_k_bitCount (v1 : Int64) (s : S) : Call PP m25 [.ref 1, .long v1] (none, [(8, s)]) (some (.int (k_bitCount v1)), (none, [(8, s)])) := call_of_go pl_0 rfl (fun h => nomatch h) (k_bitCount_ok v1   _ rfl)
set_option maxRecDepth 65536 in
set_option maxHeartbeats 4000000 in
theorem k_freeCount_ok  : ∀  (s : S)  (o : Int32), k_freeCount s = o → Go PP m26 0 [.val (.ref 1)] [] (none, [(8, s)]) (some (.int o), (none, [(8, s)])) := by
  intro s o hf
  unfold k_freeCount at hf
  refine go_aloadN (pc := 0) d26_0 rfl (go_aloadN (pc := 1) d26_1 rfl (go_getJ (pc := 2) fs_54 hm_26 d26_2 ?_))
  refine go_priv (pc := 5) (i := 0) (as := [.long (gL s 2)]) (rest := []) (w' := (none, [(8, s)])) lk_0_123 pd_25 rfl oid_0 rfl rfl rfl rfl rfl rfl ⟨rfl, rfl, rfl, rfl, rfl⟩ d26_5 (c_k_bitCount (gL s 2) s) ?_
  cases hf
  exact go_iret (pc := 8) rfl d26_8
theorem c_k_freeCount (s : S) : Call PP m26 [.ref 1] (none, [(8, s)]) (some (.int (k_freeCount s)), (none, [(8, s)])) := call_of_go pl_0 rfl (fun h => nomatch h) (k_freeCount_ok s   _ rfl)
set_option maxRecDepth 65536 in
set_option maxHeartbeats 4000000 in
theorem law_339_ok  : ∀ (p0 : Int32) (p1 : Int32) (t0 : S) (x0 : Slot) (x1 : Slot) (x2 : Slot) (x3 : Slot) (x4 : Slot) (x5 : Slot) (x7 : Slot) (x8 : Slot) (x9 : Slot) (x10 : Slot) (x11 : Slot) (x12 : Slot) (x13 : Slot) (x14 : Slot) (x15 : Slot) (hx0 : k1 x0) (hx1 : k1 x1) (hx2 : k1 x2) (hx3 : k1 x3) (hx4 : k1 x4) (hx5 : k1 x5) (hx7 : k1 x7) (hx8 : k1 x8) (hx9 : k1 x9) (hx10 : k1 x10) (hx11 : k1 x11) (hx12 : k1 x12) (hx13 : k1 x13) (hx14 : k1 x14) (hx15 : k1 x15) (o : Int32 × S), law_339 p0 p1 t0 = some o → Go PP m27 339 [x0, x1, x2, x3, x4, x5, .val (.ref 1), x7, x8, x9, x10, x11, x12, x13, x14, x15] [.int p0, .int p1] (none, [(8, t0)]) (some (.int o.1), (none, [(8, o.2)])) := by
  intro p0 p1 t0 x0 x1 x2 x3 x4 x5 x7 x8 x9 x10 x11 x12 x13 x14 x15 hx0 hx1 hx2 hx3 hx4 hx5 hx7 hx8 hx9 hx10 hx11 hx12 hx13 hx14 hx15 o hf
  unfold law_339 at hf
  by_cases h1 : p1 = p0
  · replace hf := (if_pos h1).symm.trans hf
    refine go_icY (pc := 339) (pc' := 344) d27_339 (XT.ii_eq_t h1) j_339_5 ?_
    refine go_iconst (pc := 344) d27_344 ci_1 ?_
    cases hf
    exact go_zret (pc := 345) rfl d27_345 (show (1 : Int32) = nar .boolean (1 : Int32) by decide)
  · replace hf := (if_neg h1).symm.trans hf
    refine go_icN (pc := 339) d27_339 (XT.ii_eq_f h1) ?_
    refine go_iconst (pc := 342) d27_342 ci_0 ?_
    cases hf
    exact go_zret (pc := 343) rfl d27_343 (show (0 : Int32) = nar .boolean (0 : Int32) by decide)
set_option maxRecDepth 65536 in
set_option maxHeartbeats 4000000 in
theorem law_316_ok  : ∀ (v2 : Int32) (v3 : Int32) (v11 : Int32) (v15 : Int32) (p0 : Int32) (p1 : Int32) (t0 : S) (x0 : Slot) (x1 : Slot) (x4 : Slot) (x5 : Slot) (x7 : Slot) (x8 : Slot) (x9 : Slot) (x10 : Slot) (x12 : Slot) (x13 : Slot) (x14 : Slot) (hx0 : k1 x0) (hx1 : k1 x1) (hx4 : k1 x4) (hx5 : k1 x5) (hx7 : k1 x7) (hx8 : k1 x8) (hx9 : k1 x9) (hx10 : k1 x10) (hx12 : k1 x12) (hx13 : k1 x13) (hx14 : k1 x14) (o : Int32 × S), law_316 v2 v3 v11 v15 p0 p1 t0 = some o → Go PP m27 316 [x0, x1, .val (.int v2), .val (.int v3), x4, x5, .val (.ref 1), x7, x8, x9, x10, .val (.int v11), x12, x13, x14, .val (.int v15)] [.int p0, .int p1] (none, [(8, t0)]) (some (.int o.1), (none, [(8, o.2)])) := by
  intro v2 v3 v11 v15 p0 p1 t0 x0 x1 x4 x5 x7 x8 x9 x10 x12 x13 x14 hx0 hx1 hx4 hx5 hx7 hx8 hx9 hx10 hx12 hx13 hx14 o hf
  unfold law_316 at hf
  by_cases h1 : p1 = p0
  · replace hf := (if_pos h1).symm.trans hf
    refine go_icY (pc := 316) (pc' := 321) d27_316 (XT.ii_eq_t h1) j_316_5 ?_
    refine go_aload (pc := 321) d27_321 rfl (go_iloadN (pc := 323) d27_323 rfl (go_iloadN (pc := 324) d27_324 rfl ?_))
    obtain ⟨r325, e2, hf⟩ := Option.bind_eq_some_iff.mp hf
    refine go_virt (pc := 325) (i := 0) (as := [.int v2, .int v3]) (rest := []) (w' := (none, [(8, t0)])) lk_1_28 pd_18 rfl oid_0 rfl rfl rfl rfl rfl rfl ⟨rfl, rfl, rfl, rfl, rfl⟩ d27_325 (c_k_read v2 v3 t0 _ e2) ?_
    refine go_iload (pc := 328) d27_328 rfl ?_
    by_cases h3 : v11 = 0
    · refine go_ifY (pc := 330) (pc' := 338) d27_330 (XT.i0_eq_t h3) j_330_8 ?_
      refine go_iconst (pc := 338) d27_338 ci_0 ?_
      exact law_339_ok (0 : Int32) r325 t0 x0 x1 (.val (.int v2)) (.val (.int v3)) x4 x5 x7 x8 x9 x10 (.val (.int v11)) x12 x13 x14 (.val (.int v15)) hx0 hx1 (Or.inr ⟨_, rfl, rfl⟩) (Or.inr ⟨_, rfl, rfl⟩) hx4 hx5 hx7 hx8 hx9 hx10 (Or.inr ⟨_, rfl, rfl⟩) hx12 hx13 hx14 (Or.inr ⟨_, rfl, rfl⟩) _ (by simpa only [if_pos h3] using hf)
    · refine go_ifN (pc := 330) d27_330 (XT.i0_eq_f h3) ?_
      refine go_iload (pc := 333) d27_333 rfl (go_goto (pc := 335) (pc' := 339) d27_335 j_335_4 ?_)
      exact law_339_ok v15 r325 t0 x0 x1 (.val (.int v2)) (.val (.int v3)) x4 x5 x7 x8 x9 x10 (.val (.int v11)) x12 x13 x14 (.val (.int v15)) hx0 hx1 (Or.inr ⟨_, rfl, rfl⟩) (Or.inr ⟨_, rfl, rfl⟩) hx4 hx5 hx7 hx8 hx9 hx10 (Or.inr ⟨_, rfl, rfl⟩) hx12 hx13 hx14 (Or.inr ⟨_, rfl, rfl⟩) _ (by simpa only [if_neg h3] using hf)
  · replace hf := (if_neg h1).symm.trans hf
    refine go_icN (pc := 316) d27_316 (XT.ii_eq_f h1) ?_
    refine go_iconst (pc := 319) d27_319 ci_0 ?_
    cases hf
    exact go_zret (pc := 320) rfl d27_320 (show (0 : Int32) = nar .boolean (0 : Int32) by decide)
set_option maxRecDepth 65536 in
set_option maxHeartbeats 4000000 in
theorem law_292_ok  : ∀ (v2 : Int32) (v3 : Int32) (v7 : Int32) (v11 : Int32) (v15 : Int32) (p0 : Int32) (p1 : Int32) (t0 : S) (x0 : Slot) (x1 : Slot) (x4 : Slot) (x5 : Slot) (x8 : Slot) (x9 : Slot) (x10 : Slot) (x12 : Slot) (x13 : Slot) (x14 : Slot) (hx0 : k1 x0) (hx1 : k1 x1) (hx4 : k1 x4) (hx5 : k1 x5) (hx8 : k1 x8) (hx9 : k1 x9) (hx10 : k1 x10) (hx12 : k1 x12) (hx13 : k1 x13) (hx14 : k1 x14) (o : Int32 × S), law_292 v2 v3 v7 v11 v15 p0 p1 t0 = some o → Go PP m27 292 [x0, x1, .val (.int v2), .val (.int v3), x4, x5, .val (.ref 1), .val (.int v7), x8, x9, x10, .val (.int v11), x12, x13, x14, .val (.int v15)] [.int p0, .int p1] (none, [(8, t0)]) (some (.int o.1), (none, [(8, o.2)])) := by
  intro v2 v3 v7 v11 v15 p0 p1 t0 x0 x1 x4 x5 x8 x9 x10 x12 x13 x14 hx0 hx1 hx4 hx5 hx8 hx9 hx10 hx12 hx13 hx14 o hf
  unfold law_292 at hf
  by_cases h1 : p1 = p0
  · replace hf := (if_pos h1).symm.trans hf
    refine go_icY (pc := 292) (pc' := 297) d27_292 (XT.ii_eq_t h1) j_292_5 ?_
    refine go_aload (pc := 297) d27_297 rfl ?_
    refine go_virt (pc := 299) (i := 0) (as := []) (rest := []) (w' := (none, [(8, t0)])) lk_1_41 pd_26 rfl oid_0 rfl rfl rfl rfl rfl rfl ⟨rfl, rfl, rfl, rfl, rfl⟩ d27_299 (c_k_freeCount t0) ?_
    refine go_iload (pc := 302) d27_302 rfl ?_
    by_cases h2 : v11 = 0
    · refine go_ifY (pc := 304) (pc' := 314) d27_304 (XT.i0_eq_t h2) j_304_10 ?_
      refine go_iload (pc := 314) d27_314 rfl ?_
      exact law_316_ok v2 v3 v11 v15 v7 (k_freeCount t0) t0 x0 x1 x4 x5 (.val (.int v7)) x8 x9 x10 x12 x13 x14 hx0 hx1 hx4 hx5 (Or.inr ⟨_, rfl, rfl⟩) hx8 hx9 hx10 hx12 hx13 hx14 _ (by simpa only [if_pos h2] using hf)
    · refine go_ifN (pc := 304) d27_304 (XT.i0_eq_f h2) ?_
      refine go_iload (pc := 307) d27_307 rfl (go_iconst (pc := 309) d27_309 ci_1 (go_isub (pc := 310) d27_310 (go_goto (pc := 311) (pc' := 316) d27_311 j_311_5 ?_)))
      exact law_316_ok v2 v3 v11 v15 (v7 - (1 : Int32)) (k_freeCount t0) t0 x0 x1 x4 x5 (.val (.int v7)) x8 x9 x10 x12 x13 x14 hx0 hx1 hx4 hx5 (Or.inr ⟨_, rfl, rfl⟩) hx8 hx9 hx10 hx12 hx13 hx14 _ (by simpa only [if_neg h2] using hf)
  · replace hf := (if_neg h1).symm.trans hf
    refine go_icN (pc := 292) d27_292 (XT.ii_eq_f h1) ?_
    refine go_iconst (pc := 295) d27_295 ci_0 ?_
    cases hf
    exact go_zret (pc := 296) rfl d27_296 (show (0 : Int32) = nar .boolean (0 : Int32) by decide)
set_option maxRecDepth 65536 in
set_option maxHeartbeats 4000000 in
theorem law_270_ok  : ∀ (v2 : Int32) (v3 : Int32) (v7 : Int32) (v11 : Int32) (v15 : Int32) (p0 : Int32) (p1 : Int32) (t0 : S) (x0 : Slot) (x1 : Slot) (x4 : Slot) (x5 : Slot) (x8 : Slot) (x9 : Slot) (x10 : Slot) (x12 : Slot) (x13 : Slot) (x14 : Slot) (hx0 : k1 x0) (hx1 : k1 x1) (hx4 : k1 x4) (hx5 : k1 x5) (hx8 : k1 x8) (hx9 : k1 x9) (hx10 : k1 x10) (hx12 : k1 x12) (hx13 : k1 x13) (hx14 : k1 x14) (o : Int32 × S), law_270 v2 v3 v7 v11 v15 p0 p1 t0 = some o → Go PP m27 270 [x0, x1, .val (.int v2), .val (.int v3), x4, x5, .val (.ref 1), .val (.int v7), x8, x9, x10, .val (.int v11), x12, x13, x14, .val (.int v15)] [.int p0, .int p1] (none, [(8, t0)]) (some (.int o.1), (none, [(8, o.2)])) := by
  intro v2 v3 v7 v11 v15 p0 p1 t0 x0 x1 x4 x5 x8 x9 x10 x12 x13 x14 hx0 hx1 hx4 hx5 hx8 hx9 hx10 hx12 hx13 hx14 o hf
  unfold law_270 at hf
  by_cases h1 : p1 = p0
  · replace hf := (if_pos h1).symm.trans hf
    refine go_icY (pc := 270) (pc' := 275) d27_270 (XT.ii_eq_t h1) j_270_5 ?_
    refine go_aload (pc := 275) d27_275 rfl (go_iconst (pc := 277) d27_277 ci_0 ?_)
    obtain ⟨r278, e2, hf⟩ := Option.bind_eq_some_iff.mp hf
    refine go_virt (pc := 278) (i := 0) (as := [.int (0 : Int32)]) (rest := []) (w' := (none, [(8, t0)])) lk_1_38 pd_24 rfl oid_0 rfl rfl rfl rfl rfl rfl ⟨rfl, rfl, rfl, rfl, rfl⟩ d27_278 (c_k_frameValue (0 : Int32) t0 _ e2) ?_
    refine go_iload (pc := 281) d27_281 rfl ?_
    by_cases h3 : v11 = 0
    · refine go_ifY (pc := 283) (pc' := 291) d27_283 (XT.i0_eq_t h3) j_283_8 ?_
      refine go_iconst (pc := 291) d27_291 ci_0 ?_
      exact law_292_ok v2 v3 v7 v11 v15 (0 : Int32) r278 t0 x0 x1 x4 x5 x8 x9 x10 x12 x13 x14 hx0 hx1 hx4 hx5 hx8 hx9 hx10 hx12 hx13 hx14 _ (by simpa only [if_pos h3] using hf)
    · refine go_ifN (pc := 283) d27_283 (XT.i0_eq_f h3) ?_
      refine go_iload (pc := 286) d27_286 rfl (go_goto (pc := 288) (pc' := 292) d27_288 j_288_4 ?_)
      exact law_292_ok v2 v3 v7 v11 v15 v15 r278 t0 x0 x1 x4 x5 x8 x9 x10 x12 x13 x14 hx0 hx1 hx4 hx5 hx8 hx9 hx10 hx12 hx13 hx14 _ (by simpa only [if_neg h3] using hf)
  · replace hf := (if_neg h1).symm.trans hf
    refine go_icN (pc := 270) d27_270 (XT.ii_eq_f h1) ?_
    refine go_iconst (pc := 273) d27_273 ci_0 ?_
    cases hf
    exact go_zret (pc := 274) rfl d27_274 (show (0 : Int32) = nar .boolean (0 : Int32) by decide)
set_option maxRecDepth 65536 in
set_option maxHeartbeats 4000000 in
theorem law_226_ok  : ∀ (v2 : Int32) (v3 : Int32) (v7 : Int32) (v11 : Int32) (p0 : Int32) (t0 : S) (x0 : Slot) (x1 : Slot) (x4 : Slot) (x5 : Slot) (x8 : Slot) (x9 : Slot) (x10 : Slot) (x12 : Slot) (x13 : Slot) (x14 : Slot) (hx0 : k1 x0) (hx1 : k1 x1) (hx4 : k1 x4) (hx5 : k1 x5) (hx8 : k1 x8) (hx9 : k1 x9) (hx10 : k1 x10) (hx12 : k1 x12) (hx13 : k1 x13) (hx14 : k1 x14) (o : Int32 × S), law_226 v2 v3 v7 v11 p0 t0 = some o → Go PP m27 226 [x0, x1, .val (.int v2), .val (.int v3), x4, x5, .val (.ref 1), .val (.int v7), x8, x9, x10, .val (.int v11), x12, x13, x14, .unset] [.int p0] (none, [(8, t0)]) (some (.int o.1), (none, [(8, o.2)])) := by
  intro v2 v3 v7 v11 p0 t0 x0 x1 x4 x5 x8 x9 x10 x12 x13 x14 hx0 hx1 hx4 hx5 hx8 hx9 hx10 hx12 hx13 hx14 o hf
  unfold law_226 at hf
  refine go_istore (pc := 226) (L' := [x0, x1, .val (.int v2), .val (.int v3), x4, x5, .val (.ref 1), .val (.int v7), x8, x9, x10, .val (.int v11), x12, x13, x14, .val (.int p0)]) d27_226 rfl (go_aload (pc := 228) d27_228 rfl (go_iconst (pc := 230) d27_230 ci_0 (go_iconst (pc := 231) d27_231 ci_0 ?_)))
  obtain ⟨r232, e1, hf⟩ := Option.bind_eq_some_iff.mp hf
  refine go_virt (pc := 232) (i := 0) (as := [.int (0 : Int32), .int (0 : Int32)]) (rest := []) (w' := (none, [(8, t0)])) lk_1_28 pd_18 rfl oid_0 rfl rfl rfl rfl rfl rfl ⟨rfl, rfl, rfl, rfl, rfl⟩ d27_232 (c_k_read (0 : Int32) (0 : Int32) t0 _ e1) ?_
  refine go_iload (pc := 235) d27_235 rfl ?_
  by_cases h2 : r232 = p0
  · replace hf := (if_pos h2).symm.trans hf
    refine go_icY (pc := 237) (pc' := 242) d27_237 (XT.ii_eq_t h2) j_237_5 ?_
    refine go_aload (pc := 242) d27_242 rfl (go_iconst (pc := 244) d27_244 ci_0 (go_iconst (pc := 245) d27_245 ci_0 ?_))
    obtain ⟨r246, e3, hf⟩ := Option.bind_eq_some_iff.mp hf
    refine go_virt (pc := 246) (i := 0) (as := [.int (0 : Int32), .int (0 : Int32)]) (rest := []) (w' := (none, [(8, r246.2)])) lk_1_32 pd_22 rfl oid_0 rfl rfl rfl rfl rfl rfl ⟨rfl, rfl, rfl, rfl, rfl⟩ d27_246 (c_k_unmap (0 : Int32) (0 : Int32) t0 _ e3) ?_
    by_cases h4 : r246.1 = 0
    · replace hf := (if_pos h4).symm.trans hf
      refine go_ifY (pc := 249) (pc' := 254) d27_249 (XT.i0_eq_t h4) j_249_5 ?_
      refine go_aload (pc := 254) d27_254 rfl (go_iconst (pc := 256) d27_256 ci_0 ?_)
      obtain ⟨r257, e5, hf⟩ := Option.bind_eq_some_iff.mp hf
      refine go_virt (pc := 257) (i := 0) (as := [.int (0 : Int32)]) (rest := []) (w' := (none, [(8, r246.2)])) lk_1_35 pd_23 rfl oid_0 rfl rfl rfl rfl rfl rfl ⟨rfl, rfl, rfl, rfl, rfl⟩ d27_257 (c_k_frameState (0 : Int32) r246.2 _ e5) ?_
      refine go_iload (pc := 260) d27_260 rfl ?_
      by_cases h6 : v11 = 0
      · refine go_ifY (pc := 262) (pc' := 269) d27_262 (XT.i0_eq_t h6) j_262_7 ?_
        refine go_iconst (pc := 269) d27_269 ci_0 ?_
        exact law_270_ok v2 v3 v7 v11 p0 (0 : Int32) r257 r246.2 x0 x1 x4 x5 x8 x9 x10 x12 x13 x14 hx0 hx1 hx4 hx5 hx8 hx9 hx10 hx12 hx13 hx14 _ (by simpa only [if_pos h6] using hf)
      · refine go_ifN (pc := 262) d27_262 (XT.i0_eq_f h6) ?_
        refine go_iconst (pc := 265) d27_265 ci_1 (go_goto (pc := 266) (pc' := 270) d27_266 j_266_4 ?_)
        exact law_270_ok v2 v3 v7 v11 p0 (1 : Int32) r257 r246.2 x0 x1 x4 x5 x8 x9 x10 x12 x13 x14 hx0 hx1 hx4 hx5 hx8 hx9 hx10 hx12 hx13 hx14 _ (by simpa only [if_neg h6] using hf)
    · replace hf := (if_neg h4).symm.trans hf
      refine go_ifN (pc := 249) d27_249 (XT.i0_eq_f h4) ?_
      refine go_iconst (pc := 252) d27_252 ci_0 ?_
      cases hf
      exact go_zret (pc := 253) rfl d27_253 (show (0 : Int32) = nar .boolean (0 : Int32) by decide)
  · replace hf := (if_neg h2).symm.trans hf
    refine go_icN (pc := 237) d27_237 (XT.ii_eq_f h2) ?_
    refine go_iconst (pc := 240) d27_240 ci_0 ?_
    cases hf
    exact go_zret (pc := 241) rfl d27_241 (show (0 : Int32) = nar .boolean (0 : Int32) by decide)
set_option maxRecDepth 65536 in
set_option maxHeartbeats 4000000 in
theorem law_189_ok  : ∀ (v2 : Int32) (v3 : Int32) (v4 : Int32) (v5 : Int32) (v7 : Int32) (v9 : Int32) (v11 : Int32) (p0 : Int32) (p1 : Int32) (t0 : S) (x0 : Slot) (x1 : Slot) (x8 : Slot) (x10 : Slot) (x12 : Slot) (x13 : Slot) (hx0 : k1 x0) (hx1 : k1 x1) (hx8 : k1 x8) (hx10 : k1 x10) (hx12 : k1 x12) (hx13 : k1 x13) (o : Int32 × S), law_189 v2 v3 v4 v5 v7 v9 v11 p0 p1 t0 = some o → Go PP m27 189 [x0, x1, .val (.int v2), .val (.int v3), .val (.int v4), .val (.int v5), .val (.ref 1), .val (.int v7), x8, .val (.int v9), x10, .val (.int v11), x12, x13, .unset, .unset] [.int p0, .int p1] (none, [(8, t0)]) (some (.int o.1), (none, [(8, o.2)])) := by
  intro v2 v3 v4 v5 v7 v9 v11 p0 p1 t0 x0 x1 x8 x10 x12 x13 hx0 hx1 hx8 hx10 hx12 hx13 o hf
  unfold law_189 at hf
  by_cases h1 : p1 = p0
  · replace hf := (if_pos h1).symm.trans hf
    refine go_icY (pc := 189) (pc' := 194) d27_189 (XT.ii_eq_t h1) j_189_5 ?_
    refine go_aload (pc := 194) d27_194 rfl (go_iloadN (pc := 196) d27_196 rfl (go_iloadN (pc := 197) d27_197 rfl (go_iload (pc := 198) d27_198 rfl ?_)))
    obtain ⟨r200, e2, hf⟩ := Option.bind_eq_some_iff.mp hf
    refine go_virt (pc := 200) (i := 0) (as := [.int v2, .int v3, .int v5]) (rest := []) (w' := (none, [(8, r200.2)])) lk_1_24 pd_17 rfl oid_0 rfl rfl rfl rfl rfl rfl ⟨rfl, rfl, rfl, rfl, rfl⟩ d27_200 (c_k_write v2 v3 v5 t0 _ e2) ?_
    refine go_istore (pc := 203) (L' := [x0, x1, .val (.int v2), .val (.int v3), .val (.int v4), .val (.int v5), .val (.ref 1), .val (.int v7), x8, .val (.int v9), x10, .val (.int v11), x12, x13, .val (.int r200.1), .unset]) d27_203 rfl (go_iload (pc := 205) d27_205 rfl (go_iload (pc := 207) d27_207 rfl ?_))
    by_cases h3 : r200.1 = v9
    · replace hf := (if_pos h3).symm.trans hf
      refine go_icY (pc := 209) (pc' := 214) d27_209 (XT.ii_eq_t h3) j_209_5 ?_
      refine go_iload (pc := 214) d27_214 rfl ?_
      by_cases h4 : v9 = 0
      · refine go_ifY (pc := 216) (pc' := 224) d27_216 (XT.i0_eq_t h4) j_216_8 ?_
        refine go_iload (pc := 224) d27_224 rfl ?_
        exact law_226_ok v2 v3 v7 v11 v4 r200.2 x0 x1 (.val (.int v4)) (.val (.int v5)) x8 (.val (.int v9)) x10 x12 x13 (.val (.int r200.1)) hx0 hx1 (Or.inr ⟨_, rfl, rfl⟩) (Or.inr ⟨_, rfl, rfl⟩) hx8 (Or.inr ⟨_, rfl, rfl⟩) hx10 hx12 hx13 (Or.inr ⟨_, rfl, rfl⟩) _ (by simpa only [if_pos h4] using hf)
      · refine go_ifN (pc := 216) d27_216 (XT.i0_eq_f h4) ?_
        refine go_iload (pc := 219) d27_219 rfl (go_goto (pc := 221) (pc' := 226) d27_221 j_221_5 ?_)
        exact law_226_ok v2 v3 v7 v11 v5 r200.2 x0 x1 (.val (.int v4)) (.val (.int v5)) x8 (.val (.int v9)) x10 x12 x13 (.val (.int r200.1)) hx0 hx1 (Or.inr ⟨_, rfl, rfl⟩) (Or.inr ⟨_, rfl, rfl⟩) hx8 (Or.inr ⟨_, rfl, rfl⟩) hx10 hx12 hx13 (Or.inr ⟨_, rfl, rfl⟩) _ (by simpa only [if_neg h4] using hf)
    · replace hf := (if_neg h3).symm.trans hf
      refine go_icN (pc := 209) d27_209 (XT.ii_eq_f h3) ?_
      refine go_iconst (pc := 212) d27_212 ci_0 ?_
      cases hf
      exact go_zret (pc := 213) rfl d27_213 (show (0 : Int32) = nar .boolean (0 : Int32) by decide)
  · replace hf := (if_neg h1).symm.trans hf
    refine go_icN (pc := 189) d27_189 (XT.ii_eq_f h1) ?_
    refine go_iconst (pc := 192) d27_192 ci_0 ?_
    cases hf
    exact go_zret (pc := 193) rfl d27_193 (show (0 : Int32) = nar .boolean (0 : Int32) by decide)
set_option maxRecDepth 65536 in
set_option maxHeartbeats 4000000 in
theorem law_162_ok  : ∀ (v2 : Int32) (v3 : Int32) (v4 : Int32) (v5 : Int32) (v7 : Int32) (v9 : Int32) (v11 : Int32) (v12 : Int32) (p0 : Int32) (t0 : S) (x0 : Slot) (x1 : Slot) (x8 : Slot) (x10 : Slot) (hx0 : k1 x0) (hx1 : k1 x1) (hx8 : k1 x8) (hx10 : k1 x10) (o : Int32 × S), law_162 v2 v3 v4 v5 v7 v9 v11 v12 p0 t0 = some o → Go PP m27 162 [x0, x1, .val (.int v2), .val (.int v3), .val (.int v4), .val (.int v5), .val (.ref 1), .val (.int v7), x8, .val (.int v9), x10, .val (.int v11), .val (.int v12), .unset, .unset, .unset] [.int p0] (none, [(8, t0)]) (some (.int o.1), (none, [(8, o.2)])) := by
  intro v2 v3 v4 v5 v7 v9 v11 v12 p0 t0 x0 x1 x8 x10 hx0 hx1 hx8 hx10 o hf
  unfold law_162 at hf
  refine go_istore (pc := 162) (L' := [x0, x1, .val (.int v2), .val (.int v3), .val (.int v4), .val (.int v5), .val (.ref 1), .val (.int v7), x8, .val (.int v9), x10, .val (.int v11), .val (.int v12), .val (.int p0), .unset, .unset]) d27_162 rfl (go_iload (pc := 164) d27_164 rfl (go_iload (pc := 166) d27_166 rfl ?_))
  by_cases h1 : v12 = p0
  · replace hf := (if_pos h1).symm.trans hf
    refine go_icY (pc := 168) (pc' := 173) d27_168 (XT.ii_eq_t h1) j_168_5 ?_
    refine go_aload (pc := 173) d27_173 rfl (go_iconst (pc := 175) d27_175 ci_0 ?_)
    obtain ⟨r176, e2, hf⟩ := Option.bind_eq_some_iff.mp hf
    refine go_virt (pc := 176) (i := 0) (as := [.int (0 : Int32)]) (rest := []) (w' := (none, [(8, t0)])) lk_1_20 pd_15 rfl oid_0 rfl rfl rfl rfl rfl rfl ⟨rfl, rfl, rfl, rfl, rfl⟩ d27_176 (c_k_mapCount (0 : Int32) t0 _ e2) ?_
    refine go_iload (pc := 179) d27_179 rfl ?_
    by_cases h3 : v11 = 0
    · refine go_ifY (pc := 181) (pc' := 188) d27_181 (XT.i0_eq_t h3) j_181_7 ?_
      refine go_iconst (pc := 188) d27_188 ci_1 ?_
      exact law_189_ok v2 v3 v4 v5 v7 v9 v11 (1 : Int32) r176 t0 x0 x1 x8 x10 (.val (.int v12)) (.val (.int p0)) hx0 hx1 hx8 hx10 (Or.inr ⟨_, rfl, rfl⟩) (Or.inr ⟨_, rfl, rfl⟩) _ (by simpa only [if_pos h3] using hf)
    · refine go_ifN (pc := 181) d27_181 (XT.i0_eq_f h3) ?_
      refine go_iconst (pc := 184) d27_184 ci_2 (go_goto (pc := 185) (pc' := 189) d27_185 j_185_4 ?_)
      exact law_189_ok v2 v3 v4 v5 v7 v9 v11 (2 : Int32) r176 t0 x0 x1 x8 x10 (.val (.int v12)) (.val (.int p0)) hx0 hx1 hx8 hx10 (Or.inr ⟨_, rfl, rfl⟩) (Or.inr ⟨_, rfl, rfl⟩) _ (by simpa only [if_neg h3] using hf)
  · replace hf := (if_neg h1).symm.trans hf
    refine go_icN (pc := 168) d27_168 (XT.ii_eq_f h1) ?_
    refine go_iconst (pc := 171) d27_171 ci_0 ?_
    cases hf
    exact go_zret (pc := 172) rfl d27_172 (show (0 : Int32) = nar .boolean (0 : Int32) by decide)
set_option maxRecDepth 65536 in
set_option maxHeartbeats 4000000 in
theorem law_115_ok  : ∀ (v2 : Int32) (v3 : Int32) (v4 : Int32) (v5 : Int32) (v7 : Int32) (v9 : Int32) (v10 : Int32) (p0 : Int32) (t0 : S) (x0 : Slot) (x1 : Slot) (x8 : Slot) (hx0 : k1 x0) (hx1 : k1 x1) (hx8 : k1 x8) (o : Int32 × S), law_115 v2 v3 v4 v5 v7 v9 v10 p0 t0 = some o → Go PP m27 115 [x0, x1, .val (.int v2), .val (.int v3), .val (.int v4), .val (.int v5), .val (.ref 1), .val (.int v7), x8, .val (.int v9), .val (.int v10), .unset, .unset, .unset, .unset, .unset] [.int p0] (none, [(8, t0)]) (some (.int o.1), (none, [(8, o.2)])) := by
  intro v2 v3 v4 v5 v7 v9 v10 p0 t0 x0 x1 x8 hx0 hx1 hx8 o hf
  unfold law_115 at hf
  refine go_istore (pc := 115) (L' := [x0, x1, .val (.int v2), .val (.int v3), .val (.int v4), .val (.int v5), .val (.ref 1), .val (.int v7), x8, .val (.int v9), .val (.int v10), .val (.int p0), .unset, .unset, .unset, .unset]) d27_115 rfl (go_aload (pc := 117) d27_117 rfl (go_iconst (pc := 119) d27_119 ci_0 (go_iconst (pc := 120) d27_120 ci_0 (go_iload (pc := 121) d27_121 rfl ?_))))
  obtain ⟨r123, e1, hf⟩ := Option.bind_eq_some_iff.mp hf
  refine go_virt (pc := 123) (i := 0) (as := [.int (0 : Int32), .int (0 : Int32), .int v4]) (rest := []) (w' := (none, [(8, r123.2)])) lk_1_12 pd_13 rfl oid_0 rfl rfl rfl rfl rfl rfl ⟨rfl, rfl, rfl, rfl, rfl⟩ d27_123 (c_k_mapNew (0 : Int32) (0 : Int32) v4 t0 _ e1) ?_
  by_cases h2 : r123.1 = 0
  · replace hf := (if_pos h2).symm.trans hf
    refine go_ifY (pc := 126) (pc' := 131) d27_126 (XT.i0_eq_t h2) j_126_5 ?_
    refine go_aload (pc := 131) d27_131 rfl (go_iloadN (pc := 133) d27_133 rfl (go_iloadN (pc := 134) d27_134 rfl (go_iconst (pc := 135) d27_135 ci_0 (go_iconst (pc := 136) d27_136 ci_0 ?_))))
    obtain ⟨r137, e3, hf⟩ := Option.bind_eq_some_iff.mp hf
    refine go_virt (pc := 137) (i := 0) (as := [.int v2, .int v3, .int (0 : Int32), .int (0 : Int32)]) (rest := []) (w' := (none, [(8, r137.2)])) lk_1_16 pd_14 rfl oid_0 rfl rfl rfl rfl rfl rfl ⟨rfl, rfl, rfl, rfl, rfl⟩ d27_137 (c_k_share v2 v3 (0 : Int32) (0 : Int32) r123.2 _ e3) ?_
    refine go_istore (pc := 140) (L' := [x0, x1, .val (.int v2), .val (.int v3), .val (.int v4), .val (.int v5), .val (.ref 1), .val (.int v7), x8, .val (.int v9), .val (.int v10), .val (.int p0), .val (.int r137.1), .unset, .unset, .unset]) d27_140 rfl (go_iload (pc := 142) d27_142 rfl ?_)
    by_cases h4 : v9 = 0
    · refine go_ifN (pc := 144) d27_144 (XT.i0_ne_f h4) ?_
      refine go_iconst (pc := 147) d27_147 ci_m1 (go_goto (pc := 148) (pc' := 162) d27_148 j_148_14 ?_)
      exact law_162_ok v2 v3 v4 v5 v7 v9 p0 r137.1 (-1 : Int32) r137.2 x0 x1 x8 (.val (.int v10)) hx0 hx1 hx8 (Or.inr ⟨_, rfl, rfl⟩) _ (by simpa only [if_pos h4] using hf)
    · refine go_ifY (pc := 144) (pc' := 151) d27_144 (XT.i0_ne_t h4) j_144_7 ?_
      refine go_iload (pc := 151) d27_151 rfl ?_
      by_cases h5 : v10 = 0
      · refine go_ifY (pc := 153) (pc' := 161) d27_153 (XT.i0_eq_t h5) j_153_8 ?_
        refine go_iconst (pc := 161) d27_161 ci_0 ?_
        exact law_162_ok v2 v3 v4 v5 v7 v9 p0 r137.1 (0 : Int32) r137.2 x0 x1 x8 (.val (.int v10)) hx0 hx1 hx8 (Or.inr ⟨_, rfl, rfl⟩) _ (by simpa only [if_neg h4, if_pos h5] using hf)
      · refine go_ifN (pc := 153) d27_153 (XT.i0_eq_f h5) ?_
        refine go_bipush (pc := 156) d27_156 cb_m2 (go_goto (pc := 158) (pc' := 162) d27_158 j_158_4 ?_)
        exact law_162_ok v2 v3 v4 v5 v7 v9 p0 r137.1 (-2 : Int32) r137.2 x0 x1 x8 (.val (.int v10)) hx0 hx1 hx8 (Or.inr ⟨_, rfl, rfl⟩) _ (by simpa only [if_neg h4, if_neg h5] using hf)
  · replace hf := (if_neg h2).symm.trans hf
    refine go_ifN (pc := 126) d27_126 (XT.i0_eq_f h2) ?_
    refine go_iconst (pc := 129) d27_129 ci_0 ?_
    cases hf
    exact go_zret (pc := 130) rfl d27_130 (show (0 : Int32) = nar .boolean (0 : Int32) by decide)
set_option maxRecDepth 65536 in
set_option maxHeartbeats 4000000 in
theorem law_98_ok  : ∀ (v2 : Int32) (v3 : Int32) (v4 : Int32) (v5 : Int32) (v7 : Int32) (v9 : Int32) (p0 : Int32) (t0 : S) (x0 : Slot) (x1 : Slot) (x8 : Slot) (hx0 : k1 x0) (hx1 : k1 x1) (hx8 : k1 x8) (o : Int32 × S), law_98 v2 v3 v4 v5 v7 v9 p0 t0 = some o → Go PP m27 98 [x0, x1, .val (.int v2), .val (.int v3), .val (.int v4), .val (.int v5), .val (.ref 1), .val (.int v7), x8, .val (.int v9), .unset, .unset, .unset, .unset, .unset, .unset] [.int p0] (none, [(8, t0)]) (some (.int o.1), (none, [(8, o.2)])) := by
  intro v2 v3 v4 v5 v7 v9 p0 t0 x0 x1 x8 hx0 hx1 hx8 o hf
  unfold law_98 at hf
  refine go_istore (pc := 98) (L' := [x0, x1, .val (.int v2), .val (.int v3), .val (.int v4), .val (.int v5), .val (.ref 1), .val (.int v7), x8, .val (.int v9), .val (.int p0), .unset, .unset, .unset, .unset, .unset]) d27_98 rfl (go_iload (pc := 100) d27_100 rfl ?_)
  by_cases h1 : v9 = 0
  · refine go_ifY (pc := 102) (pc' := 114) d27_102 (XT.i0_eq_t h1) j_102_12 ?_
    refine go_iconst (pc := 114) d27_114 ci_0 ?_
    exact law_115_ok v2 v3 v4 v5 v7 v9 p0 (0 : Int32) t0 x0 x1 x8 hx0 hx1 hx8 _ (by simpa only [if_pos h1] using hf)
  · refine go_ifN (pc := 102) d27_102 (XT.i0_eq_f h1) ?_
    refine go_iload (pc := 105) d27_105 rfl ?_
    by_cases h2 : p0 = 0
    · refine go_ifN (pc := 107) d27_107 (XT.i0_ne_f h2) ?_
      refine go_iconst (pc := 110) d27_110 ci_1 (go_goto (pc := 111) (pc' := 115) d27_111 j_111_4 ?_)
      exact law_115_ok v2 v3 v4 v5 v7 v9 p0 (1 : Int32) t0 x0 x1 x8 hx0 hx1 hx8 _ (by simpa only [if_neg h1, if_pos h2] using hf)
    · refine go_ifY (pc := 107) (pc' := 114) d27_107 (XT.i0_ne_t h2) j_107_7 ?_
      refine go_iconst (pc := 114) d27_114 ci_0 ?_
      exact law_115_ok v2 v3 v4 v5 v7 v9 p0 (0 : Int32) t0 x0 x1 x8 hx0 hx1 hx8 _ (by simpa only [if_neg h1, if_neg h2] using hf)
set_option maxRecDepth 65536 in
set_option maxHeartbeats 4000000 in
theorem law_83_ok  : ∀ (v2 : Int32) (v3 : Int32) (v4 : Int32) (v5 : Int32) (v7 : Int32) (p0 : Int32) (t0 : S) (x0 : Slot) (x1 : Slot) (x8 : Slot) (hx0 : k1 x0) (hx1 : k1 x1) (hx8 : k1 x8) (o : Int32 × S), law_83 v2 v3 v4 v5 v7 p0 t0 = some o → Go PP m27 83 [x0, x1, .val (.int v2), .val (.int v3), .val (.int v4), .val (.int v5), .val (.ref 1), .val (.int v7), x8, .unset, .unset, .unset, .unset, .unset, .unset, .unset] [.int p0] (none, [(8, t0)]) (some (.int o.1), (none, [(8, o.2)])) := by
  intro v2 v3 v4 v5 v7 p0 t0 x0 x1 x8 hx0 hx1 hx8 o hf
  unfold law_83 at hf
  refine go_istore (pc := 83) (L' := [x0, x1, .val (.int v2), .val (.int v3), .val (.int v4), .val (.int v5), .val (.ref 1), .val (.int v7), x8, .val (.int p0), .unset, .unset, .unset, .unset, .unset, .unset]) d27_83 rfl (go_iloadN (pc := 85) d27_85 rfl ?_)
  by_cases h1 : v2 = 0
  · refine go_ifN (pc := 86) d27_86 (XT.i0_ne_f h1) ?_
    refine go_iloadN (pc := 89) d27_89 rfl ?_
    by_cases h2 : v3 = 0
    · refine go_ifN (pc := 90) d27_90 (XT.i0_ne_f h2) ?_
      refine go_iconst (pc := 93) d27_93 ci_1 (go_goto (pc := 94) (pc' := 98) d27_94 j_94_4 ?_)
      exact law_98_ok v2 v3 v4 v5 v7 p0 (1 : Int32) t0 x0 x1 x8 hx0 hx1 hx8 _ (by simpa only [if_pos h1, if_pos h2] using hf)
    · refine go_ifY (pc := 90) (pc' := 97) d27_90 (XT.i0_ne_t h2) j_90_7 ?_
      refine go_iconst (pc := 97) d27_97 ci_0 ?_
      exact law_98_ok v2 v3 v4 v5 v7 p0 (0 : Int32) t0 x0 x1 x8 hx0 hx1 hx8 _ (by simpa only [if_pos h1, if_neg h2] using hf)
  · refine go_ifY (pc := 86) (pc' := 97) d27_86 (XT.i0_ne_t h1) j_86_11 ?_
    refine go_iconst (pc := 97) d27_97 ci_0 ?_
    exact law_98_ok v2 v3 v4 v5 v7 p0 (0 : Int32) t0 x0 x1 x8 hx0 hx1 hx8 _ (by simpa only [if_neg h1] using hf)
set_option maxRecDepth 65536 in
set_option maxHeartbeats 4000000 in
theorem law_57_ok  : ∀ (v2 : Int32) (v3 : Int32) (v4 : Int32) (v5 : Int32) (v7 : Int32) (p0 : Int32) (t0 : S) (x0 : Slot) (x1 : Slot) (hx0 : k1 x0) (hx1 : k1 x1) (o : Int32 × S), law_57 v2 v3 v4 v5 v7 p0 t0 = some o → Go PP m27 57 [x0, x1, .val (.int v2), .val (.int v3), .val (.int v4), .val (.int v5), .val (.ref 1), .val (.int v7), .unset, .unset, .unset, .unset, .unset, .unset, .unset, .unset] [.int p0] (none, [(8, t0)]) (some (.int o.1), (none, [(8, o.2)])) := by
  intro v2 v3 v4 v5 v7 p0 t0 x0 x1 hx0 hx1 o hf
  unfold law_57 at hf
  refine go_istore (pc := 57) (L' := [x0, x1, .val (.int v2), .val (.int v3), .val (.int v4), .val (.int v5), .val (.ref 1), .val (.int v7), .val (.int p0), .unset, .unset, .unset, .unset, .unset, .unset, .unset]) d27_57 rfl (go_iloadN (pc := 59) d27_59 rfl ?_)
  by_cases h1 : v2 < 0
  · refine go_ifY (pc := 60) (pc' := 82) d27_60 (XT.i0_lt_t h1) j_60_22 ?_
    refine go_iconst (pc := 82) d27_82 ci_0 ?_
    exact law_83_ok v2 v3 v4 v5 v7 (0 : Int32) t0 x0 x1 (.val (.int p0)) hx0 hx1 (Or.inr ⟨_, rfl, rfl⟩) _ (by simpa only [if_pos h1] using hf)
  · refine go_ifN (pc := 60) d27_60 (XT.i0_lt_f h1) ?_
    refine go_iloadN (pc := 63) d27_63 rfl (go_iconst (pc := 64) d27_64 ci_3 ?_)
    by_cases h2 : (3 : Int32) < v2
    · refine go_icY (pc := 65) (pc' := 82) d27_65 (XT.ii_gt_t h2) j_65_17 ?_
      refine go_iconst (pc := 82) d27_82 ci_0 ?_
      exact law_83_ok v2 v3 v4 v5 v7 (0 : Int32) t0 x0 x1 (.val (.int p0)) hx0 hx1 (Or.inr ⟨_, rfl, rfl⟩) _ (by simpa only [if_neg h1, if_pos h2] using hf)
    · refine go_icN (pc := 65) d27_65 (XT.ii_gt_f h2) ?_
      refine go_iloadN (pc := 68) d27_68 rfl ?_
      by_cases h3 : v3 < 0
      · refine go_ifY (pc := 69) (pc' := 82) d27_69 (XT.i0_lt_t h3) j_69_13 ?_
        refine go_iconst (pc := 82) d27_82 ci_0 ?_
        exact law_83_ok v2 v3 v4 v5 v7 (0 : Int32) t0 x0 x1 (.val (.int p0)) hx0 hx1 (Or.inr ⟨_, rfl, rfl⟩) _ (by simpa only [if_neg h1, if_neg h2, if_pos h3] using hf)
      · refine go_ifN (pc := 69) d27_69 (XT.i0_lt_f h3) ?_
        refine go_iloadN (pc := 72) d27_72 rfl (go_iload (pc := 73) d27_73 rfl ?_)
        by_cases h4 : v3 < p0
        · refine go_icN (pc := 75) d27_75 (XT.ii_ge_f h4) ?_
          refine go_iconst (pc := 78) d27_78 ci_1 (go_goto (pc := 79) (pc' := 83) d27_79 j_79_4 ?_)
          exact law_83_ok v2 v3 v4 v5 v7 (1 : Int32) t0 x0 x1 (.val (.int p0)) hx0 hx1 (Or.inr ⟨_, rfl, rfl⟩) _ (by simpa only [if_neg h1, if_neg h2, if_neg h3, if_pos h4] using hf)
        · refine go_icY (pc := 75) (pc' := 82) d27_75 (XT.ii_ge_t h4) j_75_7 ?_
          refine go_iconst (pc := 82) d27_82 ci_0 ?_
          exact law_83_ok v2 v3 v4 v5 v7 (0 : Int32) t0 x0 x1 (.val (.int p0)) hx0 hx1 (Or.inr ⟨_, rfl, rfl⟩) _ (by simpa only [if_neg h1, if_neg h2, if_neg h3, if_neg h4] using hf)
set_option maxRecDepth 65536 in
set_option maxHeartbeats 4000000 in
theorem law_34_ok  : ∀ (v1 : Int32) (v2 : Int32) (v3 : Int32) (v4 : Int32) (v5 : Int32) (p0 : Int32) (t0 : S) (x0 : Slot) (hx0 : k1 x0) (o : Int32 × S), law_34 v1 v2 v3 v4 v5 p0 t0 = some o → Go PP m27 34 [x0, .val (.int v1), .val (.int v2), .val (.int v3), .val (.int v4), .val (.int v5), .val (.ref 1), .unset, .unset, .unset, .unset, .unset, .unset, .unset, .unset, .unset] [.int p0] (none, [(8, t0)]) (some (.int o.1), (none, [(8, o.2)])) := by
  intro v1 v2 v3 v4 v5 p0 t0 x0 hx0 o hf
  unfold law_34 at hf
  refine go_istore (pc := 34) (L' := [x0, .val (.int v1), .val (.int v2), .val (.int v3), .val (.int v4), .val (.int v5), .val (.ref 1), .val (.int p0), .unset, .unset, .unset, .unset, .unset, .unset, .unset, .unset]) d27_34 rfl (go_iloadN (pc := 36) d27_36 rfl (go_iconst (pc := 37) d27_37 ci_4 ?_))
  by_cases h1 : v1 < (4 : Int32)
  · refine go_icN (pc := 38) d27_38 (XT.ii_ge_f h1) ?_
    refine go_iconst (pc := 41) d27_41 ci_4 (go_goto (pc := 42) (pc' := 57) d27_42 j_42_15 ?_)
    exact law_57_ok v2 v3 v4 v5 p0 (4 : Int32) t0 x0 (.val (.int v1)) hx0 (Or.inr ⟨_, rfl, rfl⟩) _ (by simpa only [if_pos h1] using hf)
  · refine go_icY (pc := 38) (pc' := 45) d27_38 (XT.ii_ge_t h1) j_38_7 ?_
    refine go_iloadN (pc := 45) d27_45 rfl (go_bipush (pc := 46) d27_46 cb_16 ?_)
    by_cases h2 : (16 : Int32) < v1
    · refine go_icN (pc := 48) d27_48 (XT.ii_le_f h2) ?_
      refine go_bipush (pc := 51) d27_51 cb_16 (go_goto (pc := 53) (pc' := 57) d27_53 j_53_4 ?_)
      exact law_57_ok v2 v3 v4 v5 p0 (16 : Int32) t0 x0 (.val (.int v1)) hx0 (Or.inr ⟨_, rfl, rfl⟩) _ (by simpa only [if_neg h1, if_pos h2] using hf)
    · refine go_icY (pc := 48) (pc' := 56) d27_48 (XT.ii_le_t h2) j_48_8 ?_
      refine go_iloadN (pc := 56) d27_56 rfl ?_
      exact law_57_ok v2 v3 v4 v5 p0 v1 t0 x0 (.val (.int v1)) hx0 (Or.inr ⟨_, rfl, rfl⟩) _ (by simpa only [if_neg h1, if_neg h2] using hf)
set_option maxRecDepth 65536 in
set_option maxHeartbeats 4000000 in
theorem law_ok  : ∀ (v0 : Int32) (v1 : Int32) (v2 : Int32) (v3 : Int32) (v4 : Int32) (v5 : Int32)   (o : Int32 × S), law v0 v1 v2 v3 v4 v5 = some o → Go PP m27 0 [.val (.int v0), .val (.int v1), .val (.int v2), .val (.int v3), .val (.int v4), .val (.int v5), .unset, .unset, .unset, .unset, .unset, .unset, .unset, .unset, .unset, .unset] [] (none, []) (some (.int o.1), (none, [(8, o.2)])) := by
  intro v0 v1 v2 v3 v4 v5 o hf
  unfold law at hf
  refine go_new (pc := 0) (n := 0) (w' := (none, [(0, s0)])) (List.mem_of_getElem? (i := 0) rfl) rfl rfl rfl rfl rfl rfl rfl d27_0 oid_0 ?_
  refine go_dupR (pc := 3) d27_3 (go_iloadN (pc := 4) d27_4 rfl (go_iloadN (pc := 5) d27_5 rfl ?_))
  obtain ⟨r6, e2, hf⟩ := Option.bind_eq_some_iff.mp hf
  refine go_init (pc := 6) (i := 0) (as := [.int v0, .int v1]) (rest := [.ref 1]) (w' := (none, [(8, r6)])) lk_1_9 pd_3 rfl oid_0 rfl rfl rfl rfl rfl rfl rfl rfl rfl ⟨rfl, rfl, rfl⟩ ⟨rfl, rfl⟩ d27_6 (c_k_init v0 v1 _ e2) ?_
  refine go_astore (pc := 9) (L' := [.val (.int v0), .val (.int v1), .val (.int v2), .val (.int v3), .val (.int v4), .val (.int v5), .val (.ref 1), .unset, .unset, .unset, .unset, .unset, .unset, .unset, .unset, .unset]) d27_9 rfl (go_iloadN (pc := 11) d27_11 rfl (go_bipush (pc := 12) d27_12 cb_8 ?_))
  by_cases h3 : v0 < (8 : Int32)
  · refine go_icN (pc := 14) d27_14 (XT.ii_ge_f h3) ?_
    refine go_bipush (pc := 17) d27_17 cb_8 (go_goto (pc := 19) (pc' := 34) d27_19 j_19_15 ?_)
    exact law_34_ok v1 v2 v3 v4 v5 (8 : Int32) r6 (.val (.int v0)) (Or.inr ⟨_, rfl, rfl⟩) _ (by simpa only [if_pos h3] using hf)
  · refine go_icY (pc := 14) (pc' := 22) d27_14 (XT.ii_ge_t h3) j_14_8 ?_
    refine go_iloadN (pc := 22) d27_22 rfl (go_bipush (pc := 23) d27_23 cb_64 ?_)
    by_cases h4 : (64 : Int32) < v0
    · refine go_icN (pc := 25) d27_25 (XT.ii_le_f h4) ?_
      refine go_bipush (pc := 28) d27_28 cb_64 (go_goto (pc := 30) (pc' := 34) d27_30 j_30_4 ?_)
      exact law_34_ok v1 v2 v3 v4 v5 (64 : Int32) r6 (.val (.int v0)) (Or.inr ⟨_, rfl, rfl⟩) _ (by simpa only [if_neg h3, if_pos h4] using hf)
    · refine go_icY (pc := 25) (pc' := 33) d27_25 (XT.ii_le_t h4) j_25_8 ?_
      refine go_iloadN (pc := 33) d27_33 rfl ?_
      exact law_34_ok v1 v2 v3 v4 v5 v0 r6 (.val (.int v0)) (Or.inr ⟨_, rfl, rfl⟩) _ (by simpa only [if_neg h3, if_neg h4] using hf)
theorem own_clamp (v lo hi : Int32) {a b : Nat} (ha : lo = Int32.ofNat a) (hb : hi = Int32.ofNat b) (hab : a ≤ b) (hb2 : b ≤ 1000) : ∃ N : Nat, a ≤ N ∧ N ≤ b ∧ k_clampInt v lo hi = Int32.ofNat N ∧ (if v < lo then lo else if hi < v then hi else v) = Int32.ofNat N := by
  unfold k_clampInt
  subst ha hb
  by_cases h : v < Int32.ofNat a
  · exact ⟨a, by omega, by omega, by rw [if_pos h], by rw [if_pos h]⟩
  · by_cases h2 : Int32.ofNat b < v
    · exact ⟨b, by omega, by omega, by rw [if_neg h, if_pos h2], by rw [if_neg h, if_pos h2]⟩
    · have h0 : ¬ v < 0 := by
        intro q
        rw [Int32.lt_iff_toInt_lt, ofNat_toInt (by omega)] at h
        rw [Int32.lt_iff_toInt_lt] at q
        have : (0 : Int32).toInt = 0 := rfl
        omega
      obtain ⟨e, hl⟩ := eq_ofNat h0
      refine ⟨v.toNatClampNeg, ?_, ?_, ?_, ?_⟩
      · rw [e, ofNat_lt hl (by omega)] at h; omega
      · rw [e, ofNat_lt (by omega) hl] at h2; omega
      · rw [if_neg h, if_neg h2]; exact e
      · rw [if_neg h, if_neg h2]; exact e
theorem own_reset {N P : Nat} (s : S) (hN : gI s 0 = Int32.ofNat N) (hP : gI s 1 = Int32.ofNat P) (l : ∀ f, f < 7 → (gA s f).length = 64) (l7 : (gB s 7).length = 7) : ∃ t, k_resetAll s = some t ∧ gI t 0 = Int32.ofNat N ∧ gI t 1 = Int32.ofNat P ∧ gL t 2 = k_lowMask (Int32.ofNat N) ∧ gL t 3 = 0 ∧ gL t 4 = 0 ∧ gL t 5 = 0 ∧ gI t 6 = 1 ∧ gA t 0 = rep 64 0 ∧ gA t 1 = rep 64 0 ∧ gA t 2 = rep 64 0 ∧ gA t 3 = rep 64 (-1) ∧ gA t 4 = rep 64 (-1) ∧ gA t 5 = rep 64 (-1) ∧ gA t 6 = rep 64 (-1) ∧ (gB t 7).length = 7 := by
  have nb : nar .byte 0 = 0 := by decide
  obtain ⟨u, e, F, lu, a0, a1, a2, a3, a4, a5, a6⟩ := run_for k_resetAll_2 k_resetAll_63 64 (fun k u => Fx [] [] [0, 1, 2, 3, 4, 5, 6] [] s u ∧ (∀ f, f < 7 → (gA u f).length = 64) ∧ Upto (gA u 0) k 0 ∧ Upto (gA u 1) k 0 ∧ Upto (gA u 2) k 0 ∧ Upto (gA u 3) k (-1) ∧ Upto (gA u 4) k (-1) ∧ Upto (gA u 5) k (-1) ∧ Upto (gA u 6) k (-1)) (by
    intro n k u hk ⟨F, lu, a0, a1, a2, a3, a4, a5, a6⟩
    have h0 := lu 0 (by omega)
    have h1 := lu 1 (by omega)
    have h2 := lu 2 (by omega)
    have h3 := lu 3 (by omega)
    have h4 := lu 4 (by omega)
    have h5 := lu 5 (by omega)
    have h6 := lu 6 (by omega)
    refine ⟨(sA (sA (sA (sA (sA (sA (sA u 0 ((gA u 0).set k 0)) 1 ((gA u 1).set k 0)) 2 ((gA u 2).set k 0)) 3 ((gA u 3).set k (-1))) 4 ((gA u 4).set k (-1))) 5 ((gA u 5).set k (-1))) 6 ((gA u 6).set k (-1))), ?_, ?_⟩
    · rw [k_resetAll_2, if_pos ((lt_lit (by omega)).mpr hk), nb, st_ofNat _ _ (by omega) (by omega), Option.bind_some, st_ofNat _ _ (by omega) (by omega), Option.bind_some, st_ofNat _ _ (by omega) (by omega), Option.bind_some, st_ofNat _ _ (by omega) (by omega), Option.bind_some, st_ofNat _ _ (by omega) (by omega), Option.bind_some, st_ofNat _ _ (by omega) (by omega), Option.bind_some, st_ofNat _ _ (by omega) (by omega), Option.bind_some, ofNat_succ]
    · refine ⟨((((((F.sA (by simp)).sA (by simp)).sA (by simp)).sA (by simp)).sA (by simp)).sA (by simp)).sA (by simp), fun f hf => ?_, ?_, ?_, ?_, ?_, ?_, ?_, ?_⟩
      · have := lu f hf
        simp only [gA_sA]
        split
        · simp [h6]
        split
        · simp [h5]
        split
        · simp [h4]
        split
        · simp [h3]
        split
        · simp [h2]
        split
        · simp [h1]
        split
        · simp [h0]
        · exact this
      · simpa [gA_sA] using a0.set (by omega)
      · simpa [gA_sA] using a1.set (by omega)
      · simpa [gA_sA] using a2.set (by omega)
      · simpa [gA_sA] using a3.set (by omega)
      · simpa [gA_sA] using a4.set (by omega)
      · simpa [gA_sA] using a5.set (by omega)
      · simpa [gA_sA] using a6.set (by omega)) (by
    intro n u _
    rw [k_resetAll_2, if_neg (fun hh => absurd (show 64 < 64 from (lt_lit (by omega)).mp hh) (by omega))]) BIG s (by unfold BIG; omega) ⟨Fx.refl .., l, Upto.zero _ _, Upto.zero _ _, Upto.zero _ _, Upto.zero _ _, Upto.zero _ _, Upto.zero _ _, Upto.zero _ _⟩
  have i0 : gI u 0 = Int32.ofNat N := by rw [F.1 0 (by simp), hN]
  refine ⟨_, e, ?_, ?_, ?_, ?_, ?_, ?_, ?_, ?_, ?_, ?_, ?_, ?_, ?_, ?_, ?_⟩
  all_goals simp [gI_sI, gI_sL, gL_sI, gL_sL, gA_sI, gA_sL, gB_sI, gB_sL, i0]
  · rw [F.1 1 (by simp), hP]
  · exact a0.all (lu 0 (by omega))
  · exact a1.all (lu 1 (by omega))
  · exact a2.all (lu 2 (by omega))
  · exact a3.all (lu 3 (by omega))
  · exact a4.all (lu 4 (by omega))
  · exact a5.all (lu 5 (by omega))
  · exact a6.all (lu 6 (by omega))
  · rw [F.2.2.2 7 (by simp), l7]
def Ln (t : S) : Prop := ∀ f, f < 7 → (gA t f).length = 64
theorem w4 : ∀ N : Fin 65, 8 ≤ N.val → k_lowMask (Int32.ofNat N.val) ≠ 0 ∧ k_lowestBit (k_lowMask (Int32.ofNat N.val)) = 0 ∧ k_bitCount (k_lowMask (Int32.ofNat N.val) &&& (1 ^^^ (-1))) = Int32.ofNat (N.val - 1) ∧ k_bitCount ((k_lowMask (Int32.ofNat N.val) &&& (1 ^^^ (-1))) &&& (1 ^^^ (-1)) ||| 1) = Int32.ofNat N.val := by decide +kernel
/-- frame 0 goes into the state x -/
theorem enter0 {t : S} {N : Nat} (l : Ln t) (h8 : 8 ≤ N) (h64 : N ≤ 64) (g0 : gI t 0 = Int32.ofNat N) {x : Int32} (hx : x = 0 ∨ x = 1) : ∃ t', k_enterState 0 x t = some t' ∧ Ln t' ∧ gI t' 0 = gI t 0 ∧ gI t' 1 = gI t 1 ∧ (∀ f, f ≠ 0 → gA t' f = gA t f) ∧ gA t' 0 = (gA t 0).set 0 x ∧ gL t' 2 = if x = 0 then (gL t 2 &&& (1 ^^^ (-1))) ||| 1 else gL t 2 &&& (1 ^^^ (-1)) := by
  have fr : k_frameInRange 0 t = 1 := by
    unfold k_frameInRange
    rw [if_neg (by decide), g0, if_pos (by rw [show (0 : Int32) = Int32.ofNat 0 from rfl, ofNat_lt (by omega) (by omega)]; omega)]
  have b0 : k_bitOf 0 = 1 := by decide
  have st0 : ∀ (A : List Int32) y, A.length = 64 → Jvm.AM.st A 0 y = some (A.set 0 y) := fun A y hA => st_ofNat (k := 0) A y (by omega) (by omega)
  rcases hx with rfl | rfl
  · refine ⟨sI (sA (sL (sL (sL (sL (sL t 2 ((gL t 2) &&& (1 ^^^ (-1 : Int64)))) 3 ((gL t 3) &&& (1 ^^^ (-1 : Int64)))) 4 ((gL t 4) &&& (1 ^^^ (-1 : Int64)))) 5 ((gL t 5) &&& (1 ^^^ (-1 : Int64)))) 2 (((gL t 2) &&& (1 ^^^ (-1 : Int64))) ||| 1)) 0 ((gA t 0).set 0 0)) 6 1, ?_, ?_, by simp [gI_sI, gI_sA, gI_sL], by simp [gI_sI, gI_sA, gI_sL], ?_, ?_, ?_⟩
    · unfold k_enterState
      rw [fr, if_neg (by decide), if_pos rfl, b0]
      unfold k_enterState_134
      simp only [gA_sL]
      rw [show nar .byte (0 : Int32).toInt8.toInt32 = 0 by decide, st0 _ _ (l 0 (by omega)), Option.bind_some]
    · intro f hf
      simp only [gA_sI, gA_sA, gA_sL]
      split
      · rw [List.length_set]; exact l 0 (by omega)
      · exact l f hf
    · intro f hf
      simp only [gA_sI, gA_sA, gA_sL]
      rw [if_neg hf]
    · simp only [gA_sI, gA_sA, gA_sL]; rfl
    · simp only [gL_sI, gL_sA, gL_sL]; rfl
  · refine ⟨sI (sA (sL (sL (sL (sL (sL t 2 ((gL t 2) &&& (1 ^^^ (-1 : Int64)))) 3 ((gL t 3) &&& (1 ^^^ (-1 : Int64)))) 4 ((gL t 4) &&& (1 ^^^ (-1 : Int64)))) 5 ((gL t 5) &&& (1 ^^^ (-1 : Int64)))) 3 (((gL t 3) &&& (1 ^^^ (-1 : Int64))) ||| 1)) 0 ((gA t 0).set 0 1)) 6 1, ?_, ?_, by simp [gI_sI, gI_sA, gI_sL], by simp [gI_sI, gI_sA, gI_sL], ?_, ?_, ?_⟩
    · unfold k_enterState
      rw [fr, if_neg (by decide), if_neg (by decide), if_pos rfl, b0]
      unfold k_enterState_134
      simp only [gA_sL]
      rw [show nar .byte (1 : Int32).toInt8.toInt32 = 1 by decide, st0 _ _ (l 0 (by omega)), Option.bind_some]
    · intro f hf
      simp only [gA_sI, gA_sA, gA_sL]
      split
      · rw [List.length_set]; exact l 0 (by omega)
      · exact l f hf
    · intro f hf
      simp only [gA_sI, gA_sA, gA_sL]
      rw [if_neg hf]
    · simp only [gA_sI, gA_sA, gA_sL]; rfl
    · simp only [gL_sI, gL_sA, gL_sL]; rfl
theorem st0 {A : List Int32} {y : Int32} (hA : A.length = 64) : Jvm.AM.st A 0 y = some (A.set 0 y) := st_ofNat (k := 0) A y (by omega) (by omega)
theorem ix0 (A : List Int32) : ix A 0 = A[0]? := ix_ofNat (k := 0) A (by omega)
theorem in0 {t : S} {N : Nat} (h8 : 8 ≤ N) (h64 : N ≤ 64) (g0 : gI t 0 = Int32.ofNat N) : k_frameInRange 0 t = 1 := by
  unfold k_frameInRange
  rw [if_neg (by decide), g0, if_pos (by rw [show (0 : Int32) = Int32.ofNat 0 from rfl, ofNat_lt (by omega) (by omega)]; omega)]
def J1 (t : S) (N P : Nat) (v : Int32) : Prop := Ln t ∧ gI t 0 = Int32.ofNat N ∧ gI t 1 = Int32.ofNat P ∧ gL t 2 = k_lowMask (Int32.ofNat N) &&& (1 ^^^ (-1)) ∧ (gA t 0)[0]? = some (1 : Int32) ∧ (gA t 1)[0]? = some v ∧ (gA t 2)[0]? = some (1 : Int32) ∧ (gA t 3)[0]? = some (0 : Int32) ∧ (∀ x, 0 < x → x < 64 → (gA t 3)[x]? = some (-1 : Int32)) ∧ (gA t 4)[0]? = some (0 : Int32) ∧ (gA t 5)[0]? = some (-1 : Int32) ∧ (gA t 6)[0]? = some (-1 : Int32)
def J2 (t : S) (N P : Nat) (v : Int32) (x : Nat) : Prop := Ln t ∧ gI t 0 = Int32.ofNat N ∧ gI t 1 = Int32.ofNat P ∧ gL t 2 = k_lowMask (Int32.ofNat N) &&& (1 ^^^ (-1)) ∧ (gA t 0)[0]? = some (1 : Int32) ∧ (gA t 1)[0]? = some v ∧ (gA t 2)[0]? = some (2 : Int32) ∧ (gA t 3)[0]? = some (0 : Int32) ∧ (gA t 3)[x]? = some (0 : Int32) ∧ (gA t 4)[0]? = some (Int32.ofNat x) ∧ (gA t 5)[0]? = some (-1 : Int32) ∧ (gA t 6)[0]? = some (Int32.ofNat x)
theorem page0 {t : S} {P : Nat} (p4 : 4 ≤ P) (p16 : P ≤ 16) (g1 : gI t 1 = Int32.ofNat P) : k_pageInRange 0 0 t = 1 := by
  unfold k_pageInRange
  rw [if_neg (by decide), if_pos (by decide), if_neg (by decide), g1, if_pos (by rw [show (0 : Int32) = Int32.ofNat 0 from rfl, ofNat_lt (by omega) (by omega)]; omega)]
theorem map0 {t : S} {N P : Nat} (l : Ln t) (h8 : 8 ≤ N) (h64 : N ≤ 64) (p4 : 4 ≤ P) (p16 : P ≤ 16) (g0 : gI t 0 = Int32.ofNat N) (g1 : gI t 1 = Int32.ofNat P) (g2 : gL t 2 = k_lowMask (Int32.ofNat N)) (a3 : gA t 3 = rep 64 (-1)) (a4 : gA t 4 = rep 64 (-1)) (v : Int32) : ∃ t', k_mapNew 0 0 v t = some (0, t') ∧ J1 t' N P v := by
  obtain ⟨b1, b2, b3, b4⟩ := w4 ⟨N, by omega⟩ h8
  dsimp only at b1 b2 b3 b4
  obtain ⟨u, eu, lu, u0, u1, uA, uA0, uL⟩ := enter0 l h8 h64 g0 (x := 1) (Or.inr rfl)
  rw [if_neg (by decide), g2] at uL
  have r3 : (gA u 3) = rep 64 (-1) := by rw [uA 3 (by decide), a3]
  have r4 : (gA u 4) = rep 64 (-1) := by rw [uA 4 (by decide), a4]
  have gz : ∀ (x : Int32) i, i < 64 → (rep 64 x)[i]? = some x := fun x i hi => by unfold rep; rw [List.getElem?_replicate, if_pos hi]
  have h4 : (gA u 4)[0]? = some (-1 : Int32) := by rw [r4, gz _ 0 (by omega)]
  have l1 := lu 1 (by omega)
  have l2 := lu 2 (by omega)
  have l3 := lu 3 (by omega)
  have l4 := lu 4 (by omega)
  have l5 := lu 5 (by omega)
  have l6 := lu 6 (by omega)
  refine ⟨sA (sA (sA (sA (sA (sA (sA u 1 ((gA u 1).set 0 v)) 2 ((gA u 2).set 0 0)) 6 ((gA u 6).set 0 (-1))) 5 ((gA u 5).set 0 (-1))) 4 ((gA u 4).set 0 0)) 3 ((gA u 3).set 0 0)) 2 (((gA u 2).set 0 0).set 0 1), ?_, ?_⟩
  · unfold k_mapNew k_checkTarget
    rw [page0 p4 p16 g1, if_neg (by decide), show k_slotOf 0 0 = 0 by decide, ix0, a3, gz _ 0 (by omega), Option.bind_some, if_pos (by decide), Option.bind_some, if_pos rfl, g2, if_neg b1, b2, in0 h8 h64 g0, if_neg (by decide), eu, Option.bind_some, st0 l1, Option.bind_some, st0 l2, Option.bind_some]
    unfold k_attachPage
    rw [if_neg (by decide), if_pos (by decide), in0 h8 h64 (by rw [gI_sA, gI_sA, u0, g0]), if_neg (by decide)]
    unfold k_rmapLink
    simp only [gA_sA]
    simp only [show ¬ (4 : Nat) = 2 by decide, show ¬ (4 : Nat) = 1 by decide, show ¬ (6 : Nat) = 2 by decide, show ¬ (6 : Nat) = 1 by decide, show ¬ (5 : Nat) = 2 by decide, show ¬ (5 : Nat) = 1 by decide, if_false]
    rw [ix0, h4, Option.bind_some, st0 l6, Option.bind_some, st0 l5, Option.bind_some, if_pos (by decide)]
    unfold k_rmapLink_38
    simp only [gA_sA]
    simp only [show ¬ (4 : Nat) = 2 by decide, show ¬ (4 : Nat) = 1 by decide, show ¬ (4 : Nat) = 5 by decide, show ¬ (4 : Nat) = 6 by decide, show ¬ (3 : Nat) = 2 by decide, show ¬ (3 : Nat) = 1 by decide, show ¬ (3 : Nat) = 5 by decide, show ¬ (3 : Nat) = 6 by decide, if_false]
    rw [st0 l4, Option.bind_some, st0 l3, Option.bind_some, Option.bind_some]
    simp only [gA_sA]
    simp only [show ¬ (2 : Nat) = 3 by decide, show ¬ (2 : Nat) = 4 by decide, show ¬ (2 : Nat) = 5 by decide, show ¬ (2 : Nat) = 6 by decide, if_false, if_true]
    rw [ix0, List.getElem?_set_self (by omega), Option.bind_some, st0 (by rw [List.length_set]; exact l2), Option.bind_some, Option.bind_some]
    rfl
  · refine ⟨?_, ?_, ?_, ?_, ?_, ?_, ?_, ?_, ?_, ?_, ?_, ?_⟩
    · intro f hf
      simp only [gA_sA]
      repeat' split
      all_goals first | (simp only [List.length_set]; first | exact l1 | exact l2 | exact l3 | exact l4 | exact l5 | exact l6) | exact lu f hf
    · simp only [gI_sA]; rw [u0, g0]
    · simp only [gI_sA]; rw [u1, g1]
    · simp only [gL_sA]; exact uL
    · simp only [gA_sA]
      rw [if_neg (by decide), if_neg (by decide), if_neg (by decide), if_neg (by decide), if_neg (by decide), if_neg (by decide), if_neg (by decide), uA0, List.getElem?_set_self (by rw [l 0 (by omega)]; omega)]
    · simp only [gA_sA]; simp [l1]
    · simp only [gA_sA]; simp [l2]
    · simp only [gA_sA]; simp [l3]
    · intro x h1 h2
      simp only [gA_sA]
      simp only [show ¬ (3 : Nat) = 2 by decide, if_false, if_true]
      rw [List.getElem?_set_ne (by omega), r3, gz _ x h2]
    · simp only [gA_sA]; simp [l4]
    · simp only [gA_sA]; simp [l5]
    · simp only [gA_sA]; simp [l6]
theorem link0 {t : S} {N P : Nat} {v : Int32} {x : Nat} (h8 : 8 ≤ N) (h64 : N ≤ 64) (j : J1 t N P v) (x0 : 0 < x) (hx : x < 64) : ∃ t', k_attachPage (Int32.ofNat x) 0 t = some t' ∧ J2 t' N P v x := by
  obtain ⟨l, g0, g1, g2, a0, a1, a2, a3, a3', a4, a5, a6⟩ := j
  have l2 := l 2 (by omega)
  have l3 := l 3 (by omega)
  have l4 := l 4 (by omega)
  have l5 := l 5 (by omega)
  have l6 := l 6 (by omega)
  have stx : ∀ (A : List Int32) y, A.length = 64 → Jvm.AM.st A (Int32.ofNat x) y = some (A.set x y) := fun A y hA => st_ofNat A y (by omega) (by omega)
  refine ⟨sA (sA (sA (sA (sA (sA t 6 ((gA t 6).set x (-1))) 5 ((gA t 5).set x 0)) 6 (((gA t 6).set x (-1)).set 0 (Int32.ofNat x))) 4 ((gA t 4).set 0 (Int32.ofNat x))) 3 ((gA t 3).set x 0)) 2 ((gA t 2).set 0 2), ?_, ?_⟩
  · unfold k_attachPage
    rw [if_neg (ofNat_nonneg (by omega)), if_pos ((lt_lit (m := 64) (by omega) (by decide)).mpr hx), in0 h8 h64 g0, if_neg (by decide)]
    unfold k_rmapLink
    rw [ix0, a4, Option.bind_some, stx _ _ l6, Option.bind_some, stx _ _ l5, Option.bind_some, if_neg (by decide), if_pos (by decide), st0 (by rw [List.length_set]; exact l6), Option.bind_some]
    unfold k_rmapLink_38
    simp only [gA_sA]
    simp only [show ¬ (4 : Nat) = 5 by decide, show ¬ (4 : Nat) = 6 by decide, show ¬ (3 : Nat) = 5 by decide, show ¬ (3 : Nat) = 6 by decide, if_false]
    rw [st0 l4, Option.bind_some, stx _ _ l3, Option.bind_some, Option.bind_some]
    simp only [gA_sA]
    simp only [show ¬ (2 : Nat) = 3 by decide, show ¬ (2 : Nat) = 4 by decide, show ¬ (2 : Nat) = 5 by decide, show ¬ (2 : Nat) = 6 by decide, if_false, if_true]
    rw [ix0, a2, Option.bind_some, st0 l2, Option.bind_some]
    rfl
  · refine ⟨?_, ?_, ?_, ?_, ?_, ?_, ?_, ?_, ?_, ?_, ?_, ?_⟩
    · intro f hf
      simp only [gA_sA]
      repeat' split
      all_goals first | (simp only [List.length_set]; first | exact l2 | exact l3 | exact l4 | exact l5 | exact l6) | exact l f hf
    · simp only [gI_sA]; exact g0
    · simp only [gI_sA]; exact g1
    · simp only [gL_sA]; exact g2
    · simp only [gA_sA]; exact a0
    · simp only [gA_sA]; exact a1
    · simp only [gA_sA]; simp [l2]
    · simp only [gA_sA]
      simp only [show ¬ (3 : Nat) = 2 by decide, if_false, if_true]
      rw [List.getElem?_set_ne (by omega)]; exact a3
    · simp only [gA_sA]
      simp only [show ¬ (3 : Nat) = 2 by decide, if_false, if_true]
      rw [List.getElem?_set_self (by omega)]
    · simp only [gA_sA]; simp [l4]
    · simp only [gA_sA]
      simp only [show ¬ (5 : Nat) = 2 by decide, show ¬ (5 : Nat) = 3 by decide, show ¬ (5 : Nat) = 4 by decide, show ¬ (5 : Nat) = 6 by decide, if_false, if_true]
      rw [List.getElem?_set_ne (by omega)]; exact a5
    · simp only [gA_sA]; simp [l6]
theorem un1 {t : S} {N P : Nat} {v : Int32} (h8 : 8 ≤ N) (h64 : N ≤ 64) (p4 : 4 ≤ P) (p16 : P ≤ 16) (j : J1 t N P v) : ∃ t', k_unmap 0 0 t = some (0, t') ∧ gI t' 0 = Int32.ofNat N ∧ gI t' 1 = Int32.ofNat P ∧ (gA t' 0)[0]? = some (0 : Int32) ∧ (gA t' 3)[0]? = some (-1 : Int32) ∧ k_freeCount t' = Int32.ofNat N := by
  obtain ⟨l, g0, g1, g2, a0, a1, a2, a3, a3', a4, a5, a6⟩ := j
  have l2 := l 2 (by omega)
  have l3 := l 3 (by omega)
  have l4 := l 4 (by omega)
  have l5 := l 5 (by omega)
  have l6 := l 6 (by omega)
  have l1 := l 1 (by omega)
  obtain ⟨b1, b2, b3, b4⟩ := w4 ⟨N, by omega⟩ h8
  dsimp only at b1 b2 b3 b4
  obtain ⟨u, hu⟩ : ∃ u, u = sA (sA (sA (sA (sA (sA (sA (sA t 4 ((gA t 4).set 0 (-1))) 6 ((gA t 6).set 0 (-1))) 5 ((gA t 5).set 0 (-1))) 3 ((gA t 3).set 0 (-1))) 2 ((gA t 2).set 0 0)) 1 ((gA t 1).set 0 0)) 2 (((gA t 2).set 0 0).set 0 0)) 4 (((gA t 4).set 0 (-1)).set 0 (-1)) := ⟨_, rfl⟩
  have lu : Ln u := by
    intro f hf
    rw [hu]
    simp only [gA_sA]
    repeat' split
    all_goals first | (simp only [List.length_set]; first | exact l1 | exact l2 | exact l3 | exact l4 | exact l5 | exact l6) | exact l f hf
  have u0 : gI u 0 = Int32.ofNat N := by rw [hu]; simp only [gI_sA]; exact g0
  have u1 : gI u 1 = Int32.ofNat P := by rw [hu]; simp only [gI_sA]; exact g1
  obtain ⟨w, ew, lw, w0, w1, wA, wA0, wL⟩ := enter0 lu h8 h64 u0 (x := 0) (Or.inl rfl)
  refine ⟨w, ?_, by rw [w0, u0], by rw [w1, u1], ?_, ?_, ?_⟩
  · unfold k_unmap
    rw [page0 p4 p16 g1, if_neg (by decide), show k_slotOf 0 0 = 0 by decide, ix0, a3, Option.bind_some, if_neg (by decide)]
    unfold k_detachPage k_rmapUnlink
    rw [if_neg (by decide), if_pos (by decide), ix0, a3, Option.bind_some, if_neg (by decide), if_pos (by decide), ix0, a6, Option.bind_some, ix0, a5, Option.bind_some, if_pos (by decide)]
    unfold k_rmapUnlink_67
    rw [st0 l4, Option.bind_some]
    unfold k_rmapUnlink_75
    rw [if_pos (by decide)]
    unfold k_rmapUnlink_95
    simp only [gA_sA]
    simp only [show ¬ (3 : Nat) = 4 by decide, show ¬ (5 : Nat) = 4 by decide, show ¬ (6 : Nat) = 4 by decide, if_false]
    rw [st0 l6, Option.bind_some, st0 l5, Option.bind_some, st0 l3, Option.bind_some, Option.bind_some]
    dsimp only
    rw [in0 h8 h64 (by simp only [gI_sA]; exact g0), if_neg (by decide)]
    simp only [gA_sA]
    simp only [show ¬ (2 : Nat) = 3 by decide, show ¬ (2 : Nat) = 4 by decide, show ¬ (2 : Nat) = 5 by decide, show ¬ (2 : Nat) = 6 by decide, if_false, if_true]
    rw [ix0, a2, Option.bind_some, st0 l2, Option.bind_some, Option.bind_some]
    dsimp only
    rw [in0 h8 h64 (by simp only [gI_sA]; exact g0), if_neg (by decide)]
    simp only [gA_sA, if_true]
    rw [ix0, List.getElem?_set_self (by omega), Option.bind_some, if_neg (by decide)]
    unfold k_freeFrame
    rw [in0 h8 h64 (by simp only [gI_sA]; exact g0), if_neg (by decide)]
    simp only [gA_sA]
    simp only [show ¬ (1 : Nat) = 2 by decide, show ¬ (1 : Nat) = 3 by decide, show ¬ (1 : Nat) = 4 by decide, show ¬ (1 : Nat) = 5 by decide, show ¬ (1 : Nat) = 6 by decide, show ¬ (4 : Nat) = 2 by decide, show ¬ (4 : Nat) = 3 by decide, show ¬ (4 : Nat) = 5 by decide, show ¬ (4 : Nat) = 6 by decide, if_false, if_true]
    rw [st0 l1, Option.bind_some, st0 (by rw [List.length_set]; exact l2), Option.bind_some, st0 (by rw [List.length_set]; exact l4), Option.bind_some]
    rw [show ((1 : Int32) - 1) = 0 by decide, ← hu, ew, Option.bind_some, Option.bind_some]
  · rw [wA0, List.getElem?_set_self (by rw [lu 0 (by omega)]; omega)]
  · rw [wA 3 (by decide), hu]
    simp only [gA_sA]; simp [l3]
  · unfold k_freeCount
    rw [wL, if_pos rfl, hu]
    simp only [gL_sA]
    rw [g2, b4]
theorem un2 {t : S} {N P : Nat} {v : Int32} {x : Nat} (h8 : 8 ≤ N) (h64 : N ≤ 64) (p4 : 4 ≤ P) (p16 : P ≤ 16) (x0 : 0 < x) (hx : x < 64) (j : J2 t N P v x) : ∃ t', k_unmap 0 0 t = some (0, t') ∧ gI t' 0 = Int32.ofNat N ∧ gI t' 1 = Int32.ofNat P ∧ (gA t' 0)[0]? = some (1 : Int32) ∧ (gA t' 1)[0]? = some v ∧ (gA t' 3)[x]? = some (0 : Int32) ∧ k_freeCount t' = Int32.ofNat (N - 1) := by
  obtain ⟨l, g0, g1, g2, a0, a1, a2, a3, a3', a4, a5, a6⟩ := j
  have l2 := l 2 (by omega)
  have l3 := l 3 (by omega)
  have l5 := l 5 (by omega)
  have l6 := l 6 (by omega)
  obtain ⟨b1, b2, b3, b4⟩ := w4 ⟨N, by omega⟩ h8
  dsimp only at b1 b2 b3 b4
  have stx : ∀ (A : List Int32) y, A.length = 64 → Jvm.AM.st A (Int32.ofNat x) y = some (A.set x y) := fun A y hA => st_ofNat A y (by omega) (by omega)
  refine ⟨sA (sA (sA (sA (sA t 5 ((gA t 5).set x (-1))) 6 ((gA t 6).set 0 (-1))) 5 (((gA t 5).set x (-1)).set 0 (-1))) 3 ((gA t 3).set 0 (-1))) 2 ((gA t 2).set 0 1), ?_, by simp only [gI_sA]; exact g0, by simp only [gI_sA]; exact g1, by simp only [gA_sA]; exact a0, by simp only [gA_sA]; exact a1, ?_, ?_⟩
  · unfold k_unmap
    rw [page0 p4 p16 g1, if_neg (by decide), show k_slotOf 0 0 = 0 by decide, ix0, a3, Option.bind_some, if_neg (by decide)]
    unfold k_detachPage k_rmapUnlink
    rw [if_neg (by decide), if_pos (by decide), ix0, a3, Option.bind_some, if_neg (by decide), if_pos (by decide), ix0, a6, Option.bind_some, ix0, a5, Option.bind_some, if_neg (ofNat_nonneg (by omega)), if_pos ((lt_lit (m := 64) (by omega) (by decide)).mpr hx), stx _ _ l5, Option.bind_some]
    unfold k_rmapUnlink_75
    rw [if_pos (by decide)]
    unfold k_rmapUnlink_95
    simp only [gA_sA]
    simp only [show ¬ (3 : Nat) = 5 by decide, show ¬ (6 : Nat) = 5 by decide, if_false, if_true]
    rw [st0 l6, Option.bind_some, st0 (by rw [List.length_set]; exact l5), Option.bind_some, st0 l3, Option.bind_some, Option.bind_some]
    dsimp only
    rw [in0 h8 h64 (by simp only [gI_sA]; exact g0), if_neg (by decide)]
    simp only [gA_sA]
    simp only [show ¬ (2 : Nat) = 3 by decide, show ¬ (2 : Nat) = 5 by decide, show ¬ (2 : Nat) = 6 by decide, if_false, if_true]
    rw [ix0, a2, Option.bind_some, st0 l2, Option.bind_some, Option.bind_some]
    dsimp only
    rw [in0 h8 h64 (by simp only [gI_sA]; exact g0), if_neg (by decide)]
    simp only [gA_sA, if_true]
    rw [ix0, List.getElem?_set_self (by omega), Option.bind_some, if_pos (by decide)]
    rfl
  · simp only [gA_sA]
    simp only [show ¬ (3 : Nat) = 2 by decide, if_false, if_true]
    rw [List.getElem?_set_ne (by omega)]; exact a3'
  · unfold k_freeCount
    simp only [gL_sA]
    rw [g2, b3]
theorem law_true (v0 v1 v2 v3 v4 v5 : Int32) : ∃ t, law v0 v1 v2 v3 v4 v5 = some (1, t) := by
  obtain ⟨N, h8, h64, cN, dN⟩ := own_clamp v0 8 64 (a := 8) (b := 64) rfl rfl (by omega) (by omega)
  obtain ⟨P, p4, p16, cP, dP⟩ := own_clamp v1 4 16 (a := 4) (b := 16) rfl rfl (by omega) (by omega)
  unfold law k_init
  rw [cN, cP, dN]
  obtain ⟨t, et, i0, i1, l2, l3, l4, l5, i6, a0, a1, a2, a3, a4, a5, a6, lb⟩ := own_reset (N := N) (P := P) (sI (sI (sB (sA (sA (sA (sA (sA (sA (sA s0 0 (rep 64 0)) 1 (rep 64 0)) 2 (rep 64 0)) 3 (rep 64 0)) 4 (rep 64 0)) 5 (rep 64 0)) 6 (rep 64 0)) 7 (rep 7 0)) 0 (Int32.ofNat N)) 1 (Int32.ofNat P)) (by simp [gI_sI]) (by simp [gI_sI]) (by
    intro f hf
    simp only [gA_sI, gA_sB, gA_sA]
    repeat' split
    all_goals first | exact rep_length _ _ | (exfalso; omega)) (by simp [gB_sI, gB_sB, rep_length])
  rw [et, Option.bind_some, Option.bind_some]
  have lt : Ln t := by
    intro f hf
    match f, hf with
    | 0, _ => rw [a0]; exact rep_length ..
    | 1, _ => rw [a1]; exact rep_length ..
    | 2, _ => rw [a2]; exact rep_length ..
    | 3, _ => rw [a3]; exact rep_length ..
    | 4, _ => rw [a4]; exact rep_length ..
    | 5, _ => rw [a5]; exact rep_length ..
    | 6, _ => rw [a6]; exact rep_length ..
  obtain ⟨t1, e1, J⟩ := map0 lt h8 h64 p4 p16 i0 i1 l2 a3 a4 v4
  obtain ⟨jl, j0, j1, j2, b0, b1, b2, b3, b3', b4, b5, b6⟩ := id J
  unfold law_34 law_57 law_83 law_98 law_115
  rw [dP, e1, Option.bind_some, if_pos rfl]
  have P0 : ∀ s, gI s 1 = Int32.ofNat P → k_pageInRange 0 0 s = 1 := fun s hs => page0 p4 p16 hs
  have sl0 : k_slotOf 0 0 = 0 := by decide
  have mf : ∀ s, gI s 0 = Int32.ofNat N → gI s 1 = Int32.ofNat P → (gA s 3)[0]? = some (0 : Int32) → k_mappedFrame 0 0 s = some 0 := fun s q0 q1 q3 => by
    unfold k_mappedFrame
    rw [P0 s q1, if_neg (by decide), sl0, ix0, q3, Option.bind_some, in0 h8 h64 q0, if_neg (by decide)]
  -- the two cases of the page
  have pr : ∀ s, gI s 1 = Int32.ofNat P → k_pageInRange v2 v3 s = (if v2 < 0 then (0 : Int32) else if (3 : Int32) < v2 then (0 : Int32) else if v3 < 0 then (0 : Int32) else if v3 < Int32.ofNat P then (1 : Int32) else (0 : Int32)) := fun s q1 => by
    unfold k_pageInRange
    rw [q1]
    by_cases z : v2 < 0
    · rw [if_pos z, if_pos z]
    · rw [if_neg z, if_neg z]
      have : v2 < 4 ↔ ¬ (3 : Int32) < v2 := by
        rw [Int32.lt_iff_toInt_lt, Int32.lt_iff_toInt_lt]
        have e4 : (4 : Int32).toInt = 4 := rfl
        have e3 : (3 : Int32).toInt = 3 := rfl
        omega
      by_cases y : v2 < 4
      · rw [if_pos y, if_neg (this.mp y)]
      · rw [if_neg y, if_pos (by
          rcases Decidable.em ((3 : Int32) < v2) with w | w
          · exact w
          · exact absurd (this.mpr w) y)]
  by_cases hin : k_pageInRange v2 v3 t1 = 0
  · -- out of range
    have hv := hin
    rw [pr t1 j1] at hv
    rw [hv]
    have sh : k_share v2 v3 0 0 t1 = some (-1, t1) := by unfold k_share; rw [hin, if_pos rfl]
    rw [sh, Option.bind_some, if_pos rfl, if_pos rfl]
    unfold law_162
    rw [if_pos rfl]
    have mc : k_mapCount 0 t1 = some 1 := by unfold k_mapCount; rw [in0 h8 h64 j0, if_neg (by decide), ix0, b2, Option.bind_some]
    rw [mc, Option.bind_some, if_pos rfl]
    unfold law_189
    have wr : k_write v2 v3 v5 t1 = some (0, t1) := by
      unfold k_write k_mappedFrame
      rw [hin, if_pos rfl, Option.bind_some, if_pos (by decide)]
    rw [if_pos rfl, wr, Option.bind_some, if_pos rfl, if_pos rfl]
    unfold law_226
    have rd : k_read 0 0 t1 = some v4 := by
      unfold k_read
      rw [mf t1 j0 j1 b3, Option.bind_some, if_neg (by decide), ix0, b1, Option.bind_some]
    obtain ⟨u, eu, u0, u1, uA, u3, uf⟩ := un1 h8 h64 p4 p16 J
    rw [rd, Option.bind_some, if_pos rfl, eu, Option.bind_some, if_pos rfl]
    have fs : k_frameState 0 u = some 0 := by unfold k_frameState; rw [in0 h8 h64 u0, if_neg (by decide), ix0, uA, Option.bind_some]
    have fv : k_frameValue 0 u = some 0 := by unfold k_frameValue; rw [in0 h8 h64 u0, if_neg (by decide), ix0, uA, Option.bind_some, if_pos rfl]
    have r2 : k_read v2 v3 u = some 0 := by
      unfold k_read k_mappedFrame
      rw [pr u u1, hv, if_pos rfl, Option.bind_some, if_pos (by decide)]
    dsimp only
    rw [fs, Option.bind_some, if_pos rfl]
    unfold law_270
    rw [if_pos rfl, fv, Option.bind_some, if_pos rfl]
    unfold law_292
    rw [if_pos rfl, uf, if_pos rfl]
    unfold law_316
    rw [if_pos rfl, r2, Option.bind_some, if_pos rfl]
    unfold law_339
    rw [if_pos rfl]
    exact ⟨_, rfl⟩
  · have hv := hin
    rw [pr t1 j1] at hv
    have q1 : ¬ v2 < 0 := fun z => hv (by rw [if_pos z])
    have q2 : ¬ (3 : Int32) < v2 := fun z => hv (by rw [if_neg q1, if_pos z])
    have q3 : ¬ v3 < 0 := fun z => hv (by rw [if_neg q1, if_neg q2, if_pos z])
    have q4 : v3 < Int32.ofNat P := by
      rcases Decidable.em (v3 < Int32.ofNat P) with z | z
      · exact z
      · exact absurd (by rw [if_neg q1, if_neg q2, if_neg q3, if_neg z]) hv
    have q2' : v2 < Int32.ofNat 4 := by
      rw [Int32.lt_iff_toInt_lt] at q2 ⊢
      have e4 : (Int32.ofNat 4).toInt = 4 := rfl
      have e3 : (3 : Int32).toInt = 3 := rfl
      omega
    have c1 := clamp_lt q1 q2' (by omega)
    have c2 := clamp_lt q3 q4 (by omega)
    have e1' := (eq_ofNat q1).1
    have e2' := (eq_ofNat q3).1
    obtain ⟨A, hA⟩ : ∃ A, A = v2.toNatClampNeg := ⟨_, rfl⟩
    obtain ⟨B, hB⟩ : ∃ B, B = v3.toNatClampNeg := ⟨_, rfl⟩
    rw [← hA] at c1 e1'
    rw [← hB] at c2 e2'
    have pv : (if v2 < 0 then (0 : Int32) else if (3 : Int32) < v2 then (0 : Int32) else if v3 < 0 then (0 : Int32) else if v3 < Int32.ofNat P then (1 : Int32) else (0 : Int32)) = 1 := by rw [if_neg q1, if_neg q2, if_neg q3, if_pos q4]
    have slx : k_slotOf v2 v3 = Int32.ofNat (A * 16 + B) := by
      unfold k_slotOf
      rw [e1', e2', show Int32.ofNat A * 16 = Int32.ofNat (A * 16) from (Int32.ofNat_mul A 16).symm, ofNat_add']
    obtain ⟨x, hx⟩ : ∃ x, x = A * 16 + B := ⟨_, rfl⟩
    rw [← hx] at slx
    have hx64 : x < 64 := by omega
    have z2 : v2 = 0 ↔ A = 0 := by
      rw [e1', show (0 : Int32) = Int32.ofNat 0 from rfl]
      constructor
      · intro w
        have := congrArg Int32.toInt w
        rw [ofNat_toInt (by omega), ofNat_toInt (by omega)] at this
        omega
      · intro w; rw [w]
    have z3 : v3 = 0 ↔ B = 0 := by
      rw [e2', show (0 : Int32) = Int32.ofNat 0 from rfl]
      constructor
      · intro w
        have := congrArg Int32.toInt w
        rw [ofNat_toInt (by omega), ofNat_toInt (by omega)] at this
        omega
      · intro w; rw [w]
    have mfx : ∀ s, gI s 0 = Int32.ofNat N → gI s 1 = Int32.ofNat P → (gA s 3)[x]? = some (0 : Int32) → k_mappedFrame v2 v3 s = some 0 := fun s w0 w1 w3 => by
      unfold k_mappedFrame
      rw [pr s w1, pv, if_neg (by decide), slx, ix_ofNat _ (by omega), w3, Option.bind_some, in0 h8 h64 w0, if_neg (by decide)]
    rw [pv]
    by_cases sm : x = 0
    · -- the same page
      have hs : (if v2 = 0 then if v3 = 0 then (1 : Int32) else (0 : Int32) else (0 : Int32)) = 1 := by
        rw [if_pos (z2.mpr (by omega)), if_pos (z3.mpr (by omega))]
      rw [hs]
      have sh : k_share v2 v3 0 0 t1 = some (-2, t1) := by
        unfold k_share
        rw [pr t1 j1, pv, if_neg (by decide), P0 t1 j1, if_neg (by decide), slx, ix_ofNat _ (by omega), sm, b3, Option.bind_some, if_neg (by decide)]
      rw [sh, Option.bind_some, if_neg (by decide), if_neg (by decide), if_neg (by decide), if_neg (by decide)]
      unfold law_162
      rw [if_pos rfl]
      have mc : k_mapCount 0 t1 = some 1 := by unfold k_mapCount; rw [in0 h8 h64 j0, if_neg (by decide), ix0, b2, Option.bind_some]
      rw [mc, Option.bind_some, if_pos rfl]
      unfold law_189
      have wr : k_write v2 v3 v5 t1 = some (1, sA t1 1 ((gA t1 1).set 0 v5)) := by
        unfold k_write
        rw [mfx t1 j0 j1 (by rw [sm]; exact b3), Option.bind_some, if_neg (by decide), st0 (jl 1 (by omega)), Option.bind_some]
      have J' : J1 (sA t1 1 ((gA t1 1).set 0 v5)) N P v5 := by
        refine ⟨?_, by rw [gI_sA]; exact j0, by rw [gI_sA]; exact j1, by rw [gL_sA]; exact j2, by rw [gA_sA, if_neg (by decide)]; exact b0, ?_, by rw [gA_sA, if_neg (by decide)]; exact b2, by rw [gA_sA, if_neg (by decide)]; exact b3, by rw [gA_sA, if_neg (by decide)]; exact b3', by rw [gA_sA, if_neg (by decide)]; exact b4, by rw [gA_sA, if_neg (by decide)]; exact b5, by rw [gA_sA, if_neg (by decide)]; exact b6⟩
        · intro f hf
          rw [gA_sA]
          split
          · rw [List.length_set]; exact jl 1 (by omega)
          · exact jl f hf
        · rw [gA_sA, if_pos rfl, List.getElem?_set_self (by rw [jl 1 (by omega)]; omega)]
      rw [if_pos rfl, wr, Option.bind_some, if_pos rfl, if_neg (by decide)]
      dsimp only
      generalize (sA t1 1 ((gA t1 1).set 0 v5)) = s1 at J'
      obtain ⟨kl, k0, k1, k2, d0, d1, d2, d3, d3', d4, d5, d6⟩ := id J'
      unfold law_226
      have rd : k_read 0 0 s1 = some v5 := by
        unfold k_read
        rw [mf s1 k0 k1 d3, Option.bind_some, if_neg (by decide), ix0, d1, Option.bind_some]
      obtain ⟨u, eu, u0, u1, uA, u3, uf⟩ := un1 h8 h64 p4 p16 J'
      rw [rd, Option.bind_some, if_pos rfl, eu, Option.bind_some, if_pos rfl]
      have fs : k_frameState 0 u = some 0 := by unfold k_frameState; rw [in0 h8 h64 u0, if_neg (by decide), ix0, uA, Option.bind_some]
      have fv : k_frameValue 0 u = some 0 := by unfold k_frameValue; rw [in0 h8 h64 u0, if_neg (by decide), ix0, uA, Option.bind_some, if_pos rfl]
      have r2 : k_read v2 v3 u = some 0 := by
        unfold k_read k_mappedFrame
        rw [pr u u1, pv, if_neg (by decide), slx, ix_ofNat _ (by omega), sm, u3, Option.bind_some]
        rw [show k_frameInRange (-1) u = 0 by unfold k_frameInRange; rw [if_pos (by decide)], if_pos rfl, Option.bind_some, if_pos (by decide)]
      dsimp only
      rw [fs, Option.bind_some, if_pos rfl]
      unfold law_270
      rw [if_pos rfl, fv, Option.bind_some, if_pos rfl]
      unfold law_292
      rw [if_pos rfl, uf, if_pos rfl]
      unfold law_316
      rw [if_pos rfl, r2, Option.bind_some, if_pos rfl]
      unfold law_339
      rw [if_pos rfl]
      exact ⟨_, rfl⟩
    · have hs : (if v2 = 0 then if v3 = 0 then (1 : Int32) else (0 : Int32) else (0 : Int32)) = 0 := by
        by_cases w : A = 0
        · rw [if_pos (z2.mpr w), if_neg (fun z => by have := z3.mp z; omega)]
        · rw [if_neg (fun z => w (z2.mp z))]
      rw [hs]
      obtain ⟨s1, es, J'⟩ := link0 h8 h64 J (x := x) (by omega) hx64
      have sh : k_share v2 v3 0 0 t1 = some (0, s1) := by
        unfold k_share
        rw [pr t1 j1, pv, if_neg (by decide), P0 t1 j1, if_neg (by decide), slx, ix_ofNat _ (by omega), b3' x (by omega) hx64, Option.bind_some, if_pos (by decide), sl0, ix0, b3, Option.bind_some, in0 h8 h64 j0, if_neg (by decide), es, Option.bind_some]
      rw [sh, Option.bind_some, if_neg (by decide), if_pos rfl, if_neg (by decide), if_pos rfl]
      unfold law_162
      obtain ⟨kl, k0, k1, k2, d0, d1, d2, d3, d3', d4, d5, d6⟩ := id J'
      dsimp only
      have mc : k_mapCount 0 s1 = some 2 := by unfold k_mapCount; rw [in0 h8 h64 k0, if_neg (by decide), ix0, d2, Option.bind_some]
      rw [if_pos rfl, mc, Option.bind_some, if_neg (by decide)]
      unfold law_189
      have wr : k_write v2 v3 v5 s1 = some (1, sA s1 1 ((gA s1 1).set 0 v5)) := by
        unfold k_write
        rw [mfx s1 k0 k1 d3', Option.bind_some, if_neg (by decide), st0 (kl 1 (by omega)), Option.bind_some]
      have J2' : J2 (sA s1 1 ((gA s1 1).set 0 v5)) N P v5 x := by
        refine ⟨?_, by rw [gI_sA]; exact k0, by rw [gI_sA]; exact k1, by rw [gL_sA]; exact k2, by rw [gA_sA, if_neg (by decide)]; exact d0, ?_, by rw [gA_sA, if_neg (by decide)]; exact d2, by rw [gA_sA, if_neg (by decide)]; exact d3, by rw [gA_sA, if_neg (by decide)]; exact d3', by rw [gA_sA, if_neg (by decide)]; exact d4, by rw [gA_sA, if_neg (by decide)]; exact d5, by rw [gA_sA, if_neg (by decide)]; exact d6⟩
        · intro f hf
          rw [gA_sA]
          split
          · rw [List.length_set]; exact kl 1 (by omega)
          · exact kl f hf
        · rw [gA_sA, if_pos rfl, List.getElem?_set_self (by rw [kl 1 (by omega)]; omega)]
      rw [if_pos rfl, wr, Option.bind_some, if_pos rfl, if_neg (by decide)]
      dsimp only
      generalize (sA s1 1 ((gA s1 1).set 0 v5)) = s2 at J2'
      obtain ⟨ml, m0, m1, m2, f0, f1, f2, f3, f3', f4, f5, f6⟩ := id J2'
      unfold law_226
      have rd : k_read 0 0 s2 = some v5 := by
        unfold k_read
        rw [mf s2 m0 m1 f3, Option.bind_some, if_neg (by decide), ix0, f1, Option.bind_some]
      obtain ⟨u, eu, u0, u1, uA, uV, u3, uf⟩ := un2 h8 h64 p4 p16 (by omega) hx64 J2'
      rw [rd, Option.bind_some, if_pos rfl, eu, Option.bind_some, if_pos rfl]
      have fs : k_frameState 0 u = some 1 := by unfold k_frameState; rw [in0 h8 h64 u0, if_neg (by decide), ix0, uA, Option.bind_some]
      have fv : k_frameValue 0 u = some v5 := by unfold k_frameValue; rw [in0 h8 h64 u0, if_neg (by decide), ix0, uA, Option.bind_some, if_neg (by decide), if_neg (by decide), ix0, uV, Option.bind_some]
      have r2 : k_read v2 v3 u = some v5 := by
        unfold k_read
        rw [mfx u u0 u1 u3, Option.bind_some, if_neg (by decide), ix0, uV, Option.bind_some]
      dsimp only
      rw [fs, Option.bind_some, if_neg (by decide)]
      unfold law_270
      rw [if_pos rfl, fv, Option.bind_some, if_neg (by decide)]
      unfold law_292
      have sub1 : Int32.ofNat N - 1 = Int32.ofNat (N - 1) := by
        have := ofNat_succ (N - 1)
        rw [show N - 1 + 1 = N by omega] at this
        rw [← this]; simp
      rw [if_pos rfl, uf, if_neg (by decide), sub1]
      unfold law_316
      rw [if_pos rfl, r2, Option.bind_some, if_neg (by decide)]
      unfold law_339
      rw [if_pos rfl]
      exact ⟨_, rfl⟩
set_option maxRecDepth 65536 in
set_option maxHeartbeats 40000000 in
theorem comes_1 {Post : Tables → Env → Array Value → State → Outcome → State → Prop} (hpost : ∀ tb e args s v u, (limb_1_1.after args s (.returned v) u = true ∧ limb_1_2.after args s (.returned v) u = true ∧ True) → FrameEnd s (.returned v) u (Jvm.fieldLocs frame_1_writes args s ++ Jvm.arrayLocs frame_1_arrays args s ++ Jvm.staticLocs frame_1_statics s) 32 1024 → Post tb e args s (.returned v) u) :
    ArmFor flags0 classFile x code maxLocals ret World_1 tables_1 room_1 Calls_1 rest_1 Pre_1 Post := by
  intro l hfl _ _ p e ha hc hk s m args below hf hA hF happ hP
  obtain ⟨hcalls, hrest, hpre⟩ := hP
  obtain ⟨-, -, -, hnamed, -, -, -, hat⟩ := (Spec.applies_iff hf).mp happ
  obtain ⟨hg, hn⟩ := and_e (Cond.before_iff.mp (show (Jvm.Cond.and given_1 narrow_1).before args s = true from hpre))
  obtain ⟨g0, b0⟩ := and_e hg
  obtain ⟨a0, b1⟩ := and_e b0
  obtain ⟨a1, b2⟩ := and_e b1
  obtain ⟨a2, b3⟩ := and_e b2
  obtain ⟨a3, b4⟩ := and_e b3
  obtain ⟨a4, b5⟩ := and_e b4
  have a5 := b5
  obtain ⟨w0, w1, w2, w3, w4, w5, rfl⟩ : ∃ w0 w1 w2 w3 w4 w5 : Value, args = #[w0, w1, w2, w3, w4, w5] := by
    have hs : args.size = 6 := by simpa [Cond.value, given_1] using g0
    obtain ⟨L⟩ := args
    match L, hs with
    | [w0, w1, w2, w3, w4, w5], _ => exact ⟨w0, w1, w2, w3, w4, w5, rfl⟩
  have hw := fun d (hd : d ∈ tables_1) => atoms_spec (ws := Jvm.Cond.code x code maxLocals ret :: tables_1) hat d (List.mem_cons_of_mem _ hd)
  have hfit : Fit s := fun {y c} hc i hi => by
    obtain ⟨ha, rfl⟩ := Array.getElem?_eq_some_iff.mp hc
    have q := List.all_eq_true.mp ((Array.all_eq_true_iff_forall_mem.mp hF) _ (Array.getElem_mem ha)) i (List.mem_range.mpr hi)
    simpa [Array.getElem?_eq_getElem hi] using q
  obtain ⟨i0, ei0⟩ := is_v a0
  obtain rfl : w0 = (.int i0) := Option.some.inj ei0
  obtain ⟨i1, ei1⟩ := is_v a1
  obtain rfl : w1 = (.int i1) := Option.some.inj ei1
  obtain ⟨i2, ei2⟩ := is_v a2
  obtain rfl : w2 = (.int i2) := Option.some.inj ei2
  obtain ⟨i3, ei3⟩ := is_v a3
  obtain rfl : w3 = (.int i3) := Option.some.inj ei3
  obtain ⟨i4, ei4⟩ := is_v a4
  obtain rfl : w4 = (.int i4) := Option.some.inj ei4
  obtain ⟨i5, ei5⟩ := is_v a5
  obtain rfl : w5 = (.int i5) := Option.some.inj ei5
  obtain ⟨t, ht⟩ := law_true i0 i1 i2 i3 i4 i5
  have C : Call PP m27 [.int i0, .int i1, .int i2, .int i3, .int i4, .int i5] (none, []) (some (.int ((1 : Int32), t).1), (none, [(8, ((1 : Int32), t).2)])) := call_of_go pl_1 rfl (fun h => by cases h) (law_ok i0 i1 i2 i3 i4 i5 _ ht)
  obtain ⟨n, o, h1, h2, h3, _, L, rfl, ⟨rfl, N, _⟩, hq⟩ := C l s _ tables_1 0 s.heap.size s.heap.size s.heap hw (facts1 hw) (Nat.le_refl _) (repW_none ..) (Nat.zero_le _) (fun _ => ⟨rfl, rfl, rfl⟩) p e ha hc hk s m _ below hf ((Spec.applies_iff_loose hf).mp happ).1 ⟨rfl, State.Warmed39.refl s, rfl⟩ trivial
  refine ⟨n, _, h1, h2, h3, hpost _ _ _ _ _ _ ⟨Cond.after_iff.mpr rfl, Cond.after_iff.mpr (eq_i res_at (Term.int_eval (1)) rfl), trivial⟩ ⟨hq.1, hq.2.1, (hq.2.2.sift fun y hy => Or.inr (N y hy)).mono (by decide) (by decide)⟩⟩
theorem main_1_1 : Claimed_1_1 := comes_1 fun _ _ _ _ _ _ h hF => ⟨h.1, hF⟩
theorem main_1_2 : Claimed_1_2 := comes_1 fun _ _ _ _ _ _ h hF => ⟨h.2.1, hF⟩
end Jvm.Pilot.@@N@@
namespace Jvm.Pilot.@@N@@
open Jvm Jvm.ClassFile Sem Op Lib Jvm.Free Jvm.Stand Jvm.Pilot.@@N@@.Jvm.D
/-! MADE BY PROGRAM (witnessworld.py) out of the Statement's table words and the real class files: 11 classes; the members and pool entries that the words name. The judged class is class 1, her method 1. -/
namespace start1
open Jvm.ClassFile
def u (s : String) : CpInfo := .utf8 (stringToUtf16 s)
/-- a pool by its gaps: so many unusable entries, then the entry; so many at the end -/
def gap : Nat → List CpInfo → List CpInfo
  | 0, r => r
  | n + 1, r => .unusable :: gap n r
def poolList (es : List (Nat × CpInfo)) (last : Nat) : List CpInfo := es.foldr (fun e r => gap e.1 (e.2 :: r)) (gap last [])
def pool (es : List (Nat × CpInfo)) (last : Nat) : Array CpInfo := ⟨poolList es last⟩
def fileOf (pool : Array CpInfo) (this : Nat) (attrs : Array Attribute := #[]) (ms : Array MethodInfo := #[]) (fl : Nat := 33) (sup : Nat := 0) (ifs : Array Nat := #[]) (fds : Array FieldInfo := #[]) : ClassFile where
  minorVersion := 0
  majorVersion := 65
  constantPool := pool
  accessFlags := fl
  thisClass := this
  superClass := sup
  interfaces := ifs
  fields := fds
  methods := ms
  attributes := attrs
def plain (name : String) (sup : Option ClassId) : Class where
  name := name
  kind := .ordinary
  loader := none
  accessFlags := 33
  super := sup
  interfaces := #[]
  cf := none
  fields := #[]
  methods := #[]
  instanceTypes := #[]
  staticTypes := #[]
  resolved := #[]
  callSites := []
  init := .initialized
  statics := none
  mirror := none

def pool0 : Array CpInfo := pool [(5, u "<init>"), (0, u "()V"), (1, .class_ 10), (1, u "java/lang/Object")] 113

def k0c0 : Code := { maxStack := 0, maxLocals := 1, code := object_method_1_code, exceptionTable := #[], attributes := #[] }
def k0m0 : Method := { name := "<init>", desc := "()V", sig := { parameters := [], returnType := none }, accessFlags := 1, code := some k0c0 }
/-- java/lang/Object -/
def k0 : Class := { plain "java/lang/Object" none with
  accessFlags := 33
  interfaces := #[]
  cf := some (fileOf pool0 8 #[] #[{ accessFlags := 1, nameIndex := 5, descriptorIndex := 6, attributes := #[] }] 33 0 #[] #[])
  fields := #[]
  methods := #[k0m0]
  instanceTypes := #[]
  staticTypes := #[]
  resolved := Array.replicate 124 none
  statics := none }

def pool1 : Array CpInfo := pool [(2, .class_ 4), (1, u "java/lang/Object"), (0, u "<init>"), (0, u "()V"), (0, .class_ 8), (0, u "PageCompactorY"), (0, .methodref 7 10), (0, .nameAndType 5 11), (0, u "(II)V"), (0, .methodref 7 13), (0, .nameAndType 14 15), (0, u "mapNew"), (0, u "(III)I"), (0, .methodref 7 17), (0, .nameAndType 18 19), (0, u "share"), (0, u "(IIII)I"), (0, .methodref 7 21), (0, .nameAndType 22 23), (0, u "mapCount"), (0, u "(I)I"), (0, .methodref 7 25), (0, .nameAndType 26 27), (0, u "write"), (0, u "(III)Z"), (0, .methodref 7 29), (0, .nameAndType 30 31), (0, u "read"), (0, u "(II)I"), (0, .methodref 7 33), (0, .nameAndType 34 31), (0, u "unmap"), (0, .methodref 7 36), (0, .nameAndType 37 23), (0, u "frameState"), (0, .methodref 7 39), (0, .nameAndType 40 23), (0, u "frameValue"), (0, .methodref 7 42), (0, .nameAndType 43 44), (0, u "freeCount"), (0, u "()I"), (0, .class_ 46), (0, u "PageCompactorYL2"), (2, u "law"), (0, u "(IIIIII)Z")] 3

def k1m0 : Method := { name := "<init>", desc := "()V", sig := { parameters := [], returnType := none }, accessFlags := 1, code := none }
def k1c1 : Code := { maxStack := 5, maxLocals := 16, code := code, exceptionTable := #[], attributes := #[] }
def k1m1 : Method := { name := "law", desc := "(IIIIII)Z", sig := { parameters := [.int, .int, .int, .int, .int, .int], returnType := some .boolean }, accessFlags := 9, code := some k1c1 }
/-- PageCompactorYL2 -/
def k1 : Class := { plain "PageCompactorYL2" (some 0) with
  accessFlags := 49
  interfaces := #[]
  cf := some (fileOf pool1 45 #[] #[{ accessFlags := 1, nameIndex := 5, descriptorIndex := 6, attributes := #[] }, { accessFlags := 9, nameIndex := 49, descriptorIndex := 50, attributes := #[] }] 49 2 #[] #[])
  fields := #[]
  methods := #[k1m0, k1m1]
  instanceTypes := #[]
  staticTypes := #[]
  resolved := Array.replicate 54 none
  statics := none }

def pool2 : Array CpInfo := pool [(1, .methodref 2 3), (0, .class_ 4), (0, .nameAndType 5 6), (0, u "java/lang/Object"), (0, u "<init>"), (0, u "()V"), (0, .fieldref 8 9), (0, .class_ 10), (0, .nameAndType 11 12), (0, u "PageCompactorY"), (0, u "frameStates"), (0, u "[B"), (0, .fieldref 8 14), (0, .nameAndType 15 16), (0, u "frameValues"), (0, u "[I"), (0, .fieldref 8 18), (0, .nameAndType 19 16), (0, u "frameCounts"), (0, .fieldref 8 21), (0, .nameAndType 22 16), (0, u "pageFrame"), (0, .fieldref 8 24), (0, .nameAndType 25 16), (0, u "rmapHead"), (0, .fieldref 8 27), (0, .nameAndType 28 16), (0, u "rmapNext"), (0, .fieldref 8 30), (0, .nameAndType 31 16), (0, u "rmapPrev"), (0, .fieldref 8 33), (0, .nameAndType 34 35), (0, u "runSet"), (0, u "[J"), (0, .methodref 8 37), (0, .nameAndType 38 39), (0, u "clampInt"), (0, u "(III)I"), (0, .fieldref 8 41), (0, .nameAndType 42 43), (0, u "frameTotal"), (0, u "I"), (0, .fieldref 8 45), (0, .nameAndType 46 43), (0, u "pageTotal"), (0, .methodref 8 48), (0, .nameAndType 49 6), (0, u "resetAll"), (0, .methodref 8 51), (0, .nameAndType 52 53), (0, u "checkTarget"), (0, u "(II)I"), (0, .fieldref 8 55), (0, .nameAndType 56 57), (0, u "freeSet"), (0, u "J"), (0, .methodref 8 59), (0, .nameAndType 60 61), (0, u "lowestBit"), (0, u "(J)I"), (0, .methodref 8 63), (0, .nameAndType 64 65), (0, u "frameInRange"), (0, u "(I)Z"), (0, .methodref 8 67), (0, .nameAndType 68 53), (0, u "slotOf"), (0, .methodref 8 70), (0, .nameAndType 71 72), (0, u "enterState"), (0, u "(II)V"), (0, .methodref 8 74), (0, .nameAndType 75 72), (0, u "attachPage"), (0, .methodref 8 77), (0, .nameAndType 78 79), (0, u "pageInRange"), (0, u "(II)Z"), (0, .methodref 8 81), (0, .nameAndType 82 83), (0, u "detachPage"), (0, u "(I)I"), (0, .methodref 8 85), (0, .nameAndType 86 87), (0, u "freeFrame"), (0, u "(I)V"), (0, .methodref 8 89), (0, .nameAndType 90 53), (0, u "mappedFrame"), (3, u "(I)J"), (5, u "scanLimit"), (2, u "scanMoved"), (2, u "scanMigrate"), (2, u "scanFree"), (13, .methodref 8 124), (0, .nameAndType 125 61), (0, u "bitCount"), (3, .methodref 8 130), (0, .nameAndType 131 94), (0, u "lowMask"), (0, .fieldref 8 133), (0, .nameAndType 134 57), (0, u "mappedSet"), (0, .fieldref 8 136), (0, .nameAndType 137 57), (0, u "pinnedSet"), (0, .fieldref 8 139), (0, .nameAndType 140 57), (0, u "reservedSet"), (0, .fieldref 8 142), (0, .nameAndType 143 144), (0, u "runsStale"), (0, u "Z"), (0, .methodref 8 146), (0, .nameAndType 147 94), (0, u "bitOf"), (0, .long 18446744073709551615), (4, .methodref 8 154), (0, .nameAndType 155 72), (0, u "rmapLink"), (0, .methodref 8 157), (0, .nameAndType 158 83), (0, u "rmapUnlink"), (3, .long 6148914691236517205), (3, .long 72340172838076673), (15, .long 4294967295), (1, .long 65535), (1, .long 255), (1, .long 15), (1, .long 3), (1, .long 3689348814741910323), (1, .long 1085102592571150095), (1, u "PROCESSES"), (2, u "MAX_ORDER"), (1, u "FREE"), (1, u "MAPPED"), (1, u "PINNED"), (1, u "RESERVED"), (1, u "NONE"), (1, u "ERR_ARG"), (0, u "ERR_MAPPED"), (1, u "ERR_UNMAPPED"), (1, u "ERR_FULL"), (3, u "mapNew"), (1, u "share"), (0, u "(IIII)I"), (0, u "unmap"), (0, u "write"), (0, u "(III)Z"), (0, u "read"), (6, u "frameState"), (0, u "frameValue"), (0, u "mapCount"), (0, u "freeCount"), (0, u "()I")] 3

def k2c0 : Code := { maxStack := 5, maxLocals := 3, code := prog_1_method_1_code, exceptionTable := #[], attributes := #[] }
def k2m0 : Method := { name := "<init>", desc := "(II)V", sig := { parameters := [.int, .int], returnType := none }, accessFlags := 1, code := some k2c0 }
def k2c1 : Code := { maxStack := 4, maxLocals := 7, code := prog_1_method_2_code, exceptionTable := #[], attributes := #[] }
def k2m1 : Method := { name := "mapNew", desc := "(III)I", sig := { parameters := [.int, .int, .int], returnType := some .int }, accessFlags := 1, code := some k2c1 }
def k2c2 : Code := { maxStack := 3, maxLocals := 8, code := prog_1_method_3_code, exceptionTable := #[], attributes := #[] }
def k2m2 : Method := { name := "share", desc := "(IIII)I", sig := { parameters := [.int, .int, .int, .int], returnType := some .int }, accessFlags := 1, code := some k2c2 }
def k2c3 : Code := { maxStack := 3, maxLocals := 5, code := prog_1_method_4_code, exceptionTable := #[], attributes := #[] }
def k2m3 : Method := { name := "unmap", desc := "(II)I", sig := { parameters := [.int, .int], returnType := some .int }, accessFlags := 1, code := some k2c3 }
def k2c4 : Code := { maxStack := 3, maxLocals := 5, code := prog_1_method_5_code, exceptionTable := #[], attributes := #[] }
def k2m4 : Method := { name := "write", desc := "(III)Z", sig := { parameters := [.int, .int, .int], returnType := some .boolean }, accessFlags := 1, code := some k2c4 }
def k2c5 : Code := { maxStack := 3, maxLocals := 4, code := prog_1_method_6_code, exceptionTable := #[], attributes := #[] }
def k2m5 : Method := { name := "read", desc := "(II)I", sig := { parameters := [.int, .int], returnType := some .int }, accessFlags := 1, code := some k2c5 }
def k2c6 : Code := { maxStack := 2, maxLocals := 2, code := prog_1_method_13_code, exceptionTable := #[], attributes := #[] }
def k2m6 : Method := { name := "frameState", desc := "(I)I", sig := { parameters := [.int], returnType := some .int }, accessFlags := 1, code := some k2c6 }
def k2c7 : Code := { maxStack := 2, maxLocals := 3, code := prog_1_method_14_code, exceptionTable := #[], attributes := #[] }
def k2m7 : Method := { name := "frameValue", desc := "(I)I", sig := { parameters := [.int], returnType := some .int }, accessFlags := 1, code := some k2c7 }
def k2c8 : Code := { maxStack := 2, maxLocals := 2, code := prog_1_method_15_code, exceptionTable := #[], attributes := #[] }
def k2m8 : Method := { name := "mapCount", desc := "(I)I", sig := { parameters := [.int], returnType := some .int }, accessFlags := 1, code := some k2c8 }
def k2c9 : Code := { maxStack := 3, maxLocals := 1, code := prog_1_method_16_code, exceptionTable := #[], attributes := #[] }
def k2m9 : Method := { name := "freeCount", desc := "()I", sig := { parameters := [], returnType := some .int }, accessFlags := 1, code := some k2c9 }
def k2c10 : Code := { maxStack := 2, maxLocals := 4, code := prog_1_method_18_code, exceptionTable := #[], attributes := #[] }
def k2m10 : Method := { name := "clampInt", desc := "(III)I", sig := { parameters := [.int, .int, .int], returnType := some .int }, accessFlags := 2, code := some k2c10 }
def k2c11 : Code := { maxStack := 2, maxLocals := 3, code := prog_1_method_19_code, exceptionTable := #[], attributes := #[] }
def k2m11 : Method := { name := "pageInRange", desc := "(II)Z", sig := { parameters := [.int, .int], returnType := some .boolean }, accessFlags := 2, code := some k2c11 }
def k2c12 : Code := { maxStack := 2, maxLocals := 2, code := prog_1_method_20_code, exceptionTable := #[], attributes := #[] }
def k2m12 : Method := { name := "frameInRange", desc := "(I)Z", sig := { parameters := [.int], returnType := some .boolean }, accessFlags := 2, code := some k2c12 }
def k2c13 : Code := { maxStack := 2, maxLocals := 3, code := prog_1_method_21_code, exceptionTable := #[], attributes := #[] }
def k2m13 : Method := { name := "slotOf", desc := "(II)I", sig := { parameters := [.int, .int], returnType := some .int }, accessFlags := 2, code := some k2c13 }
def k2c14 : Code := { maxStack := 3, maxLocals := 4, code := prog_1_method_22_code, exceptionTable := #[], attributes := #[] }
def k2m14 : Method := { name := "checkTarget", desc := "(II)I", sig := { parameters := [.int, .int], returnType := some .int }, accessFlags := 2, code := some k2c14 }
def k2c15 : Code := { maxStack := 3, maxLocals := 5, code := prog_1_method_23_code, exceptionTable := #[], attributes := #[] }
def k2m15 : Method := { name := "mappedFrame", desc := "(II)I", sig := { parameters := [.int, .int], returnType := some .int }, accessFlags := 2, code := some k2c15 }
def k2c16 : Code := { maxStack := 3, maxLocals := 2, code := prog_1_method_24_code, exceptionTable := #[], attributes := #[] }
def k2m16 : Method := { name := "resetAll", desc := "()V", sig := { parameters := [], returnType := none }, accessFlags := 2, code := some k2c16 }
def k2c17 : Code := { maxStack := 7, maxLocals := 5, code := prog_1_method_25_code, exceptionTable := #[], attributes := #[] }
def k2m17 : Method := { name := "enterState", desc := "(II)V", sig := { parameters := [.int, .int], returnType := none }, accessFlags := 2, code := some k2c17 }
def k2c18 : Code := { maxStack := 3, maxLocals := 2, code := prog_1_method_26_code, exceptionTable := #[], attributes := #[] }
def k2m18 : Method := { name := "freeFrame", desc := "(I)V", sig := { parameters := [.int], returnType := none }, accessFlags := 2, code := some k2c18 }
def k2c19 : Code := { maxStack := 4, maxLocals := 3, code := prog_1_method_29_code, exceptionTable := #[], attributes := #[] }
def k2m19 : Method := { name := "attachPage", desc := "(II)V", sig := { parameters := [.int, .int], returnType := none }, accessFlags := 2, code := some k2c19 }
def k2c20 : Code := { maxStack := 4, maxLocals := 3, code := prog_1_method_30_code, exceptionTable := #[], attributes := #[] }
def k2m20 : Method := { name := "detachPage", desc := "(I)I", sig := { parameters := [.int], returnType := some .int }, accessFlags := 2, code := some k2c20 }
def k2c21 : Code := { maxStack := 3, maxLocals := 4, code := prog_1_method_31_code, exceptionTable := #[], attributes := #[] }
def k2m21 : Method := { name := "rmapLink", desc := "(II)V", sig := { parameters := [.int, .int], returnType := none }, accessFlags := 2, code := some k2c21 }
def k2c22 : Code := { maxStack := 3, maxLocals := 5, code := prog_1_method_32_code, exceptionTable := #[], attributes := #[] }
def k2m22 : Method := { name := "rmapUnlink", desc := "(I)I", sig := { parameters := [.int], returnType := some .int }, accessFlags := 2, code := some k2c22 }
def k2c23 : Code := { maxStack := 3, maxLocals := 2, code := prog_1_method_41_code, exceptionTable := #[], attributes := #[] }
def k2m23 : Method := { name := "bitOf", desc := "(I)J", sig := { parameters := [.int], returnType := some .long }, accessFlags := 2, code := some k2c23 }
def k2c24 : Code := { maxStack := 4, maxLocals := 2, code := prog_1_method_42_code, exceptionTable := #[], attributes := #[] }
def k2m24 : Method := { name := "lowMask", desc := "(I)J", sig := { parameters := [.int], returnType := some .long }, accessFlags := 2, code := some k2c24 }
def k2c25 : Code := { maxStack := 4, maxLocals := 6, code := prog_1_method_44_code, exceptionTable := #[], attributes := #[] }
def k2m25 : Method := { name := "lowestBit", desc := "(J)I", sig := { parameters := [.long], returnType := some .int }, accessFlags := 2, code := some k2c25 }
def k2c26 : Code := { maxStack := 6, maxLocals := 5, code := prog_1_method_46_code, exceptionTable := #[], attributes := #[] }
def k2m26 : Method := { name := "bitCount", desc := "(J)I", sig := { parameters := [.long], returnType := some .int }, accessFlags := 2, code := some k2c26 }
/-- PageCompactorY -/
def k2 : Class := { plain "PageCompactorY" (some 0) with
  accessFlags := 49
  interfaces := #[]
  cf := some (fileOf pool2 8 #[] #[{ accessFlags := 1, nameIndex := 5, descriptorIndex := 72, attributes := #[] }, { accessFlags := 1, nameIndex := 220, descriptorIndex := 39, attributes := #[] }, { accessFlags := 1, nameIndex := 222, descriptorIndex := 223, attributes := #[] }, { accessFlags := 1, nameIndex := 224, descriptorIndex := 53, attributes := #[] }, { accessFlags := 1, nameIndex := 225, descriptorIndex := 226, attributes := #[] }, { accessFlags := 1, nameIndex := 227, descriptorIndex := 53, attributes := #[] }, { accessFlags := 1, nameIndex := 234, descriptorIndex := 83, attributes := #[] }, { accessFlags := 1, nameIndex := 235, descriptorIndex := 83, attributes := #[] }, { accessFlags := 1, nameIndex := 236, descriptorIndex := 83, attributes := #[] }, { accessFlags := 1, nameIndex := 237, descriptorIndex := 238, attributes := #[] }, { accessFlags := 2, nameIndex := 38, descriptorIndex := 39, attributes := #[] }, { accessFlags := 2, nameIndex := 78, descriptorIndex := 79, attributes := #[] }, { accessFlags := 2, nameIndex := 64, descriptorIndex := 65, attributes := #[] }, { accessFlags := 2, nameIndex := 68, descriptorIndex := 53, attributes := #[] }, { accessFlags := 2, nameIndex := 52, descriptorIndex := 53, attributes := #[] }, { accessFlags := 2, nameIndex := 90, descriptorIndex := 53, attributes := #[] }, { accessFlags := 2, nameIndex := 49, descriptorIndex := 6, attributes := #[] }, { accessFlags := 2, nameIndex := 71, descriptorIndex := 72, attributes := #[] }, { accessFlags := 2, nameIndex := 86, descriptorIndex := 87, attributes := #[] }, { accessFlags := 2, nameIndex := 75, descriptorIndex := 72, attributes := #[] }, { accessFlags := 2, nameIndex := 82, descriptorIndex := 83, attributes := #[] }, { accessFlags := 2, nameIndex := 155, descriptorIndex := 72, attributes := #[] }, { accessFlags := 2, nameIndex := 158, descriptorIndex := 83, attributes := #[] }, { accessFlags := 2, nameIndex := 147, descriptorIndex := 94, attributes := #[] }, { accessFlags := 2, nameIndex := 131, descriptorIndex := 94, attributes := #[] }, { accessFlags := 2, nameIndex := 60, descriptorIndex := 61, attributes := #[] }, { accessFlags := 2, nameIndex := 125, descriptorIndex := 61, attributes := #[] }] 49 2 #[] #[{ accessFlags := 25, nameIndex := 196, descriptorIndex := 43, attributes := #[] }, { accessFlags := 25, nameIndex := 199, descriptorIndex := 43, attributes := #[] }, { accessFlags := 25, nameIndex := 201, descriptorIndex := 43, attributes := #[] }, { accessFlags := 25, nameIndex := 203, descriptorIndex := 43, attributes := #[] }, { accessFlags := 25, nameIndex := 205, descriptorIndex := 43, attributes := #[] }, { accessFlags := 25, nameIndex := 207, descriptorIndex := 43, attributes := #[] }, { accessFlags := 25, nameIndex := 209, descriptorIndex := 43, attributes := #[] }, { accessFlags := 25, nameIndex := 211, descriptorIndex := 43, attributes := #[] }, { accessFlags := 25, nameIndex := 212, descriptorIndex := 43, attributes := #[] }, { accessFlags := 25, nameIndex := 214, descriptorIndex := 43, attributes := #[] }, { accessFlags := 25, nameIndex := 216, descriptorIndex := 43, attributes := #[] }, { accessFlags := 2, nameIndex := 42, descriptorIndex := 43, attributes := #[] }, { accessFlags := 2, nameIndex := 46, descriptorIndex := 43, attributes := #[] }, { accessFlags := 18, nameIndex := 11, descriptorIndex := 12, attributes := #[] }, { accessFlags := 18, nameIndex := 15, descriptorIndex := 16, attributes := #[] }, { accessFlags := 18, nameIndex := 19, descriptorIndex := 16, attributes := #[] }, { accessFlags := 18, nameIndex := 22, descriptorIndex := 16, attributes := #[] }, { accessFlags := 18, nameIndex := 25, descriptorIndex := 16, attributes := #[] }, { accessFlags := 18, nameIndex := 28, descriptorIndex := 16, attributes := #[] }, { accessFlags := 18, nameIndex := 31, descriptorIndex := 16, attributes := #[] }, { accessFlags := 2, nameIndex := 56, descriptorIndex := 57, attributes := #[] }, { accessFlags := 2, nameIndex := 134, descriptorIndex := 57, attributes := #[] }, { accessFlags := 2, nameIndex := 137, descriptorIndex := 57, attributes := #[] }, { accessFlags := 2, nameIndex := 140, descriptorIndex := 57, attributes := #[] }, { accessFlags := 18, nameIndex := 34, descriptorIndex := 35, attributes := #[] }, { accessFlags := 2, nameIndex := 143, descriptorIndex := 144, attributes := #[] }, { accessFlags := 2, nameIndex := 106, descriptorIndex := 43, attributes := #[] }, { accessFlags := 2, nameIndex := 109, descriptorIndex := 43, attributes := #[] }, { accessFlags := 2, nameIndex := 103, descriptorIndex := 43, attributes := #[] }, { accessFlags := 2, nameIndex := 100, descriptorIndex := 43, attributes := #[] }])
  fields := #[{ name := "PROCESSES", type := .int, accessFlags := 25, slot := 0, constantValue := 0 }, { name := "MAX_ORDER", type := .int, accessFlags := 25, slot := 1, constantValue := 0 }, { name := "FREE", type := .int, accessFlags := 25, slot := 2, constantValue := 0 }, { name := "MAPPED", type := .int, accessFlags := 25, slot := 3, constantValue := 0 }, { name := "PINNED", type := .int, accessFlags := 25, slot := 4, constantValue := 0 }, { name := "RESERVED", type := .int, accessFlags := 25, slot := 5, constantValue := 0 }, { name := "NONE", type := .int, accessFlags := 25, slot := 6, constantValue := 0 }, { name := "ERR_ARG", type := .int, accessFlags := 25, slot := 7, constantValue := 0 }, { name := "ERR_MAPPED", type := .int, accessFlags := 25, slot := 8, constantValue := 0 }, { name := "ERR_UNMAPPED", type := .int, accessFlags := 25, slot := 9, constantValue := 0 }, { name := "ERR_FULL", type := .int, accessFlags := 25, slot := 10, constantValue := 0 }, { name := "frameTotal", type := .int, accessFlags := 2, slot := 0, constantValue := 0 }, { name := "pageTotal", type := .int, accessFlags := 2, slot := 1, constantValue := 0 }, { name := "frameStates", type := (.array .byte), accessFlags := 18, slot := 2, constantValue := 0 }, { name := "frameValues", type := (.array .int), accessFlags := 18, slot := 3, constantValue := 0 }, { name := "frameCounts", type := (.array .int), accessFlags := 18, slot := 4, constantValue := 0 }, { name := "pageFrame", type := (.array .int), accessFlags := 18, slot := 5, constantValue := 0 }, { name := "rmapHead", type := (.array .int), accessFlags := 18, slot := 6, constantValue := 0 }, { name := "rmapNext", type := (.array .int), accessFlags := 18, slot := 7, constantValue := 0 }, { name := "rmapPrev", type := (.array .int), accessFlags := 18, slot := 8, constantValue := 0 }, { name := "freeSet", type := .long, accessFlags := 2, slot := 9, constantValue := 0 }, { name := "mappedSet", type := .long, accessFlags := 2, slot := 10, constantValue := 0 }, { name := "pinnedSet", type := .long, accessFlags := 2, slot := 11, constantValue := 0 }, { name := "reservedSet", type := .long, accessFlags := 2, slot := 12, constantValue := 0 }, { name := "runSet", type := (.array .long), accessFlags := 18, slot := 13, constantValue := 0 }, { name := "runsStale", type := .boolean, accessFlags := 2, slot := 14, constantValue := 0 }, { name := "scanMigrate", type := .int, accessFlags := 2, slot := 15, constantValue := 0 }, { name := "scanFree", type := .int, accessFlags := 2, slot := 16, constantValue := 0 }, { name := "scanMoved", type := .int, accessFlags := 2, slot := 17, constantValue := 0 }, { name := "scanLimit", type := .int, accessFlags := 2, slot := 18, constantValue := 0 }]
  methods := #[k2m0, k2m1, k2m2, k2m3, k2m4, k2m5, k2m6, k2m7, k2m8, k2m9, k2m10, k2m11, k2m12, k2m13, k2m14, k2m15, k2m16, k2m17, k2m18, k2m19, k2m20, k2m21, k2m22, k2m23, k2m24, k2m25, k2m26]
  instanceTypes := #[.int, .int, (.array .byte), (.array .int), (.array .int), (.array .int), (.array .int), (.array .int), (.array .int), .long, .long, .long, .long, (.array .long), .boolean, .int, .int, .int, .int]
  staticTypes := #[.int, .int, .int, .int, .int, .int, .int, .int, .int, .int, .int]
  resolved := Array.replicate 242 none
  statics := none }

def pool3 : Array CpInfo := pool [(1, u "java/lang/Cloneable"), (0, .class_ 1), (0, u "java/lang/Object"), (0, .class_ 3)] 3

/-- java/lang/Cloneable -/
def k3 : Class := { plain "java/lang/Cloneable" (some 0) with
  accessFlags := 1537
  interfaces := #[]
  cf := some (fileOf pool3 2 #[] #[] 1537 4 #[] #[])
  fields := #[]
  methods := #[]
  instanceTypes := #[]
  staticTypes := #[]
  resolved := Array.replicate 8 none
  statics := none }

def pool4 : Array CpInfo := pool [(1, u "java/io/Serializable"), (0, .class_ 1), (0, u "java/lang/Object"), (0, .class_ 3)] 3

/-- java/io/Serializable -/
def k4 : Class := { plain "java/io/Serializable" (some 0) with
  accessFlags := 1537
  interfaces := #[]
  cf := some (fileOf pool4 2 #[] #[] 1537 4 #[] #[])
  fields := #[]
  methods := #[]
  instanceTypes := #[]
  staticTypes := #[]
  resolved := Array.replicate 8 none
  statics := none }

/-- the primitive byte -/
def k5 : Class := { plain "byte" none with kind := .primitive 'B', accessFlags := 0x411 }
/-- [B -/
def k6 : Class := { plain "[B" (some 0) with kind := .array 5 .byte, interfaces := #[3, 4], accessFlags := 1041 }

/-- the primitive int -/
def k7 : Class := { plain "int" none with kind := .primitive 'I', accessFlags := 0x411 }
/-- [I -/
def k8 : Class := { plain "[I" (some 0) with kind := .array 7 .int, interfaces := #[3, 4], accessFlags := 1041 }

/-- the primitive long -/
def k9 : Class := { plain "long" none with kind := .primitive 'J', accessFlags := 0x411 }
/-- [J -/
def k10 : Class := { plain "[J" (some 0) with kind := .array 9 .long, interfaces := #[3, 4], accessFlags := 1041 }

def heap : Heap := #[]
def classes : Array Class := #[k0, k1, k2, k3, k4, k5, k6, k7, k8, k9, k10]
def interned : List (Array UInt16 × Addr) := []
def slotsUsed : Nat := 0
def theMethod : MethodId := ⟨1, 1⟩
def args0 : Array Value := #[.int 5, .int 5, .int 5, .int 5, .int 5, .int 5]
def aboutOver (below : List Frame) : State where
  vm := { classes := classes, interned := interned.toArray }
  heap := heap
  slotsUsed := slotsUsed
  threads := #[{ frames := .invoking theMethod args0 :: below }]
def below0 : List Frame := [.native { method := ⟨0, 0⟩, args := #[] }]
def about1 : State := aboutOver below0
def p0 : Program := .bare "" "" ""
def e0 : Env := launch0.env 0 0 0
theorem w_frames : about1.frames = Frame.invoking theMethod args0 :: below0 := rfl
set_option maxRecDepth 65536 in
theorem w_args : argsFit about1.vm theMethod args0 = true := by decide +kernel
set_option maxRecDepth 65536 in
theorem w_heap : heapFits about1 = true := by decide +kernel
set_option maxRecDepth 65536 in
theorem w_runnable : about1.curStatus? = some .runnable := by decide +kernel
set_option maxRecDepth 65536 in
theorem w_alone : about1.alone = true := by decide +kernel
set_option maxRecDepth 65536 in
theorem w_named : about1.methodNamed? x = some theMethod := by decide +kernel
set_option maxRecDepth 65536 in
theorem w_hears : about1.hears theMethod below0 = true := by decide +kernel
set_option maxRecDepth 65536 in
theorem w_ripe : about1.ripe theMethod args0 below0 = true := by decide +kernel
theorem w_running : about1.status = .running := rfl
set_option maxRecDepth 65536 in
theorem w_room : about1.hasRoom e0.platform room_1 = true :=
  launch0.hasRoom_least _ room_1 (by decide +kernel) (by decide +kernel) (by decide +kernel) (by decide +kernel) (by decide +kernel) (by decide +kernel)
theorem allAtoms_all (ts : List Jvm.Cond) (a : Array Jvm.Value) (st : Jvm.State) : (allAtoms ts).before a st = ts.all (fun c => c.before a st) := by
  induction ts with
  | nil => rfl
  | cons c t ih =>
    show (Jvm.Cond.and c (allAtoms t)).before a st = _
    rw [Jvm.Cond.before_and, ih, List.all_cons]
def words1 : List Jvm.Cond := Jvm.Cond.code x code maxLocals ret :: tables_1
/-- a 'code' word, met by the world's own term for the bytes: nothing is compared byte by byte -/
theorem code_word {y : MethodName} {bytes : ByteArray} {mx : Nat} {rt : Option FieldType} {a : Array Value} {s : State} {m : MethodId} {meth : Method} {c : Code} (h1 : s.methodNamed? y = some m) (h2 : s.vm.method? m = some meth) (h3 : meth.code = some c) (h4 : c.code = bytes)
    (h5 : (c.maxLocals == mx && c.exceptionTable.isEmpty && decide (c.maxStack ≤ mostOperands) && decide (meth.sig.returnType = rt) && !meth.locks && decide (parseMethodDescriptor y.desc = some meth.sig)) = true) : (Jvm.Cond.code y bytes mx rt).before a s = true := by
  simp only [Bool.and_eq_true, beq_iff_eq, Bool.not_eq_true', decide_eq_true_eq] at h5
  obtain ⟨⟨⟨⟨⟨g1, g2⟩, g3⟩, g4⟩, g5⟩, g6⟩ := h5
  simp [Cond.before, Cond.holds, Cond.value, h1, h2, h3, h4, g1, g2, g3, g4, g5, g6]
def isCode : Jvm.Cond → Bool
  | .code _ _ _ _ => true
  | _ => false
theorem all_split {L : List Jvm.Cond} {P : Jvm.Cond → Bool} (h1 : L.all (fun c => isCode c || P c) = true) (h2 : ∀ c ∈ L.filter isCode, P c = true) : L.all P = true := by
  refine List.all_eq_true.mpr fun c hc => ?_
  have h := List.all_eq_true.mp h1 c hc
  rcases Bool.eq_false_or_eq_true (isCode c) with hi | hi
  · exact h2 c (List.mem_filter.mpr ⟨hc, hi⟩)
  · simpa [hi] using h
set_option maxRecDepth 65536 in
theorem w_c0 : (Jvm.Cond.code x code maxLocals ret).before args0 about1 = true := code_word (m := ⟨1, 1⟩) (meth := k1m1) (c := k1c1) (by decide +kernel) rfl rfl rfl (by decide +kernel)
set_option maxRecDepth 65536 in
theorem w_c1 : (Jvm.Cond.code ({ cls := "PageCompactorY", name := "<init>", desc := "(II)V" } : Jvm.MethodName) prog_1_method_1_code (3 : Nat) (Option.none : Option Jvm.ClassFile.FieldType)).before args0 about1 = true := code_word (m := ⟨2, 0⟩) (meth := k2m0) (c := k2c0) (by decide +kernel) rfl rfl rfl (by decide +kernel)
set_option maxRecDepth 65536 in
theorem w_c2 : (Jvm.Cond.code ({ cls := "java/lang/Object", name := "<init>", desc := "()V" } : Jvm.MethodName) object_method_1_code (1 : Nat) (Option.none : Option Jvm.ClassFile.FieldType)).before args0 about1 = true := code_word (m := ⟨0, 0⟩) (meth := k0m0) (c := k0c0) (by decide +kernel) rfl rfl rfl (by decide +kernel)
set_option maxRecDepth 65536 in
theorem w_c3 : (Jvm.Cond.code ({ cls := "PageCompactorY", name := "clampInt", desc := "(III)I" } : Jvm.MethodName) prog_1_method_18_code (4 : Nat) (Option.some Jvm.ClassFile.FieldType.int)).before args0 about1 = true := code_word (m := ⟨2, 10⟩) (meth := k2m10) (c := k2c10) (by decide +kernel) rfl rfl rfl (by decide +kernel)
set_option maxRecDepth 65536 in
theorem w_c4 : (Jvm.Cond.code ({ cls := "PageCompactorY", name := "resetAll", desc := "()V" } : Jvm.MethodName) prog_1_method_24_code (2 : Nat) (Option.none : Option Jvm.ClassFile.FieldType)).before args0 about1 = true := code_word (m := ⟨2, 16⟩) (meth := k2m16) (c := k2c16) (by decide +kernel) rfl rfl rfl (by decide +kernel)
set_option maxRecDepth 65536 in
theorem w_c5 : (Jvm.Cond.code ({ cls := "PageCompactorY", name := "lowMask", desc := "(I)J" } : Jvm.MethodName) prog_1_method_42_code (2 : Nat) (Option.some Jvm.ClassFile.FieldType.long)).before args0 about1 = true := code_word (m := ⟨2, 24⟩) (meth := k2m24) (c := k2c24) (by decide +kernel) rfl rfl rfl (by decide +kernel)
set_option maxRecDepth 65536 in
theorem w_c6 : (Jvm.Cond.code ({ cls := "PageCompactorY", name := "mapNew", desc := "(III)I" } : Jvm.MethodName) prog_1_method_2_code (7 : Nat) (Option.some Jvm.ClassFile.FieldType.int)).before args0 about1 = true := code_word (m := ⟨2, 1⟩) (meth := k2m1) (c := k2c1) (by decide +kernel) rfl rfl rfl (by decide +kernel)
set_option maxRecDepth 65536 in
theorem w_c7 : (Jvm.Cond.code ({ cls := "PageCompactorY", name := "checkTarget", desc := "(II)I" } : Jvm.MethodName) prog_1_method_22_code (4 : Nat) (Option.some Jvm.ClassFile.FieldType.int)).before args0 about1 = true := code_word (m := ⟨2, 14⟩) (meth := k2m14) (c := k2c14) (by decide +kernel) rfl rfl rfl (by decide +kernel)
set_option maxRecDepth 65536 in
theorem w_c8 : (Jvm.Cond.code ({ cls := "PageCompactorY", name := "pageInRange", desc := "(II)Z" } : Jvm.MethodName) prog_1_method_19_code (3 : Nat) (Option.some Jvm.ClassFile.FieldType.boolean)).before args0 about1 = true := code_word (m := ⟨2, 11⟩) (meth := k2m11) (c := k2c11) (by decide +kernel) rfl rfl rfl (by decide +kernel)
set_option maxRecDepth 65536 in
theorem w_c9 : (Jvm.Cond.code ({ cls := "PageCompactorY", name := "slotOf", desc := "(II)I" } : Jvm.MethodName) prog_1_method_21_code (3 : Nat) (Option.some Jvm.ClassFile.FieldType.int)).before args0 about1 = true := code_word (m := ⟨2, 13⟩) (meth := k2m13) (c := k2c13) (by decide +kernel) rfl rfl rfl (by decide +kernel)
set_option maxRecDepth 65536 in
theorem w_c10 : (Jvm.Cond.code ({ cls := "PageCompactorY", name := "lowestBit", desc := "(J)I" } : Jvm.MethodName) prog_1_method_44_code (6 : Nat) (Option.some Jvm.ClassFile.FieldType.int)).before args0 about1 = true := code_word (m := ⟨2, 25⟩) (meth := k2m25) (c := k2c25) (by decide +kernel) rfl rfl rfl (by decide +kernel)
set_option maxRecDepth 65536 in
theorem w_c11 : (Jvm.Cond.code ({ cls := "PageCompactorY", name := "frameInRange", desc := "(I)Z" } : Jvm.MethodName) prog_1_method_20_code (2 : Nat) (Option.some Jvm.ClassFile.FieldType.boolean)).before args0 about1 = true := code_word (m := ⟨2, 12⟩) (meth := k2m12) (c := k2c12) (by decide +kernel) rfl rfl rfl (by decide +kernel)
set_option maxRecDepth 65536 in
theorem w_c12 : (Jvm.Cond.code ({ cls := "PageCompactorY", name := "enterState", desc := "(II)V" } : Jvm.MethodName) prog_1_method_25_code (5 : Nat) (Option.none : Option Jvm.ClassFile.FieldType)).before args0 about1 = true := code_word (m := ⟨2, 17⟩) (meth := k2m17) (c := k2c17) (by decide +kernel) rfl rfl rfl (by decide +kernel)
set_option maxRecDepth 65536 in
theorem w_c13 : (Jvm.Cond.code ({ cls := "PageCompactorY", name := "bitOf", desc := "(I)J" } : Jvm.MethodName) prog_1_method_41_code (2 : Nat) (Option.some Jvm.ClassFile.FieldType.long)).before args0 about1 = true := code_word (m := ⟨2, 23⟩) (meth := k2m23) (c := k2c23) (by decide +kernel) rfl rfl rfl (by decide +kernel)
set_option maxRecDepth 65536 in
theorem w_c14 : (Jvm.Cond.code ({ cls := "PageCompactorY", name := "attachPage", desc := "(II)V" } : Jvm.MethodName) prog_1_method_29_code (3 : Nat) (Option.none : Option Jvm.ClassFile.FieldType)).before args0 about1 = true := code_word (m := ⟨2, 19⟩) (meth := k2m19) (c := k2c19) (by decide +kernel) rfl rfl rfl (by decide +kernel)
set_option maxRecDepth 65536 in
theorem w_c15 : (Jvm.Cond.code ({ cls := "PageCompactorY", name := "rmapLink", desc := "(II)V" } : Jvm.MethodName) prog_1_method_31_code (4 : Nat) (Option.none : Option Jvm.ClassFile.FieldType)).before args0 about1 = true := code_word (m := ⟨2, 21⟩) (meth := k2m21) (c := k2c21) (by decide +kernel) rfl rfl rfl (by decide +kernel)
set_option maxRecDepth 65536 in
theorem w_c16 : (Jvm.Cond.code ({ cls := "PageCompactorY", name := "share", desc := "(IIII)I" } : Jvm.MethodName) prog_1_method_3_code (8 : Nat) (Option.some Jvm.ClassFile.FieldType.int)).before args0 about1 = true := code_word (m := ⟨2, 2⟩) (meth := k2m2) (c := k2c2) (by decide +kernel) rfl rfl rfl (by decide +kernel)
set_option maxRecDepth 65536 in
theorem w_c17 : (Jvm.Cond.code ({ cls := "PageCompactorY", name := "mapCount", desc := "(I)I" } : Jvm.MethodName) prog_1_method_15_code (2 : Nat) (Option.some Jvm.ClassFile.FieldType.int)).before args0 about1 = true := code_word (m := ⟨2, 8⟩) (meth := k2m8) (c := k2c8) (by decide +kernel) rfl rfl rfl (by decide +kernel)
set_option maxRecDepth 65536 in
theorem w_c18 : (Jvm.Cond.code ({ cls := "PageCompactorY", name := "write", desc := "(III)Z" } : Jvm.MethodName) prog_1_method_5_code (5 : Nat) (Option.some Jvm.ClassFile.FieldType.boolean)).before args0 about1 = true := code_word (m := ⟨2, 4⟩) (meth := k2m4) (c := k2c4) (by decide +kernel) rfl rfl rfl (by decide +kernel)
set_option maxRecDepth 65536 in
theorem w_c19 : (Jvm.Cond.code ({ cls := "PageCompactorY", name := "mappedFrame", desc := "(II)I" } : Jvm.MethodName) prog_1_method_23_code (5 : Nat) (Option.some Jvm.ClassFile.FieldType.int)).before args0 about1 = true := code_word (m := ⟨2, 15⟩) (meth := k2m15) (c := k2c15) (by decide +kernel) rfl rfl rfl (by decide +kernel)
set_option maxRecDepth 65536 in
theorem w_c20 : (Jvm.Cond.code ({ cls := "PageCompactorY", name := "read", desc := "(II)I" } : Jvm.MethodName) prog_1_method_6_code (4 : Nat) (Option.some Jvm.ClassFile.FieldType.int)).before args0 about1 = true := code_word (m := ⟨2, 5⟩) (meth := k2m5) (c := k2c5) (by decide +kernel) rfl rfl rfl (by decide +kernel)
set_option maxRecDepth 65536 in
theorem w_c21 : (Jvm.Cond.code ({ cls := "PageCompactorY", name := "unmap", desc := "(II)I" } : Jvm.MethodName) prog_1_method_4_code (5 : Nat) (Option.some Jvm.ClassFile.FieldType.int)).before args0 about1 = true := code_word (m := ⟨2, 3⟩) (meth := k2m3) (c := k2c3) (by decide +kernel) rfl rfl rfl (by decide +kernel)
set_option maxRecDepth 65536 in
theorem w_c22 : (Jvm.Cond.code ({ cls := "PageCompactorY", name := "detachPage", desc := "(I)I" } : Jvm.MethodName) prog_1_method_30_code (3 : Nat) (Option.some Jvm.ClassFile.FieldType.int)).before args0 about1 = true := code_word (m := ⟨2, 20⟩) (meth := k2m20) (c := k2c20) (by decide +kernel) rfl rfl rfl (by decide +kernel)
set_option maxRecDepth 65536 in
theorem w_c23 : (Jvm.Cond.code ({ cls := "PageCompactorY", name := "rmapUnlink", desc := "(I)I" } : Jvm.MethodName) prog_1_method_32_code (5 : Nat) (Option.some Jvm.ClassFile.FieldType.int)).before args0 about1 = true := code_word (m := ⟨2, 22⟩) (meth := k2m22) (c := k2c22) (by decide +kernel) rfl rfl rfl (by decide +kernel)
set_option maxRecDepth 65536 in
theorem w_c24 : (Jvm.Cond.code ({ cls := "PageCompactorY", name := "frameState", desc := "(I)I" } : Jvm.MethodName) prog_1_method_13_code (2 : Nat) (Option.some Jvm.ClassFile.FieldType.int)).before args0 about1 = true := code_word (m := ⟨2, 6⟩) (meth := k2m6) (c := k2c6) (by decide +kernel) rfl rfl rfl (by decide +kernel)
set_option maxRecDepth 65536 in
theorem w_c25 : (Jvm.Cond.code ({ cls := "PageCompactorY", name := "frameValue", desc := "(I)I" } : Jvm.MethodName) prog_1_method_14_code (3 : Nat) (Option.some Jvm.ClassFile.FieldType.int)).before args0 about1 = true := code_word (m := ⟨2, 7⟩) (meth := k2m7) (c := k2c7) (by decide +kernel) rfl rfl rfl (by decide +kernel)
set_option maxRecDepth 65536 in
theorem w_c26 : (Jvm.Cond.code ({ cls := "PageCompactorY", name := "freeCount", desc := "()I" } : Jvm.MethodName) prog_1_method_16_code (1 : Nat) (Option.some Jvm.ClassFile.FieldType.int)).before args0 about1 = true := code_word (m := ⟨2, 9⟩) (meth := k2m9) (c := k2c9) (by decide +kernel) rfl rfl rfl (by decide +kernel)
set_option maxRecDepth 65536 in
theorem w_c27 : (Jvm.Cond.code ({ cls := "PageCompactorY", name := "bitCount", desc := "(J)I" } : Jvm.MethodName) prog_1_method_46_code (5 : Nat) (Option.some Jvm.ClassFile.FieldType.int)).before args0 about1 = true := code_word (m := ⟨2, 26⟩) (meth := k2m26) (c := k2c26) (by decide +kernel) rfl rfl rfl (by decide +kernel)
set_option maxRecDepth 65536 in
theorem w_c28 : (Jvm.Cond.code ({ cls := "PageCompactorY", name := "freeFrame", desc := "(I)V" } : Jvm.MethodName) prog_1_method_26_code (2 : Nat) (Option.none : Option Jvm.ClassFile.FieldType)).before args0 about1 = true := code_word (m := ⟨2, 18⟩) (meth := k2m18) (c := k2c18) (by decide +kernel) rfl rfl rfl (by decide +kernel)
def codes1 : List Jvm.Cond := [Jvm.Cond.code x code maxLocals ret, Jvm.Cond.code ({ cls := "PageCompactorY", name := "<init>", desc := "(II)V" } : Jvm.MethodName) prog_1_method_1_code (3 : Nat) (Option.none : Option Jvm.ClassFile.FieldType), Jvm.Cond.code ({ cls := "java/lang/Object", name := "<init>", desc := "()V" } : Jvm.MethodName) object_method_1_code (1 : Nat) (Option.none : Option Jvm.ClassFile.FieldType), Jvm.Cond.code ({ cls := "PageCompactorY", name := "clampInt", desc := "(III)I" } : Jvm.MethodName) prog_1_method_18_code (4 : Nat) (Option.some Jvm.ClassFile.FieldType.int), Jvm.Cond.code ({ cls := "PageCompactorY", name := "resetAll", desc := "()V" } : Jvm.MethodName) prog_1_method_24_code (2 : Nat) (Option.none : Option Jvm.ClassFile.FieldType), Jvm.Cond.code ({ cls := "PageCompactorY", name := "lowMask", desc := "(I)J" } : Jvm.MethodName) prog_1_method_42_code (2 : Nat) (Option.some Jvm.ClassFile.FieldType.long), Jvm.Cond.code ({ cls := "PageCompactorY", name := "mapNew", desc := "(III)I" } : Jvm.MethodName) prog_1_method_2_code (7 : Nat) (Option.some Jvm.ClassFile.FieldType.int), Jvm.Cond.code ({ cls := "PageCompactorY", name := "checkTarget", desc := "(II)I" } : Jvm.MethodName) prog_1_method_22_code (4 : Nat) (Option.some Jvm.ClassFile.FieldType.int), Jvm.Cond.code ({ cls := "PageCompactorY", name := "pageInRange", desc := "(II)Z" } : Jvm.MethodName) prog_1_method_19_code (3 : Nat) (Option.some Jvm.ClassFile.FieldType.boolean), Jvm.Cond.code ({ cls := "PageCompactorY", name := "slotOf", desc := "(II)I" } : Jvm.MethodName) prog_1_method_21_code (3 : Nat) (Option.some Jvm.ClassFile.FieldType.int), Jvm.Cond.code ({ cls := "PageCompactorY", name := "lowestBit", desc := "(J)I" } : Jvm.MethodName) prog_1_method_44_code (6 : Nat) (Option.some Jvm.ClassFile.FieldType.int), Jvm.Cond.code ({ cls := "PageCompactorY", name := "frameInRange", desc := "(I)Z" } : Jvm.MethodName) prog_1_method_20_code (2 : Nat) (Option.some Jvm.ClassFile.FieldType.boolean), Jvm.Cond.code ({ cls := "PageCompactorY", name := "enterState", desc := "(II)V" } : Jvm.MethodName) prog_1_method_25_code (5 : Nat) (Option.none : Option Jvm.ClassFile.FieldType), Jvm.Cond.code ({ cls := "PageCompactorY", name := "bitOf", desc := "(I)J" } : Jvm.MethodName) prog_1_method_41_code (2 : Nat) (Option.some Jvm.ClassFile.FieldType.long), Jvm.Cond.code ({ cls := "PageCompactorY", name := "attachPage", desc := "(II)V" } : Jvm.MethodName) prog_1_method_29_code (3 : Nat) (Option.none : Option Jvm.ClassFile.FieldType), Jvm.Cond.code ({ cls := "PageCompactorY", name := "rmapLink", desc := "(II)V" } : Jvm.MethodName) prog_1_method_31_code (4 : Nat) (Option.none : Option Jvm.ClassFile.FieldType), Jvm.Cond.code ({ cls := "PageCompactorY", name := "share", desc := "(IIII)I" } : Jvm.MethodName) prog_1_method_3_code (8 : Nat) (Option.some Jvm.ClassFile.FieldType.int), Jvm.Cond.code ({ cls := "PageCompactorY", name := "mapCount", desc := "(I)I" } : Jvm.MethodName) prog_1_method_15_code (2 : Nat) (Option.some Jvm.ClassFile.FieldType.int), Jvm.Cond.code ({ cls := "PageCompactorY", name := "write", desc := "(III)Z" } : Jvm.MethodName) prog_1_method_5_code (5 : Nat) (Option.some Jvm.ClassFile.FieldType.boolean), Jvm.Cond.code ({ cls := "PageCompactorY", name := "mappedFrame", desc := "(II)I" } : Jvm.MethodName) prog_1_method_23_code (5 : Nat) (Option.some Jvm.ClassFile.FieldType.int), Jvm.Cond.code ({ cls := "PageCompactorY", name := "read", desc := "(II)I" } : Jvm.MethodName) prog_1_method_6_code (4 : Nat) (Option.some Jvm.ClassFile.FieldType.int), Jvm.Cond.code ({ cls := "PageCompactorY", name := "unmap", desc := "(II)I" } : Jvm.MethodName) prog_1_method_4_code (5 : Nat) (Option.some Jvm.ClassFile.FieldType.int), Jvm.Cond.code ({ cls := "PageCompactorY", name := "detachPage", desc := "(I)I" } : Jvm.MethodName) prog_1_method_30_code (3 : Nat) (Option.some Jvm.ClassFile.FieldType.int), Jvm.Cond.code ({ cls := "PageCompactorY", name := "rmapUnlink", desc := "(I)I" } : Jvm.MethodName) prog_1_method_32_code (5 : Nat) (Option.some Jvm.ClassFile.FieldType.int), Jvm.Cond.code ({ cls := "PageCompactorY", name := "frameState", desc := "(I)I" } : Jvm.MethodName) prog_1_method_13_code (2 : Nat) (Option.some Jvm.ClassFile.FieldType.int), Jvm.Cond.code ({ cls := "PageCompactorY", name := "frameValue", desc := "(I)I" } : Jvm.MethodName) prog_1_method_14_code (3 : Nat) (Option.some Jvm.ClassFile.FieldType.int), Jvm.Cond.code ({ cls := "PageCompactorY", name := "freeCount", desc := "()I" } : Jvm.MethodName) prog_1_method_16_code (1 : Nat) (Option.some Jvm.ClassFile.FieldType.int), Jvm.Cond.code ({ cls := "PageCompactorY", name := "bitCount", desc := "(J)I" } : Jvm.MethodName) prog_1_method_46_code (5 : Nat) (Option.some Jvm.ClassFile.FieldType.int), Jvm.Cond.code ({ cls := "PageCompactorY", name := "freeFrame", desc := "(I)V" } : Jvm.MethodName) prog_1_method_26_code (2 : Nat) (Option.none : Option Jvm.ClassFile.FieldType)]
set_option maxRecDepth 65536 in
theorem codes_eq : words1.filter isCode = codes1 := rfl
theorem w_codes : ∀ c ∈ words1.filter isCode, c.before args0 about1 = true := by
  rw [codes_eq]
  intro c hc
  simp only [codes1, List.mem_cons, List.not_mem_nil, or_false] at hc
  rcases hc with rfl | rfl | rfl | rfl | rfl | rfl | rfl | rfl | rfl | rfl | rfl | rfl | rfl | rfl | rfl | rfl | rfl | rfl | rfl | rfl | rfl | rfl | rfl | rfl | rfl | rfl | rfl | rfl | rfl
  · exact w_c0
  · exact w_c1
  · exact w_c2
  · exact w_c3
  · exact w_c4
  · exact w_c5
  · exact w_c6
  · exact w_c7
  · exact w_c8
  · exact w_c9
  · exact w_c10
  · exact w_c11
  · exact w_c12
  · exact w_c13
  · exact w_c14
  · exact w_c15
  · exact w_c16
  · exact w_c17
  · exact w_c18
  · exact w_c19
  · exact w_c20
  · exact w_c21
  · exact w_c22
  · exact w_c23
  · exact w_c24
  · exact w_c25
  · exact w_c26
  · exact w_c27
  · exact w_c28
set_option maxRecDepth 65536 in
theorem w_t1 : (words1.take 24).all (fun c => isCode c || c.before args0 about1) = true := by decide +kernel
set_option maxRecDepth 65536 in
theorem w_t2 : ((words1.drop 24).take 24).all (fun c => isCode c || c.before args0 about1) = true := by decide +kernel
set_option maxRecDepth 65536 in
theorem w_t3 : (((words1.drop 24).drop 24).take 24).all (fun c => isCode c || c.before args0 about1) = true := by decide +kernel
set_option maxRecDepth 65536 in
theorem w_t4 : ((((words1.drop 24).drop 24).drop 24).take 24).all (fun c => isCode c || c.before args0 about1) = true := by decide +kernel
set_option maxRecDepth 65536 in
theorem w_t5 : (((((words1.drop 24).drop 24).drop 24).drop 24).take 24).all (fun c => isCode c || c.before args0 about1) = true := by decide +kernel
set_option maxRecDepth 65536 in
theorem w_t6 : ((((((words1.drop 24).drop 24).drop 24).drop 24).drop 24).take 24).all (fun c => isCode c || c.before args0 about1) = true := by decide +kernel
set_option maxRecDepth 65536 in
theorem w_t7 : ((((((words1.drop 24).drop 24).drop 24).drop 24).drop 24).drop 24).all (fun c => isCode c || c.before args0 about1) = true := by decide +kernel
theorem w_tables : (allAtoms (Jvm.Cond.code x code maxLocals ret :: tables_1)).before args0 about1 = true := by
  rw [allAtoms_all]
  show words1.all (fun c => c.before args0 about1) = true
  refine all_split ?_ w_codes
  rw [← List.take_append_drop 24 words1, List.all_append, w_t1, ← List.take_append_drop 24 (words1.drop 24), List.all_append, w_t2, ← List.take_append_drop 24 ((words1.drop 24).drop 24), List.all_append, w_t3, ← List.take_append_drop 24 (((words1.drop 24).drop 24).drop 24), List.all_append, w_t4, ← List.take_append_drop 24 ((((words1.drop 24).drop 24).drop 24).drop 24), List.all_append, w_t5, ← List.take_append_drop 24 (((((words1.drop 24).drop 24).drop 24).drop 24).drop 24), List.all_append, w_t6, w_t7]
  rfl
set_option maxRecDepth 65536 in
theorem w_case : (Jvm.Cond.and given_1 narrow_1).before args0 about1 = true := by decide +kernel
theorem w_applies : (headSpec (Jvm.Cond.code x code maxLocals ret :: tables_1) room_1).applies x e0.platform about1 = true :=
  (Spec.applies_iff w_frames).mpr ⟨w_running, w_runnable, w_alone, w_named, w_hears, w_ripe, w_room, w_tables⟩
theorem atStart : AtStart classFile x code maxLocals ret World_1 tables_1 room_1 Calls_1 rest_1 Pre_1 launch0 p0 e0 about1 theMethod args0 below0 :=
  ⟨lists_1, trivial, launch0.admits_env _ _ _, launch0.least_env, fairChoices_fair.cas, fairChoices_fair.clock, w_frames, w_args, w_heap, w_applies, trivial, trivial, w_case⟩
end start1
theorem witness_1 : WitnessClaimed_1 := ⟨start1.p0, start1.e0, start1.about1, start1.theMethod, start1.args0, start1.below0, start1.atStart⟩
end Jvm.Pilot.@@N@@
