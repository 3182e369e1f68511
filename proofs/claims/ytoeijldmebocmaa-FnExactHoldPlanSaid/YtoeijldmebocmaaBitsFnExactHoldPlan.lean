/- What the printed functions tell that the law FnExactHoldPlan reaches, over numbers and lists alone. -/
import Derived.Test.YtoeijldmebocmaaPx
import Derived.Test.YtoeijldmebocmaaTell
namespace Go.Proofs.Ytoeijldmebocmaa.BFnExactHoldPlan
open Go Go.RowKit Go.Proofs.Ytoeijldmebocmaa.Tell Go.Proofs.Ytoeijldmebocmaa.P Go.Proofs.YtoeijldmebocmaaW.PrintWords Go.Proofs.YtoeijldmebocmaaW.PrintLast Go.Proofs.YtoeijldmebocmaaW.PrintMore
set_option linter.unusedVariables false
set_option linter.unusedSimpArgs false

theorem toByteS_loop (l : List Int) (hl : l.length ≤ 1099511627776) (d : Nat) : ∀ i : Nat, l.length - i = d → i ≤ l.length →
    Ev (fun k => laws_toByteS.l0 k l (l.take i ++ List.replicate (l.length - i) 0) (i : Int)) l := by
  induction d with
  | zero =>
    intro i hd hi
    obtain rfl : i = l.length := by omega
    refine Ev.step (f := fun _ => some l) (fun k => ?_) (Ev.now _)
    simp only [laws_toByteS.l0]
    rw [if_neg (by omega)]; simp
  | succ d ih =>
    intro i hd hi
    refine Ev.step (fun k => ?_) (ih (i + 1) (by omega) (by omega))
    simp only [laws_toByteS.l0]
    have w : wrap64 ((i : Int) + 1) = ((i + 1 : Nat) : Int) := by unfold wrap64; omega
    have hlt : i < l.length := by omega
    have hll : (l.take i ++ List.replicate (l.length - i) (0 : Int)).length = l.length := by rw [List.length_append, List.length_take, List.length_replicate]; omega
    have hr : rd l (i : Int) = l[i] := by unfold rd; simp [List.getD_eq_getElem?_getD, hlt]
    have hs : (l.take i ++ List.replicate (l.length - i) (0 : Int)).set i l[i] = l.take (i + 1) ++ List.replicate (l.length - (i + 1)) 0 := by
      obtain ⟨m, hm⟩ : ∃ m, l.length - i = m + 1 := ⟨l.length - i - 1, by omega⟩
      have hm2 : l.length - (i + 1) = m := by omega
      rw [hm, hm2, List.set_append_right _ _ (by rw [List.length_take]; omega), List.length_take, Nat.min_eq_left (by omega), Nat.sub_self, List.replicate_succ, List.set_cons_zero, List.take_succ_eq_append_getElem hlt, List.append_assoc]
      rfl
    rw [if_pos (by omega), if_pos (by omega), if_pos (by rw [hll]; omega), w, Int.toNat_natCast, hr, hs]
theorem toByteS_ev (l : List Int) (hl : l.length ≤ 1099511627776) : Ev (fun k => laws_toByteS.f k l) l := by
  unfold laws_toByteS.f
  simp only [if_pos (show 0 ≤ (l.length : Int) by omega), Int.toNat_natCast, if_pos (show l.length ≤ 281474976710656 by omega)]
  have h := toByteS_loop l hl l.length 0 (by omega) (by omega)
  simpa using h

theorem eqByteS_loop (l : List Int) (hl : l.length ≤ 1099511627776) (d : Nat) : ∀ i : Nat, l.length - i = d → i ≤ l.length → Ev (fun k => laws_eqByteS.l0 k l l (i : Int)) true := by
  induction d with
  | zero =>
    intro i hd hi
    refine Ev.step (f := fun _ => some true) (fun k => ?_) (Ev.now _)
    simp only [laws_eqByteS.l0]
    rw [if_neg (by omega)]
  | succ d ih =>
    intro i hd hi
    refine Ev.step (fun k => ?_) (ih (i + 1) (by omega) (by omega))
    simp only [laws_eqByteS.l0]
    have w : wrap64 ((i : Int) + 1) = ((i + 1 : Nat) : Int) := by unfold wrap64; omega
    rw [if_pos (by omega), if_pos (by omega), if_pos (by omega), if_pos trivial, w]
theorem eqByteS_self (l : List Int) (hl : l.length ≤ 1099511627776) : Ev (fun k => laws_eqByteS.f k l l) true := by
  unfold laws_eqByteS.f
  simp only [if_true]
  exact eqByteS_loop l hl l.length 0 (by omega) (by omega)

/-- The marks of n bytes. -/
def marks (n : Nat) : List Int := (List.range n).map fun (i : Nat) => ((i : Int) + 1) % 256
theorem marks_length (n : Nat) : (marks n).length = n := by simp [marks]
theorem mark_loop (l : List Int) (hl : l.length ≤ 1099511627776) (d : Nat) : ∀ i : Nat, l.length - i = d → i ≤ l.length →
    Ev (fun k => laws_markByteS.l0 k (marks i ++ l.drop i) ((i : Int) + 1) (i : Int)) ((l.length : Int) + 1, marks l.length) := by
  induction d with
  | zero =>
    intro i hd hi
    obtain rfl : i = l.length := by omega
    refine Ev.step (f := fun _ => some ((l.length : Int) + 1, marks l.length)) (fun k => ?_) (Ev.now _)
    simp only [laws_markByteS.l0]
    rw [if_neg (by simp [marks_length])]; simp
  | succ d ih =>
    intro i hd hi
    refine Ev.step (fun k => ?_) (ih (i + 1) (by omega) (by omega))
    simp only [laws_markByteS.l0]
    have w : wrap64 ((i : Int) + 1) = ((i + 1 : Nat) : Int) := by unfold wrap64; omega
    have w2 : wrap64 ((i : Int) + 1 + 1) = (((i + 1 : Nat) : Int)) + 1 := by unfold wrap64; omega
    have hlt : i < l.length := by omega
    have hs : (marks i ++ l.drop i).set i (((i : Int) + 1) % 256) = marks (i + 1) ++ l.drop (i + 1) := by
      rw [List.set_append_right _ _ (by rw [marks_length]; omega), marks_length, Nat.sub_self, List.drop_eq_getElem_cons hlt, List.set_cons_zero]
      unfold marks
      rw [List.range_succ, List.map_append, List.append_assoc]; rfl
    rw [if_pos (by rw [List.length_append, marks_length, List.length_drop]; omega), if_pos (by omega), w, w2, Int.toNat_natCast, hs]
theorem mark_ev (l : List Int) (hl : l.length ≤ 1099511627776) : Ev (fun k => laws_markByteS.f k l 1) ((l.length : Int) + 1, marks l.length) := by
  unfold laws_markByteS.f
  have h := mark_loop l hl l.length 0 (by omega) (by omega)
  simpa [marks] using h

theorem szByteS_tells (l : List Int) (a : Int) (ha0 : 0 ≤ a) (ha : a ≤ 1048576) (hl : l.length ≤ maxLen) : ∃ r, laws_szByteS.f l a = some r ∧ (0 ≤ r → (l.length : Int) ≤ a ∧ r = a - l.length) := by
  unfold maxLen at hl
  unfold laws_szByteS.f
  have w : wrap64 (a - (l.length : Int)) = a - l.length := wrap64_in (by omega) (by omega)
  rw [w]
  split
  · exact ⟨-1, rfl, fun h => by omega⟩
  · exact ⟨_, rfl, fun h => by omega⟩

/-- Whether a slot is good. -/
def good (m t : Int) (n : Nat) : Bool := decide (m = 165 ∧ t ≤ 2 ∧ n ≤ 20100)
/-- The slot that counts. -/
def now (m t : Int) (n : Nat) (m' t' : Int) (n' : Nat) : Int :=
  if good m t n = true ∧ good m' t' n' = true ∧ t' = (t + 1) % 256 % 3 then 1 else if good m t n = true then 0 else if good m' t' n' = true then 1 else -1
theorem l18Good_eq (m t : Int) (l : List Int) : spec_l18Good.f m t l = some (good m t l.length) := by
  unfold spec_l18Good.f good
  by_cases c0 : m = 165
  · rw [if_pos c0]
    by_cases c1 : t ≤ 2
    · rw [if_pos c1]; congr 1; rw [Bool.eq_iff_iff]; simp only [decide_eq_true_eq]; omega
    · rw [if_neg c1, decide_eq_false (by omega)]
  · rw [if_neg c0, decide_eq_false (by omega)]

theorem HoldSlot_good_eq (m t : Int) (l : List Int) : impl_HoldSlot_good.f m t l = some (good m t l.length) := l18Good_eq m t l

theorem spec_HoldSlotNow_ev (m t : Int) (l : List Int) (m' t' : Int) (l' : List Int) : Ev (fun k => spec_HoldSlotNow.f k m t l m' t' l') (now m t l.length m' t' l'.length) := by
  have j : ∀ x y z : Bool, Ev (fun k => spec_HoldSlotNow.j0 k x y z) (if z = true then 1 else if x = true then 0 else if y = true then 1 else -1) := by
    intro x y z
    refine Ev.step (f := fun _ => some _) (fun k => ?_) (Ev.now _)
    simp only [spec_HoldSlotNow.j0]
    cases x <;> cases y <;> cases z <;> rfl
  unfold spec_HoldSlotNow.f now
  simp only [l18Good_eq, Option.bind_some]
  cases good m t l.length <;> cases good m' t' l'.length
  · exact j false false false
  · exact j false true false
  · exact j true false false
  · have h := j true true (t' == (t + 1) % 256 % 3)
    by_cases c : t' = (t + 1) % 256 % 3
    · simpa [c] using h
    · simpa [c] using h

theorem impl_HoldSlotNow_ev (m t : Int) (l : List Int) (m' t' : Int) (l' : List Int) : Ev (fun k => impl_HoldSlotNow.f k m t l m' t' l') (now m t l.length m' t' l'.length) := by
  have j : ∀ x y z : Bool, Ev (fun k => impl_HoldSlotNow.j0 k x y z) (if z = true then 1 else if x = true then 0 else if y = true then 1 else -1) := by
    intro x y z
    refine Ev.step (f := fun _ => some _) (fun k => ?_) (Ev.now _)
    simp only [impl_HoldSlotNow.j0]
    cases x <;> cases y <;> cases z <;> rfl
  unfold impl_HoldSlotNow.f now
  simp only [HoldSlot_good_eq, Option.bind_some]
  cases good m t l.length <;> cases good m' t' l'.length
  · exact j false false false
  · exact j false true false
  · exact j true false false
  · have h := j true true (t' == (t + 1) % 256 % 3)
    by_cases c : t' = (t + 1) % 256 % 3
    · simpa [c] using h
    · simpa [c] using h

theorem toHoldRom_ev (m t : Int) (l : List Int) (m' t' : Int) (l' : List Int) (h : l.length ≤ 1099511627776) (h' : l'.length ≤ 1099511627776) : Ev (fun k => laws_toHoldRom.f k m t l m' t' l') (m, t, l, m', t', l') := by
  unfold laws_toHoldRom.f laws_toHoldSlot.f
  exact Ev.bind (Ev.bind (toByteS_ev l h) (Ev.now _)) (Ev.bind (Ev.bind (toByteS_ev l' h') (Ev.now _)) (Ev.now _))

theorem eqHoldRom_self (m t : Int) (l : List Int) (m' t' : Int) (l' : List Int) (h : l.length ≤ 1099511627776) (h' : l'.length ≤ 1099511627776) : Ev (fun k => laws_eqHoldRom.f k m t l m' t' l' m t l m' t' l') true := by
  have one : ∀ (m t : Int) (l : List Int), l.length ≤ 1099511627776 → Ev (fun k => laws_eqHoldSlot.f k m t l m t l) true := by
    intro m t l h
    unfold laws_eqHoldSlot.f
    simp only [if_true]
    exact Ev.bind (eqByteS_self l h) (Ev.now _)
  unfold laws_eqHoldRom.f
  refine Ev.bind (one m t l h) ?_
  simp only [if_true]
  exact Ev.bind (one m' t' l' h') (Ev.now _)

theorem szHoldRom_tells (m t : Int) (l : List Int) (m' t' : Int) (l' : List Int) (hl : l.length ≤ maxLen) (hl' : l'.length ≤ maxLen) : ∃ r, laws_szHoldRom.f m t l m' t' l' 1048576 = some r ∧ (0 ≤ r → l.length ≤ 1048576 ∧ l'.length ≤ 1048576) := by
  have one : ∀ (m t : Int) (l : List Int) (n : Int), 0 ≤ n → n ≤ 1048576 → l.length ≤ maxLen → ∃ r, laws_szHoldSlot.f m t l n = some r ∧ (0 ≤ r → (l.length : Int) ≤ n ∧ r = n - l.length) := by
    intro m t l n h0 h1 hl
    obtain ⟨r, hr, h⟩ := szByteS_tells l n h0 h1 hl
    unfold laws_szHoldSlot.f
    rw [hr, Option.bind_some]
    split
    · exact ⟨-1, rfl, fun h => by omega⟩
    · exact ⟨r, rfl, h⟩
  unfold laws_szHoldRom.f
  obtain ⟨r, hr, h⟩ := one m t l 1048576 (by decide) (by decide) hl
  rw [hr, Option.bind_some]
  by_cases c : r < 0
  · rw [if_pos c]; exact ⟨-1, rfl, fun h => by omega⟩
  · rw [if_neg c]
    obtain ⟨r', hr', h'⟩ := one m' t' l' r (by omega) (by omega) hl'
    rw [hr', Option.bind_some]
    by_cases c' : r' < 0
    · rw [if_pos c']; exact ⟨-1, rfl, fun h => by omega⟩
    · rw [if_neg c']; exact ⟨r', rfl, fun _ => by omega⟩

theorem mark_tells (n : Int) (hn : 0 ≤ n) (hn2 : n ≤ 1099511627776) (L : Nat) (hL : L ≤ 1099511627776) (d : Nat) : ∀ (i : Nat) (xs : List Int), xs.length = L → L - i = d → i ≤ L →
    Tells (fun k => laws_markByteS.l0 k xs (n + i) (i : Int)) (fun r => r.1 = n + L) := by
  induction d with
  | zero =>
    intro i xs hx hd hi
    obtain rfl : i = L := by omega
    refine Tells.step (f := fun _ => some (n + i, xs)) (fun k => ?_) (Tells.now rfl)
    simp only [laws_markByteS.l0]
    rw [if_neg (by omega)]
  | succ d ih =>
    intro i xs hx hd hi
    refine Tells.step (fun k => ?_) (ih (i + 1) (xs.set i ((n + i) % 256)) (by simpa using hx) (by omega) (by omega))
    simp only [laws_markByteS.l0]
    have w : wrap64 ((i : Int) + 1) = ((i + 1 : Nat) : Int) := by unfold wrap64; omega
    have w2 : wrap64 (n + (i : Int) + 1) = n + (((i + 1 : Nat) : Int)) := by unfold wrap64; omega
    rw [if_pos (by omega), if_pos (by omega), w, w2, Int.toNat_natCast]
theorem mark_from (n : Int) (hn : 0 ≤ n) (hn2 : n ≤ 1099511627776) (l : List Int) (hl : l.length ≤ 1099511627776) : Tells (fun k => laws_markByteS.f k l n) (fun r => r.1 = n + l.length) := by
  unfold laws_markByteS.f
  have h := mark_tells n hn hn2 l.length hl l.length 0 l rfl (by omega) (by omega)
  simpa using h
theorem markHoldSlot_tells (n : Int) (hn : 0 ≤ n) (hn2 : n ≤ 1099511627776) (m t : Int) (l : List Int) (hl : l.length ≤ 1099511627776) : Tells (fun k => laws_markHoldSlot.f k m t l n) (fun r => r.1 = n + l.length) := by
  unfold laws_markHoldSlot.f
  exact Tells.bind (mark_from n hn hn2 l hl) (fun a ha => Tells.now ha)
theorem markHoldRom_tells (m t : Int) (l : List Int) (m' t' : Int) (l' : List Int) (h : l.length ≤ 1048576) (h' : l'.length ≤ 1048576) : Tells (fun k => laws_markHoldRom.f k m t l m' t' l' 1) (fun r => 0 ≤ r.1 ∧ r.1 ≤ 4194304) := by
  unfold laws_markHoldRom.f
  refine Tells.bind (markHoldSlot_tells 1 (by decide) (by decide) m t l (by omega)) (fun a ha => ?_)
  refine Tells.bind (markHoldSlot_tells a.1 (by omega) (by omega) m' t' l' (by omega)) (fun b hb => ?_)
  exact Tells.now (by show 0 ≤ b.1 ∧ b.1 ≤ 4194304; omega)

theorem eqHoldWriteS_self (l : List S104) (hl : l.length ≤ 1099511627776) : Ev (fun k => laws_eqHoldWriteS.f k l l) true := by
  unfold laws_eqHoldWriteS.f
  simp only [if_true]
  refine all_loop (L := fun k i => laws_eqHoldWriteS.l0 k l l i) (n := l.length) ?_ ?_
  · refine Ev.step (f := fun _ => some true) (fun k => ?_) (Ev.now _)
    simp only [laws_eqHoldWriteS.l0]
    rw [if_neg (by omega)]
  · intro i hi h
    refine Ev.step (fun k => ?_) h
    simp only [laws_eqHoldWriteS.l0]
    have w : wrap64 ((i : Int) + 1) = ((i + 1 : Nat) : Int) := by unfold wrap64; omega
    rw [if_pos (by omega), if_pos (by omega), if_pos (by omega), w]
    simp only [laws_eqHoldWrite.f, if_true, Option.bind_some]

def markW (i : Nat) : S104 := ⟨3 * (i : Int) + 1, 3 * (i : Int) + 2, (3 * (i : Int) + 3) % 256⟩
def marksW (n : Nat) : List S104 := (List.range n).map markW
theorem marksW_length (n : Nat) : (marksW n).length = n := by simp [marksW]
theorem set_at {α : Type} (xs ys : List α) (y z : α) : (xs ++ y :: ys).set xs.length z = xs ++ z :: ys := by
  rw [List.set_append_right _ _ (Nat.le_refl _), Nat.sub_self, List.set_cons_zero]
theorem rd_at (xs ys : List S104) (y : S104) (i : Int) (hi : i = xs.length) : rd_T104 (xs ++ y :: ys) i = y := by
  subst hi
  unfold rd_T104
  rw [Int.toNat_natCast, List.getD_eq_getElem?_getD, List.getElem?_append_right (Nat.le_refl _), Nat.sub_self]
  rfl
theorem markW_loop (l : List S104) (hl : l.length ≤ 1099511627776) (d : Nat) : ∀ i : Nat, l.length - i = d → i ≤ l.length →
    Ev (fun k => laws_markHoldWriteS.l0 k (marksW i ++ l.drop i) (3 * (i : Int) + 1) (i : Int)) (3 * (l.length : Int) + 1, marksW l.length) := by
  induction d with
  | zero =>
    intro i hd hi
    obtain rfl : i = l.length := by omega
    refine Ev.step (f := fun _ => some (3 * (l.length : Int) + 1, marksW l.length)) (fun k => ?_) (Ev.now _)
    simp only [laws_markHoldWriteS.l0]
    rw [if_neg (by simp [marksW_length])]; simp
  | succ d ih =>
    intro i hd hi
    refine Ev.step (fun k => ?_) (ih (i + 1) (by omega) (by omega))
    simp only [laws_markHoldWriteS.l0]
    have w : wrap64 ((i : Int) + 1) = ((i + 1 : Nat) : Int) := by unfold wrap64; omega
    have w1 : wrap64 (3 * (i : Int) + 1 + 1) = 3 * (i : Int) + 2 := by unfold wrap64; omega
    have w2 : wrap64 (3 * (i : Int) + 2 + 1) = 3 * (i : Int) + 3 := by unfold wrap64; omega
    have w3 : wrap64 (3 * (i : Int) + 3 + 1) = 3 * ((i + 1 : Nat) : Int) + 1 := by unfold wrap64; omega
    have hlt : i < l.length := by omega
    have hm : (i : Int) = (marksW i).length := by rw [marksW_length]
    have hst : ∀ (ys : List S104) (y z : S104), (marksW i ++ y :: ys).set i z = marksW i ++ z :: ys := fun ys y z => by
      have := set_at (marksW i) ys y z
      rwa [marksW_length] at this
    have he : marksW i ++ markW i :: l.drop (i + 1) = marksW (i + 1) ++ l.drop (i + 1) := by
      unfold marksW
      rw [List.range_succ, List.map_append, List.append_assoc]; rfl
    rw [w, w1, w2, w3, List.drop_eq_getElem_cons hlt, if_pos (by rw [List.length_append, marksW_length, List.length_cons, List.length_drop]; omega), if_pos (by omega), Int.toNat_natCast, hst, Option.bind_some, hst, Option.bind_some, hst]
    simp only [rd_at _ _ _ _ hm]
    exact congrArg (fun z => laws_markHoldWriteS.l0 k z (3 * ((i + 1 : Nat) : Int) + 1) ((i + 1 : Nat) : Int)) he
theorem markW_ev (l : List S104) (hl : l.length ≤ 1099511627776) : Ev (fun k => laws_markHoldWriteS.f k l 1) (3 * (l.length : Int) + 1, marksW l.length) := by
  unfold laws_markHoldWriteS.f
  have h := markW_loop l hl l.length 0 (by omega) (by omega)
  simpa [marksW] using h

theorem heldW_loop (n : Nat) (hn : n ≤ 1099511627776) (d : Nat) : ∀ i : Nat, n - i = d → i ≤ n →
    Ev (fun k => laws_heldHoldWriteS.l0 k (marksW n) (3 * (i : Int) + 1) (i : Int)) (3 * (n : Int) + 1) := by
  induction d with
  | zero =>
    intro i hd hi
    obtain rfl : i = n := by omega
    refine Ev.step (f := fun _ => some (3 * (i : Int) + 1)) (fun k => ?_) (Ev.now _)
    simp only [laws_heldHoldWriteS.l0]
    rw [if_neg (by rw [marksW_length]; omega)]
  | succ d ih =>
    intro i hd hi
    refine Ev.step (fun k => ?_) (ih (i + 1) (by omega) (by omega))
    simp only [laws_heldHoldWriteS.l0]
    have w : wrap64 ((i : Int) + 1) = ((i + 1 : Nat) : Int) := by unfold wrap64; omega
    have w1 : wrap64 (3 * (i : Int) + 1 + 1) = 3 * (i : Int) + 2 := by unfold wrap64; omega
    have w2 : wrap64 (3 * (i : Int) + 2 + 1) = 3 * (i : Int) + 3 := by unfold wrap64; omega
    have w3 : wrap64 (3 * (i : Int) + 3 + 1) = 3 * ((i + 1 : Nat) : Int) + 1 := by unfold wrap64; omega
    have hr : rd_T104 (marksW n) (i : Int) = markW i := by
      unfold rd_T104 marksW
      rw [Int.toNat_natCast, List.getD_eq_getElem?_getD, List.getElem?_map, List.getElem?_range (by omega)]; rfl
    rw [if_pos (by rw [marksW_length]; omega), if_pos (by omega), hr, w, w1, w2, w3]
    simp only [markW, if_true]
theorem heldW_ev (n : Nat) (hn : n ≤ 1099511627776) : Ev (fun k => laws_heldHoldWriteS.f k (marksW n) 1) (3 * (n : Int) + 1) := by
  unfold laws_heldHoldWriteS.f
  have h := heldW_loop n hn n 0 (by omega) (by omega)
  simpa using h

/-- What HoldPlan answers for bytes that fit. -/
def puts (go_ : Int) (l : List Int) : List S104 := l.map fun b => ⟨4, go_, b⟩
def planTo (go_ turn nw : Int) (l : List Int) : List S104 := ([(⟨1, go_, 0⟩ : S104), ⟨3, go_, 0⟩] ++ puts go_ l) ++ [⟨2, go_, turn⟩, ⟨1, go_, 165⟩] ++ (if nw ≥ 0 then [⟨1, nw, 0⟩] else [])
theorem puts_take (go_ : Int) (l : List Int) (i : Nat) (h : i < l.length) : puts go_ (l.take i) ++ [⟨4, go_, l[i]⟩] = puts go_ (l.take (i + 1)) := by
  unfold puts
  rw [List.take_succ_eq_append_getElem h, List.map_append]; rfl
theorem puts_length (go_ : Int) (l : List Int) : (puts go_ l).length = l.length := by simp [puts]
theorem spec_plan_loop (go_ turn nw : Int) (l : List Int) (hl : l.length ≤ 1048576) (d : Nat) : ∀ i : Nat, l.length - i = d → i ≤ l.length →
    Ev (fun k => spec_HoldPlan.l0 k l nw go_ turn ([(⟨1, go_, 0⟩ : S104), ⟨3, go_, 0⟩] ++ puts go_ (l.take i)) (i : Int)) (planTo go_ turn nw l, true) := by
  induction d with
  | zero =>
    intro i hd hi
    obtain rfl : i = l.length := by omega
    refine Ev.step (f := fun _ => some (planTo go_ turn nw l, true)) (fun k => ?_) (Ev.now _)
    simp only [spec_HoldPlan.l0]
    rw [if_neg (by omega), List.take_length, Option.bind_some, if_pos (by simp [puts_length]; omega), Option.bind_some]
    unfold planTo
    by_cases c : nw ≥ 0
    · rw [if_pos c, if_pos (by simp [puts_length]; omega), if_pos c]
    · rw [if_neg c, if_neg c, List.append_nil]
  | succ d ih =>
    intro i hd hi
    refine Ev.step (fun k => ?_) (ih (i + 1) (by omega) (by omega))
    simp only [spec_HoldPlan.l0]
    have w : wrap64 ((i : Int) + 1) = ((i + 1 : Nat) : Int) := by unfold wrap64; omega
    have hlt : i < l.length := by omega
    have hr : rd l (i : Int) = l[i] := by unfold rd; simp [List.getD_eq_getElem?_getD, hlt]
    rw [if_pos (by omega), if_pos (by omega), if_pos (by simp [puts_length]; omega), w, hr, List.append_assoc, puts_take go_ l i hlt]
theorem impl_plan_loop (go_ turn nw : Int) (l : List Int) (hl : l.length ≤ 1048576) (d : Nat) : ∀ i : Nat, l.length - i = d → i ≤ l.length →
    Ev (fun k => impl_HoldPlan.l0 k go_ turn nw ([(⟨1, go_, 0⟩ : S104), ⟨3, go_, 0⟩] ++ puts go_ (l.take i)) l (l.length : Int) (i : Int)) (planTo go_ turn nw l, true) := by
  induction d with
  | zero =>
    intro i hd hi
    obtain rfl : i = l.length := by omega
    refine Ev.step (f := fun _ => some (planTo go_ turn nw l, true)) (fun k => ?_) (Ev.now _)
    simp only [impl_HoldPlan.l0]
    rw [if_neg (by omega), List.take_length, Option.bind_some, if_pos (by simp [puts_length]; omega), Option.bind_some]
    unfold planTo
    by_cases c : nw ≥ 0
    · rw [if_pos c, if_pos (by simp [puts_length]; omega), if_pos c]
    · rw [if_neg c, if_neg c, List.append_nil]
  | succ d ih =>
    intro i hd hi
    refine Ev.step (fun k => ?_) (ih (i + 1) (by omega) (by omega))
    simp only [impl_HoldPlan.l0]
    have w : wrap64 ((i : Int) + 1) = ((i + 1 : Nat) : Int) := by unfold wrap64; omega
    have hlt : i < l.length := by omega
    have hr : rd l (i : Int) = l[i] := by unfold rd; simp [List.getD_eq_getElem?_getD, hlt]
    rw [if_pos (by omega), if_pos (by omega), if_pos (by omega), if_pos (by simp [puts_length]; omega), w, hr, List.append_assoc, puts_take go_ l i hlt]
/-- What HoldPlan answers. -/
def plan (m t : Int) (l : List Int) (m' t' : Int) (l' : List Int) (b : List Int) : List S104 × Bool :=
  if (b.length : Int) > 20100 then ([], false) else (planTo (if now m t l.length m' t' l'.length = 0 then 1 else 0) (if now m t l.length m' t' l'.length = 0 then (t + 1) % 256 % 3 else if now m t l.length m' t' l'.length = 1 then (t' + 1) % 256 % 3 else 0) (now m t l.length m' t' l'.length) b, true)
theorem now_range (m t : Int) (n : Nat) (m' t' : Int) (n' : Nat) : now m t n m' t' n' = 1 ∨ now m t n m' t' n' = 0 ∨ now m t n m' t' n' = -1 := by
  unfold now
  split
  · exact .inl rfl
  · split
    · exact .inr (.inl rfl)
    · split
      · exact .inl rfl
      · exact .inr (.inr rfl)
theorem spec_plan (m t : Int) (l : List Int) (m' t' : Int) (l' : List Int) (b : List Int) (hb : b.length ≤ 1048576) : Ev (fun k => spec_HoldPlan.f k m t l m' t' l' b) (plan m t l m' t' l' b) := by
  unfold spec_HoldPlan.f plan
  by_cases c : (b.length : Int) > 20100
  · simp only [if_pos c]; exact Ev.now _
  · simp only [if_neg c]
    refine Ev.bind (spec_HoldSlotNow_ev m t l m' t' l') ?_
    have j1 : ∀ nw go_ turn : Int, Ev (fun k => spec_HoldPlan.j1 k b nw go_ turn) (planTo go_ turn nw b, true) := fun nw go_ turn => by
      refine Ev.step (fun k => by simp only [spec_HoldPlan.j1]; rfl) ?_
      have h := spec_plan_loop go_ turn nw b hb _ 0 rfl (by omega)
      simpa [puts] using h
    generalize hn : now m t l.length m' t' l'.length = nw
    rcases (by rw [← hn]; exact now_range m t l.length m' t' l'.length : nw = 1 ∨ nw = 0 ∨ nw = -1) with rfl | rfl | rfl
    · exact Ev.step (fun k => by simp only [spec_HoldPlan.j0]; rfl) (j1 1 0 _)
    · exact Ev.step (fun k => by simp only [spec_HoldPlan.j0]; rfl) (j1 0 1 _)
    · exact Ev.step (fun k => by simp only [spec_HoldPlan.j0]; rfl) (j1 (-1) 0 0)
theorem impl_plan (m t : Int) (l : List Int) (m' t' : Int) (l' : List Int) (b : List Int) (hb : b.length ≤ 1048576) : Ev (fun k => impl_HoldPlan.f k m t l m' t' l' b) (plan m t l m' t' l' b) := by
  unfold impl_HoldPlan.f plan
  by_cases c : (b.length : Int) > 20100
  · simp only [if_pos c]; exact Ev.now _
  · simp only [if_neg c]
    refine Ev.bind (impl_HoldSlotNow_ev m t l m' t' l') ?_
    have j1 : ∀ nw go_ turn : Int, Ev (fun k => impl_HoldPlan.j0 k b go_ turn nw) (planTo go_ turn nw b, true) := fun nw go_ turn => by
      refine Ev.step (fun k => by simp only [impl_HoldPlan.j0]; rfl) ?_
      have h := impl_plan_loop go_ turn nw b hb _ 0 rfl (by omega)
      simpa [puts] using h
    generalize hn : now m t l.length m' t' l'.length = nw
    rcases (by rw [← hn]; exact now_range m t l.length m' t' l'.length : nw = 1 ∨ nw = 0 ∨ nw = -1) with rfl | rfl | rfl
    · show Ev _ (planTo 0 ((t' + 1) % 256 % 3) 1 b, true)
      exact Ev.congr (fun k => by rw [if_pos (by decide), if_neg (by decide), show wrap64 (1 - 1) = 0 by unfold wrap64; omega]) (j1 1 0 _)
    · show Ev _ (planTo 1 ((t + 1) % 256 % 3) 0 b, true)
      exact Ev.congr (fun k => by rw [if_pos (by decide), if_pos rfl, show wrap64 (1 - 0) = 1 by unfold wrap64; omega]) (j1 0 1 _)
    · exact Ev.congr (fun k => by rw [if_neg (by decide)]) (j1 (-1) 0 0)
theorem plan_length (m t : Int) (l : List Int) (m' t' : Int) (l' : List Int) (b : List Int) : (plan m t l m' t' l' b).1.length ≤ 1048576 := by
  unfold plan
  split
  · simp
  · unfold planTo
    simp only [List.length_append, puts_length, List.length_cons, List.length_nil]
    have : (if now m t l.length m' t' l'.length ≥ 0 then [(⟨1, now m t l.length m' t' l'.length, 0⟩ : S104)] else []).length ≤ 1 := by split <;> simp
    omega
theorem holds (m t : Int) (l : List Int) (m' t' : Int) (l' : List Int) (hl : l.length ≤ maxLen) (hl' : l'.length ≤ maxLen) (b : List Int) : ∃ k, laws_FnExactHoldPlan.f k m t l m' t' l' b = some true := by
  refine Tells.rounds ?_
  unfold laws_FnExactHoldPlan.f
  by_cases cb : (b.length : Int) > 1048576
  · simp only [if_pos cb]; exact Tells.now rfl
  · simp only [if_neg cb]
    obtain ⟨r, hr, h⟩ := szHoldRom_tells m t l m' t' l' hl hl'
    simp only [hr, Option.bind_some]
    by_cases c0 : r < 0
    · simp only [if_pos c0]; exact Tells.now rfl
    · simp only [if_neg c0]
      obtain ⟨h1, h2⟩ := h (by omega)
      have hto := toHoldRom_ev m t l m' t' l' (by omega) (by omega)
      have hb := toByteS_ev b (by omega)
      have hbe := eqByteS_self b (by omega)
      have hp : (plan m t l m' t' l' b).1.length ≤ 1099511627776 := Nat.le_trans (plan_length m t l m' t' l' b) (by decide)
      have hsp := spec_plan m t l m' t' l' b (by omega)
      have him := impl_plan m t l m' t' l' b (by omega)
      refine Tells.bindEv hto ?_
      refine Tells.bindEv hb ?_
      refine Tells.bindEv hsp ?_
      refine Tells.bindEv hto ?_
      refine Tells.bindEv hb ?_
      refine Tells.bindEv him ?_
      refine Tells.bindEv (eqHoldWriteS_self _ hp) ?_
      simp only [if_true]
      refine Tells.step (fun k => by simp only [laws_FnExactHoldPlan.j0, bne_self_eq_false]; rfl) ?_
      refine Tells.bindEv hto ?_
      refine Tells.bindEv (eqHoldRom_self m t l m' t' l' (by omega) (by omega)) ?_
      simp only [if_true]
      refine Tells.bindEv hb ?_
      refine Tells.bindEv hbe ?_
      simp only [if_true]
      refine Tells.bind (markHoldRom_tells m t l m' t' l' h1 h2) (fun a ha => ?_)
      refine Tells.bind (mark_from a.1 ha.1 (by omega) b (by omega)) (fun a2 ha2 => ?_)
      simp only [if_neg (show ¬ (a2.1 < 0) by omega)]
      refine Tells.bindEv (eqHoldWriteS_self _ hp) ?_
      simp only [if_true, bne_self_eq_false]
      refine Tells.step (fun k => by simp only [laws_FnExactHoldPlan.j1]; rfl) ?_
      refine Tells.bindEv (markW_ev _ hp) ?_
      refine Tells.bindEv (heldW_ev _ hp) ?_
      simp only [if_neg (show ¬ (3 * ((plan m t l m' t' l' b).1.length : Int) + 1 < 0) by omega), if_true]
      refine Tells.bindEv hto ?_
      refine Tells.bindEv hb ?_
      refine Tells.bindEv him ?_
      refine Tells.bindEv (eqHoldWriteS_self _ hp) ?_
      simp only [if_true, bne_self_eq_false]
      refine Tells.step (fun k => by simp only [laws_FnExactHoldPlan.j2]; rfl) ?_
      refine Tells.bindEv (heldW_ev _ hp) ?_
      simp only [if_neg (show ¬ (3 * ((plan m t l m' t' l' b).1.length : Int) + 1 < 0) by omega), if_true]
      exact Tells.now rfl

end Go.Proofs.Ytoeijldmebocmaa.BFnExactHoldPlan
