/- What the printed functions tell that the law FnExactHoldSlotNow reaches, over numbers and lists alone. -/
import Derived.Test.YtoeijldmebocmaaFx1
import Derived.Test.YtoeijldmebocmaaFx15
import Derived.Test.YtoeijldmebocmaaFx16
import Derived.Test.YtoeijldmebocmaaFx17
import Derived.Test.YtoeijldmebocmaaFx18
import Derived.Test.YtoeijldmebocmaaFx8
import Derived.Test.YtoeijldmebocmaaTell
namespace Go.Proofs.Ytoeijldmebocmaa.BFnExactHoldSlotNow
open Go Go.RowKit Go.Proofs.Ytoeijldmebocmaa.Tell Go.Proofs.Ytoeijldmebocmaa.F Go.Proofs.YtoeijldmebocmaaW.PrintWords Go.Proofs.YtoeijldmebocmaaW.PrintLast Go.Proofs.YtoeijldmebocmaaW.PrintMore
set_option linter.unusedVariables false
set_option linter.unusedSimpArgs false

theorem toByteS_loop (l : List Int) (hl : l.length ≤ 1099511627776) (d : Nat) : ∀ i : Nat, l.length - i = d → i ≤ l.length →
    Ev (fun k => laws_toByteS.l0 k l (l.take i ++ List.replicate (l.length - i) 0) (i : Int)) l := by
  induction d with
  | zero =>
    intro i hd hi
    obtain rfl : i = l.length := by omega
    refine Ev.step (f := fun _ => some l) (fun k => ?_) (Ev.now _)
    simp only [laws_toByteS.l0]
    rw [if_neg (by omega)]; simp
  | succ d ih =>
    intro i hd hi
    refine Ev.step (fun k => ?_) (ih (i + 1) (by omega) (by omega))
    simp only [laws_toByteS.l0]
    have w : wrap64 ((i : Int) + 1) = ((i + 1 : Nat) : Int) := by unfold wrap64; omega
    have hlt : i < l.length := by omega
    have hll : (l.take i ++ List.replicate (l.length - i) (0 : Int)).length = l.length := by rw [List.length_append, List.length_take, List.length_replicate]; omega
    have hr : rd l (i : Int) = l[i] := by unfold rd; simp [List.getD_eq_getElem?_getD, hlt]
    have hs : (l.take i ++ List.replicate (l.length - i) (0 : Int)).set i l[i] = l.take (i + 1) ++ List.replicate (l.length - (i + 1)) 0 := by
      obtain ⟨m, hm⟩ : ∃ m, l.length - i = m + 1 := ⟨l.length - i - 1, by omega⟩
      have hm2 : l.length - (i + 1) = m := by omega
      rw [hm, hm2, List.set_append_right _ _ (by rw [List.length_take]; omega), List.length_take, Nat.min_eq_left (by omega), Nat.sub_self, List.replicate_succ, List.set_cons_zero, List.take_succ_eq_append_getElem hlt, List.append_assoc]
      rfl
    rw [if_pos (by omega), if_pos (by omega), if_pos (by rw [hll]; omega), w, Int.toNat_natCast, hr, hs]
theorem toByteS_ev (l : List Int) (hl : l.length ≤ 1099511627776) : Ev (fun k => laws_toByteS.f k l) l := by
  unfold laws_toByteS.f
  simp only [if_pos (show 0 ≤ (l.length : Int) by omega), Int.toNat_natCast, if_pos (show l.length ≤ 281474976710656 by omega)]
  have h := toByteS_loop l hl l.length 0 (by omega) (by omega)
  simpa using h

theorem eqByteS_loop (l : List Int) (hl : l.length ≤ 1099511627776) (d : Nat) : ∀ i : Nat, l.length - i = d → i ≤ l.length → Ev (fun k => laws_eqByteS.l0 k l l (i : Int)) true := by
  induction d with
  | zero =>
    intro i hd hi
    refine Ev.step (f := fun _ => some true) (fun k => ?_) (Ev.now _)
    simp only [laws_eqByteS.l0]
    rw [if_neg (by omega)]
  | succ d ih =>
    intro i hd hi
    refine Ev.step (fun k => ?_) (ih (i + 1) (by omega) (by omega))
    simp only [laws_eqByteS.l0]
    have w : wrap64 ((i : Int) + 1) = ((i + 1 : Nat) : Int) := by unfold wrap64; omega
    rw [if_pos (by omega), if_pos (by omega), if_pos (by omega), if_pos trivial, w]
theorem eqByteS_self (l : List Int) (hl : l.length ≤ 1099511627776) : Ev (fun k => laws_eqByteS.f k l l) true := by
  unfold laws_eqByteS.f
  simp only [if_true]
  exact eqByteS_loop l hl l.length 0 (by omega) (by omega)

theorem szByteS_tells (l : List Int) (a : Int) (ha0 : 0 ≤ a) (ha : a ≤ 1048576) (hl : l.length ≤ maxLen) : ∃ r, laws_szByteS.f l a = some r ∧ (0 ≤ r → (l.length : Int) ≤ a ∧ r = a - l.length) := by
  unfold maxLen at hl
  unfold laws_szByteS.f
  have w : wrap64 (a - (l.length : Int)) = a - l.length := wrap64_in (by omega) (by omega)
  rw [w]
  split
  · exact ⟨-1, rfl, fun h => by omega⟩
  · exact ⟨_, rfl, fun h => by omega⟩

/-- Whether a slot is good. -/
def good (m t : Int) (n : Nat) : Bool := decide (m = 165 ∧ t ≤ 2 ∧ n ≤ 20100)
/-- The slot that counts. -/
def now (m t : Int) (n : Nat) (m' t' : Int) (n' : Nat) : Int :=
  if good m t n = true ∧ good m' t' n' = true ∧ t' = (t + 1) % 256 % 3 then 1 else if good m t n = true then 0 else if good m' t' n' = true then 1 else -1
theorem l18Good_eq (m t : Int) (l : List Int) : spec_l18Good.f m t l = some (good m t l.length) := by
  unfold spec_l18Good.f good
  by_cases c0 : m = 165
  · rw [if_pos c0]
    by_cases c1 : t ≤ 2
    · rw [if_pos c1]; congr 1; rw [Bool.eq_iff_iff]; simp only [decide_eq_true_eq]; omega
    · rw [if_neg c1, decide_eq_false (by omega)]
  · rw [if_neg c0, decide_eq_false (by omega)]

theorem HoldSlot_good_eq (m t : Int) (l : List Int) : impl_HoldSlot_good.f m t l = some (good m t l.length) := l18Good_eq m t l

theorem spec_HoldSlotNow_ev (m t : Int) (l : List Int) (m' t' : Int) (l' : List Int) : Ev (fun k => spec_HoldSlotNow.f k m t l m' t' l') (now m t l.length m' t' l'.length) := by
  have j : ∀ x y z : Bool, Ev (fun k => spec_HoldSlotNow.j0 k x y z) (if z = true then 1 else if x = true then 0 else if y = true then 1 else -1) := by
    intro x y z
    refine Ev.step (f := fun _ => some _) (fun k => ?_) (Ev.now _)
    simp only [spec_HoldSlotNow.j0]
    cases x <;> cases y <;> cases z <;> rfl
  unfold spec_HoldSlotNow.f now
  simp only [l18Good_eq, Option.bind_some]
  cases good m t l.length <;> cases good m' t' l'.length
  · exact j false false false
  · exact j false true false
  · exact j true false false
  · have h := j true true (t' == (t + 1) % 256 % 3)
    by_cases c : t' = (t + 1) % 256 % 3
    · simpa [c] using h
    · simpa [c] using h

theorem impl_HoldSlotNow_ev (m t : Int) (l : List Int) (m' t' : Int) (l' : List Int) : Ev (fun k => impl_HoldSlotNow.f k m t l m' t' l') (now m t l.length m' t' l'.length) := by
  have j : ∀ x y z : Bool, Ev (fun k => impl_HoldSlotNow.j0 k x y z) (if z = true then 1 else if x = true then 0 else if y = true then 1 else -1) := by
    intro x y z
    refine Ev.step (f := fun _ => some _) (fun k => ?_) (Ev.now _)
    simp only [impl_HoldSlotNow.j0]
    cases x <;> cases y <;> cases z <;> rfl
  unfold impl_HoldSlotNow.f now
  simp only [HoldSlot_good_eq, Option.bind_some]
  cases good m t l.length <;> cases good m' t' l'.length
  · exact j false false false
  · exact j false true false
  · exact j true false false
  · have h := j true true (t' == (t + 1) % 256 % 3)
    by_cases c : t' = (t + 1) % 256 % 3
    · simpa [c] using h
    · simpa [c] using h

theorem toHoldRom_ev (m t : Int) (l : List Int) (m' t' : Int) (l' : List Int) (h : l.length ≤ 1099511627776) (h' : l'.length ≤ 1099511627776) : Ev (fun k => laws_toHoldRom.f k m t l m' t' l') (m, t, l, m', t', l') := by
  unfold laws_toHoldRom.f laws_toHoldSlot.f
  exact Ev.bind (Ev.bind (toByteS_ev l h) (Ev.now _)) (Ev.bind (Ev.bind (toByteS_ev l' h') (Ev.now _)) (Ev.now _))

theorem eqHoldRom_self (m t : Int) (l : List Int) (m' t' : Int) (l' : List Int) (h : l.length ≤ 1099511627776) (h' : l'.length ≤ 1099511627776) : Ev (fun k => laws_eqHoldRom.f k m t l m' t' l' m t l m' t' l') true := by
  have one : ∀ (m t : Int) (l : List Int), l.length ≤ 1099511627776 → Ev (fun k => laws_eqHoldSlot.f k m t l m t l) true := by
    intro m t l h
    unfold laws_eqHoldSlot.f
    simp only [if_true]
    exact Ev.bind (eqByteS_self l h) (Ev.now _)
  unfold laws_eqHoldRom.f
  refine Ev.bind (one m t l h) ?_
  simp only [if_true]
  exact Ev.bind (one m' t' l' h') (Ev.now _)

theorem szHoldRom_tells (m t : Int) (l : List Int) (m' t' : Int) (l' : List Int) (hl : l.length ≤ maxLen) (hl' : l'.length ≤ maxLen) : ∃ r, laws_szHoldRom.f m t l m' t' l' 1048576 = some r ∧ (0 ≤ r → l.length ≤ 1048576 ∧ l'.length ≤ 1048576) := by
  have one : ∀ (m t : Int) (l : List Int) (n : Int), 0 ≤ n → n ≤ 1048576 → l.length ≤ maxLen → ∃ r, laws_szHoldSlot.f m t l n = some r ∧ (0 ≤ r → (l.length : Int) ≤ n ∧ r = n - l.length) := by
    intro m t l n h0 h1 hl
    obtain ⟨r, hr, h⟩ := szByteS_tells l n h0 h1 hl
    unfold laws_szHoldSlot.f
    rw [hr, Option.bind_some]
    split
    · exact ⟨-1, rfl, fun h => by omega⟩
    · exact ⟨r, rfl, h⟩
  unfold laws_szHoldRom.f
  obtain ⟨r, hr, h⟩ := one m t l 1048576 (by decide) (by decide) hl
  rw [hr, Option.bind_some]
  by_cases c : r < 0
  · rw [if_pos c]; exact ⟨-1, rfl, fun h => by omega⟩
  · rw [if_neg c]
    obtain ⟨r', hr', h'⟩ := one m' t' l' r (by omega) (by omega) hl'
    rw [hr', Option.bind_some]
    by_cases c' : r' < 0
    · rw [if_pos c']; exact ⟨-1, rfl, fun h => by omega⟩
    · rw [if_neg c']; exact ⟨r', rfl, fun _ => by omega⟩

theorem holds (m t : Int) (l : List Int) (m' t' : Int) (l' : List Int) (hl : l.length ≤ maxLen) (hl' : l'.length ≤ maxLen) : ∃ k, laws_FnExactHoldSlotNow.f k m t l m' t' l' = some true := by
  refine Tells.rounds ?_
  unfold laws_FnExactHoldSlotNow.f
  obtain ⟨r, hr, h⟩ := szHoldRom_tells m t l m' t' l' hl hl'
  simp only [hr, Option.bind_some]
  by_cases c0 : r < 0
  · simp only [if_pos c0]; exact Tells.now rfl
  · simp only [if_neg c0]
    obtain ⟨h1, h2⟩ := h (by omega)
    have hto := toHoldRom_ev m t l m' t' l' (by omega) (by omega)
    refine Tells.bindEv hto ?_
    refine Tells.bindEv (spec_HoldSlotNow_ev m t l m' t' l') ?_
    refine Tells.bindEv hto ?_
    refine Tells.bindEv (impl_HoldSlotNow_ev m t l m' t' l') ?_
    simp only [if_true]
    refine Tells.bindEv hto ?_
    exact Tells.bindEv (eqHoldRom_self m t l m' t' l' (by omega) (by omega)) (Tells.now rfl)

end Go.Proofs.Ytoeijldmebocmaa.BFnExactHoldSlotNow
