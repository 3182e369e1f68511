/- What the printed functions tell that the law FnExactWireToBox reaches, over numbers and lists alone. -/
import Derived.Test.YtoeijldmebocmaaFx1
import Derived.Test.YtoeijldmebocmaaFx10
import Derived.Test.YtoeijldmebocmaaFx11
import Derived.Test.YtoeijldmebocmaaFx12
import Derived.Test.YtoeijldmebocmaaFx13
import Derived.Test.YtoeijldmebocmaaFx14
import Derived.Test.YtoeijldmebocmaaFx6
import Derived.Test.YtoeijldmebocmaaFx8
import Derived.Test.YtoeijldmebocmaaFx9
import Derived.Test.YtoeijldmebocmaaTell
namespace Go.Proofs.Ytoeijldmebocmaa.BFnExactWireToBox
open Go Go.RowKit Go.Proofs.Ytoeijldmebocmaa.Tell Go.Proofs.Ytoeijldmebocmaa.F Go.Proofs.YtoeijldmebocmaaW.PrintWords Go.Proofs.YtoeijldmebocmaaW.PrintLast Go.Proofs.YtoeijldmebocmaaW.PrintMore
set_option linter.unusedVariables false
set_option linter.unusedSimpArgs false

theorem toByteS_loop (l : List Int) (hl : l.length ≤ 1099511627776) (d : Nat) : ∀ i : Nat, l.length - i = d → i ≤ l.length →
    Ev (fun k => laws_toByteS.l0 k l (l.take i ++ List.replicate (l.length - i) 0) (i : Int)) l := by
  induction d with
  | zero =>
    intro i hd hi
    obtain rfl : i = l.length := by omega
    refine Ev.step (f := fun _ => some l) (fun k => ?_) (Ev.now _)
    simp only [laws_toByteS.l0]
    rw [if_neg (by omega)]; simp
  | succ d ih =>
    intro i hd hi
    refine Ev.step (fun k => ?_) (ih (i + 1) (by omega) (by omega))
    simp only [laws_toByteS.l0]
    have w : wrap64 ((i : Int) + 1) = ((i + 1 : Nat) : Int) := by unfold wrap64; omega
    have hlt : i < l.length := by omega
    have hll : (l.take i ++ List.replicate (l.length - i) (0 : Int)).length = l.length := by rw [List.length_append, List.length_take, List.length_replicate]; omega
    have hr : rd l (i : Int) = l[i] := by unfold rd; simp [List.getD_eq_getElem?_getD, hlt]
    have hs : (l.take i ++ List.replicate (l.length - i) (0 : Int)).set i l[i] = l.take (i + 1) ++ List.replicate (l.length - (i + 1)) 0 := by
      obtain ⟨m, hm⟩ : ∃ m, l.length - i = m + 1 := ⟨l.length - i - 1, by omega⟩
      have hm2 : l.length - (i + 1) = m := by omega
      rw [hm, hm2, List.set_append_right _ _ (by rw [List.length_take]; omega), List.length_take, Nat.min_eq_left (by omega), Nat.sub_self, List.replicate_succ, List.set_cons_zero, List.take_succ_eq_append_getElem hlt, List.append_assoc]
      rfl
    rw [if_pos (by omega), if_pos (by omega), if_pos (by rw [hll]; omega), w, Int.toNat_natCast, hr, hs]
theorem toByteS_ev (l : List Int) (hl : l.length ≤ 1099511627776) : Ev (fun k => laws_toByteS.f k l) l := by
  unfold laws_toByteS.f
  simp only [if_pos (show 0 ≤ (l.length : Int) by omega), Int.toNat_natCast, if_pos (show l.length ≤ 281474976710656 by omega)]
  have h := toByteS_loop l hl l.length 0 (by omega) (by omega)
  simpa using h

theorem eqByteS_loop (l : List Int) (hl : l.length ≤ 1099511627776) (d : Nat) : ∀ i : Nat, l.length - i = d → i ≤ l.length → Ev (fun k => laws_eqByteS.l0 k l l (i : Int)) true := by
  induction d with
  | zero =>
    intro i hd hi
    refine Ev.step (f := fun _ => some true) (fun k => ?_) (Ev.now _)
    simp only [laws_eqByteS.l0]
    rw [if_neg (by omega)]
  | succ d ih =>
    intro i hd hi
    refine Ev.step (fun k => ?_) (ih (i + 1) (by omega) (by omega))
    simp only [laws_eqByteS.l0]
    have w : wrap64 ((i : Int) + 1) = ((i + 1 : Nat) : Int) := by unfold wrap64; omega
    rw [if_pos (by omega), if_pos (by omega), if_pos (by omega), if_pos trivial, w]
theorem eqByteS_self (l : List Int) (hl : l.length ≤ 1099511627776) : Ev (fun k => laws_eqByteS.f k l l) true := by
  unfold laws_eqByteS.f
  simp only [if_true]
  exact eqByteS_loop l hl l.length 0 (by omega) (by omega)

theorem in_eq (a l h : Int) : impl_in.f a l h = some (decide (l ≤ a ∧ a ≤ h)) := by
  unfold impl_in.f
  by_cases c : l ≤ a
  · rw [if_pos c]; simp [c]
  · rw [if_neg c]; simp [c]

theorem szByteS_tells (l : List Int) (a : Int) (ha0 : 0 ≤ a) (ha : a ≤ 1048576) (hl : l.length ≤ maxLen) : ∃ r, laws_szByteS.f l a = some r ∧ (0 ≤ r → (l.length : Int) ≤ a ∧ r = a - l.length) := by
  unfold maxLen at hl
  unfold laws_szByteS.f
  have w : wrap64 (a - (l.length : Int)) = a - l.length := wrap64_in (by omega) (by omega)
  rw [w]
  split
  · exact ⟨-1, rfl, fun h => by omega⟩
  · exact ⟨_, rfl, fun h => by omega⟩

theorem isNumber_eq (n : Int) : impl_isNumber.f n = some (decide (1 ≤ n ∧ n ≤ 1000000)) := by unfold impl_isNumber.f; rw [in_eq]; rfl

/-- Whether a word is ok. -/
def wok (a b c d : Int) (n : Nat) : Bool :=
  decide (1 ≤ b ∧ b ≤ 1000000 ∧ ((a = 1 ∧ 1 ≤ c ∧ c ≤ 900 ∧ 0 ≤ d ∧ d < c ∧ n ≤ 24 ∧ (n = 24 ∨ d = c - 1 ∧ 0 < n)) ∨ (2 ≤ a ∧ a ≤ 5 ∧ c = 0 ∧ n = 0 ∧ 0 ≤ d ∧ d ≤ (if a = 3 then 900 else 0))))
theorem impl_WireOk_ev (a b c d : Int) (l : List Int) (hl : l.length ≤ 1099511627776) : Ev (fun k => impl_WireOk.f k a b c d l) (wok a b c d l.length) := by
  have bad : wok a b c d l.length = false → Ev (fun k => impl_WireOk.j0 k true a b c d l) (wok a b c d l.length) := fun h => by
    rw [h]
    refine Ev.step (f := fun _ => some false) (fun k => ?_) (Ev.now _)
    simp only [impl_WireOk.j0]; rfl
  unfold impl_WireOk.f
  simp only [in_eq, isNumber_eq, Option.bind_some]
  by_cases c0 : 1 ≤ a ∧ a ≤ 5
  · simp only [decide_eq_true c0, if_true]
    by_cases c1 : 1 ≤ b ∧ b ≤ 1000000
    · simp only [decide_eq_true c1, Bool.not_true]
      refine Ev.step (f := fun _ => some (wok a b c d l.length)) (fun k => ?_) (Ev.now _)
      simp only [impl_WireOk.j0, in_eq, Option.bind_some]
      rw [if_neg (by decide)]
      unfold wok
      by_cases c2 : a = 1
      · rw [if_pos c2]
        by_cases c3 : 1 ≤ c ∧ c ≤ 900
        · have w : wrap64 (c - 1) = c - 1 := wrap64_in (by omega) (by omega)
          rw [if_pos (decide_eq_true c3), w]
          by_cases c4 : 0 ≤ d ∧ d ≤ c - 1
          · rw [if_pos (decide_eq_true c4)]
            by_cases c5 : (l.length : Int) = 24
            · rw [if_pos c5]; congr 1; exact (decide_eq_true (by omega)).symm
            · rw [if_neg c5]
              by_cases c6 : d = c - 1
              · rw [if_pos c6]; congr 1
                rw [Bool.eq_iff_iff]; simp only [decide_eq_true_eq]; omega
              · rw [if_neg c6]; congr 1; exact (decide_eq_false (by omega)).symm
          · rw [if_neg (by simpa using c4)]; congr 1; exact (decide_eq_false (by omega)).symm
        · rw [if_neg (by simpa using c3)]; congr 1; exact (decide_eq_false (by omega)).symm
      · rw [if_neg c2]
        by_cases c3 : a = 3
        · rw [if_pos c3]
          by_cases c4 : c = 0
          · rw [if_pos c4]
            by_cases c5 : (l.length : Int) = 0
            · rw [if_pos c5]; congr 1
              rw [Bool.eq_iff_iff]; simp only [decide_eq_true_eq, if_pos c3]; omega
            · rw [if_neg c5]; congr 1; exact (decide_eq_false (by omega)).symm
          · rw [if_neg c4]; congr 1; exact (decide_eq_false (by omega)).symm
        · rw [if_neg c3]
          by_cases c4 : c = 0
          · rw [if_pos c4]
            by_cases c5 : (l.length : Int) = 0
            · rw [if_pos c5]; congr 1
              rw [Bool.eq_iff_iff]; simp only [decide_eq_true_eq, if_neg c3]; omega
            · rw [if_neg c5]; congr 1; exact (decide_eq_false (by omega)).symm
          · rw [if_neg c4]; congr 1; exact (decide_eq_false (by omega)).symm
    · simp only [decide_eq_false c1, Bool.not_false]
      exact bad (by unfold wok; exact decide_eq_false (by omega))
  · simp only [decide_eq_false c0, Bool.false_eq_true, if_false]
    exact bad (by unfold wok; exact decide_eq_false (by omega))

theorem l20Chunk_eq (a b c d : Int) (l : List Int) (hl : l.length ≤ 1099511627776) : spec_l20Chunk.f a b c d l = some (decide (1 ≤ c ∧ c ≤ 900 ∧ 0 ≤ d ∧ d < c ∧ l.length ≤ 24 ∧ (l.length = 24 ∨ d = c - 1 ∧ 0 < l.length))) := by
  have F : ∀ p : Prop, [Decidable p] → ¬ p → some false = some (decide p) := fun p _ h => by rw [decide_eq_false h]
  have G : ∀ p : Prop, [Decidable p] → p → some true = some (decide p) := fun p _ h => by rw [decide_eq_true h]
  unfold spec_l20Chunk.f
  by_cases c1 : c < 1
  · rw [if_pos c1]; exact F _ (by omega)
  rw [if_neg c1]
  by_cases c2 : c > 900
  · rw [if_pos c2]; exact F _ (by omega)
  rw [if_neg c2]
  by_cases c3 : d < 0
  · rw [if_pos c3]; exact F _ (by omega)
  rw [if_neg c3]
  by_cases c4 : d ≥ c
  · rw [if_pos c4]; exact F _ (by omega)
  rw [if_neg c4]
  by_cases c5 : (l.length : Int) > 24
  · rw [if_pos c5]; exact F _ (by omega)
  rw [if_neg c5]
  by_cases c6 : (l.length : Int) = 24
  · rw [if_pos c6]; exact G _ (by omega)
  have w : wrap64 (c - 1) = c - 1 := wrap64_in (by omega) (by omega)
  rw [if_neg c6, w]
  by_cases c7 : d = c - 1
  · rw [if_pos c7]; congr 1
    rw [Bool.eq_iff_iff]; simp only [decide_eq_true_eq]; omega
  · rw [if_neg c7]; exact F _ (by omega)
theorem spec_WireOk_ev (a b c d : Int) (l : List Int) (hl : l.length ≤ 1099511627776) : Ev (fun k => spec_WireOk.f k a b c d l) (wok a b c d l.length) := by
  have bad : wok a b c d l.length = false → Ev (fun k => spec_WireOk.j0 k true a b c d l) (wok a b c d l.length) := fun h => by
    rw [h]
    refine Ev.step (f := fun _ => some false) (fun k => ?_) (Ev.now _)
    simp only [spec_WireOk.j0]; rfl
  unfold spec_WireOk.f
  by_cases c0 : b < 1
  · simp only [if_pos c0]
    exact bad (by unfold wok; exact decide_eq_false (by omega))
  · simp only [if_neg c0]
    by_cases c1 : b > 1000000
    · simp only [decide_eq_true c1]
      exact bad (by unfold wok; exact decide_eq_false (by omega))
    · simp only [decide_eq_false c1]
      refine Ev.step (f := fun _ => some (wok a b c d l.length)) (fun k => ?_) (Ev.now _)
      simp only [spec_WireOk.j0, l20Chunk_eq _ _ _ _ _ hl, Option.bind_some]
      rw [if_neg (by decide)]
      unfold wok
      by_cases c2 : a = 1
      · rw [if_pos c2]; congr 1
        rw [Bool.eq_iff_iff]; simp only [decide_eq_true_eq]; omega
      · rw [if_neg c2]
        by_cases c3 : c = 0
        · rw [if_pos c3]
          by_cases c4 : (l.length : Int) > 0
          · rw [if_pos c4]; congr 1; exact (decide_eq_false (by omega)).symm
          · rw [if_neg c4]
            by_cases c5 : d < 0
            · rw [if_pos c5]; congr 1; exact (decide_eq_false (by omega)).symm
            · rw [if_neg c5]
              by_cases c6 : d > 900
              · rw [if_pos c6]; congr 1; refine (decide_eq_false ?_).symm; split <;> omega
              · rw [if_neg c6]
                by_cases c7 : a = 3
                · rw [if_pos c7]; congr 1; refine (decide_eq_true ?_).symm; rw [if_pos c7]; omega
                · rw [if_neg c7, if_neg c7]
                  by_cases c8 : a ≥ 2
                  · rw [if_pos c8]
                    by_cases c9 : a ≤ 5
                    · rw [if_pos c9]; congr 1
                      rw [Bool.eq_iff_iff]; simp only [decide_eq_true_eq, beq_iff_eq]; omega
                    · rw [if_neg c9]; congr 1; exact (decide_eq_false (by omega)).symm
                  · rw [if_neg c8]; congr 1; exact (decide_eq_false (by omega)).symm
        · rw [if_neg c3]; congr 1; exact (decide_eq_false (by omega)).symm

theorem toWireWord_ev (a b c d : Int) (l : List Int) (hl : l.length ≤ 1099511627776) : Ev (fun k => laws_toWireWord.f k a b c d l) (a, b, c, d, l) := by
  unfold laws_toWireWord.f
  exact Ev.bind (toByteS_ev l hl) (Ev.now _)

theorem eqWireWord_self (a b c d : Int) (l : List Int) (hl : l.length ≤ 1099511627776) : Ev (fun k => laws_eqWireWord.f k a b c d l a b c d l) true := by
  unfold laws_eqWireWord.f
  simp only [if_true]
  exact Ev.bind (eqByteS_self l hl) (Ev.now _)

theorem szWireWord_tells (a b c d : Int) (l : List Int) (n : Int) (ha0 : 0 ≤ n) (ha : n ≤ 1048576) (hl : l.length ≤ maxLen) : ∃ r, laws_szWireWord.f a b c d l n = some r ∧ (0 ≤ r → (l.length : Int) ≤ n ∧ r = n - l.length) := by
  obtain ⟨r, hr, h⟩ := szByteS_tells l n ha0 ha hl
  unfold laws_szWireWord.f
  rw [hr, Option.bind_some]
  split
  · exact ⟨-1, rfl, fun h => by omega⟩
  · exact ⟨r, rfl, h⟩

theorem spec_WireToBox_ev (a b c d : Int) (l : List Int) (hl : l.length ≤ 1099511627776) : Ev (fun k => spec_WireToBox.f k a b c d l) (wok a b c d l.length && decide (a ≤ 2)) := by
  unfold spec_WireToBox.f
  refine Ev.bind (spec_WireOk_ev a b c d l hl) ?_
  cases wok a b c d l.length
  · exact Ev.now _
  · exact Ev.now _
theorem impl_WireToBox_ev (a b c d : Int) (l : List Int) (hl : l.length ≤ 1099511627776) : Ev (fun k => impl_WireToBox.f k a b c d l) (wok a b c d l.length && decide (a ≤ 2)) := by
  unfold impl_WireToBox.f
  refine Ev.bind (impl_WireOk_ev a b c d l hl) ?_
  cases wok a b c d l.length
  · exact Ev.now _
  · exact Ev.now _
theorem holds (a b c d : Int) (l : List Int) (hl : l.length ≤ maxLen) : ∃ k, laws_FnExactWireToBox.f k a b c d l = some true := by
  refine Tells.rounds ?_
  unfold laws_FnExactWireToBox.f
  obtain ⟨r, hr, h⟩ := szWireWord_tells a b c d l 1048576 (by decide) (by decide) hl
  simp only [hr, Option.bind_some]
  by_cases c0 : r < 0
  · simp only [if_pos c0]; exact Tells.now rfl
  · simp only [if_neg c0]
    have hn := (h (by omega)).1
    refine Tells.bindEv (toWireWord_ev a b c d l (by omega)) ?_
    refine Tells.bindEv (spec_WireToBox_ev a b c d l (by omega)) ?_
    refine Tells.bindEv (toWireWord_ev a b c d l (by omega)) ?_
    refine Tells.bindEv (impl_WireToBox_ev a b c d l (by omega)) ?_
    simp only [bne_self_eq_false, Bool.false_eq_true, if_false]
    refine Tells.bindEv (toWireWord_ev a b c d l (by omega)) ?_
    exact Tells.bindEv (eqWireWord_self a b c d l (by omega)) (Tells.now rfl)

end Go.Proofs.Ytoeijldmebocmaa.BFnExactWireToBox
