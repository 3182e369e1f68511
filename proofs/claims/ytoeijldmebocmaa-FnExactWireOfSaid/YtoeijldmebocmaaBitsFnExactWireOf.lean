/- What the printed functions tell that the law FnExactWireOf reaches, over numbers and lists alone. -/
import Derived.Test.YtoeijldmebocmaaFx1
import Derived.Test.YtoeijldmebocmaaFx2
import Derived.Test.YtoeijldmebocmaaTell
namespace Go.Proofs.Ytoeijldmebocmaa.BFnExactWireOf
open Go Go.RowKit Go.Proofs.Ytoeijldmebocmaa.Tell Go.Proofs.Ytoeijldmebocmaa.F Go.Proofs.YtoeijldmebocmaaW.PrintWords Go.Proofs.YtoeijldmebocmaaW.PrintLast Go.Proofs.YtoeijldmebocmaaW.PrintMore
set_option linter.unusedVariables false
set_option linter.unusedSimpArgs false

theorem toByteS_loop (l : List Int) (hl : l.length ≤ 1099511627776) (d : Nat) : ∀ i : Nat, l.length - i = d → i ≤ l.length →
    Ev (fun k => laws_toByteS.l0 k l (l.take i ++ List.replicate (l.length - i) 0) (i : Int)) l := by
  induction d with
  | zero =>
    intro i hd hi
    obtain rfl : i = l.length := by omega
    refine Ev.step (f := fun _ => some l) (fun k => ?_) (Ev.now _)
    simp only [laws_toByteS.l0]
    rw [if_neg (by omega)]; simp
  | succ d ih =>
    intro i hd hi
    refine Ev.step (fun k => ?_) (ih (i + 1) (by omega) (by omega))
    simp only [laws_toByteS.l0]
    have w : wrap64 ((i : Int) + 1) = ((i + 1 : Nat) : Int) := by unfold wrap64; omega
    have hlt : i < l.length := by omega
    have hll : (l.take i ++ List.replicate (l.length - i) (0 : Int)).length = l.length := by rw [List.length_append, List.length_take, List.length_replicate]; omega
    have hr : rd l (i : Int) = l[i] := by unfold rd; simp [List.getD_eq_getElem?_getD, hlt]
    have hs : (l.take i ++ List.replicate (l.length - i) (0 : Int)).set i l[i] = l.take (i + 1) ++ List.replicate (l.length - (i + 1)) 0 := by
      obtain ⟨m, hm⟩ : ∃ m, l.length - i = m + 1 := ⟨l.length - i - 1, by omega⟩
      have hm2 : l.length - (i + 1) = m := by omega
      rw [hm, hm2, List.set_append_right _ _ (by rw [List.length_take]; omega), List.length_take, Nat.min_eq_left (by omega), Nat.sub_self, List.replicate_succ, List.set_cons_zero, List.take_succ_eq_append_getElem hlt, List.append_assoc]
      rfl
    rw [if_pos (by omega), if_pos (by omega), if_pos (by rw [hll]; omega), w, Int.toNat_natCast, hr, hs]
theorem toByteS_ev (l : List Int) (hl : l.length ≤ 1099511627776) : Ev (fun k => laws_toByteS.f k l) l := by
  unfold laws_toByteS.f
  simp only [if_pos (show 0 ≤ (l.length : Int) by omega), Int.toNat_natCast, if_pos (show l.length ≤ 281474976710656 by omega)]
  have h := toByteS_loop l hl l.length 0 (by omega) (by omega)
  simpa using h

theorem eqByteS_loop (l : List Int) (hl : l.length ≤ 1099511627776) (d : Nat) : ∀ i : Nat, l.length - i = d → i ≤ l.length → Ev (fun k => laws_eqByteS.l0 k l l (i : Int)) true := by
  induction d with
  | zero =>
    intro i hd hi
    refine Ev.step (f := fun _ => some true) (fun k => ?_) (Ev.now _)
    simp only [laws_eqByteS.l0]
    rw [if_neg (by omega)]
  | succ d ih =>
    intro i hd hi
    refine Ev.step (fun k => ?_) (ih (i + 1) (by omega) (by omega))
    simp only [laws_eqByteS.l0]
    have w : wrap64 ((i : Int) + 1) = ((i + 1 : Nat) : Int) := by unfold wrap64; omega
    rw [if_pos (by omega), if_pos (by omega), if_pos (by omega), if_pos trivial, w]
theorem eqByteS_self (l : List Int) (hl : l.length ≤ 1099511627776) : Ev (fun k => laws_eqByteS.f k l l) true := by
  unfold laws_eqByteS.f
  simp only [if_true]
  exact eqByteS_loop l hl l.length 0 (by omega) (by omega)

theorem WireOf_same (l : List Int) (hl : l.length ≤ 1048576) : impl_WireOf.f l = spec_WireOf.f l := by
  have w : wrap64 (Int.tdiv (wrap64 ((wrap64 ((l.length : Int) + 24)) - 1)) 24) = ((l.length : Int) + 23) / 24 := by
    rw [wrap64_in (n := (l.length : Int) + 24) (by omega) (by omega), wrap64_in (n := (l.length : Int) + 24 - 1) (by omega) (by omega), Int.tdiv_eq_ediv_of_nonneg (by omega), wrap64_in (by omega) (by omega)]
    omega
  unfold impl_WireOf.f spec_WireOf.f
  rw [w]
  by_cases c0 : (l.length : Int) = 0
  · rw [if_pos c0, if_neg (by omega), c0]; rfl
  · rw [if_neg c0]
    by_cases c1 : (l.length : Int) > 21600
    · rw [if_pos c1, if_pos (by omega)]
    · rw [if_neg c1, if_neg (by omega)]
theorem FnExactWireOf : laws_FnExactWireOf.Pure := by
  intro l hm hs hw
  refine Tells.rounds ?_
  unfold laws_FnExactWireOf.f
  by_cases c : (l.length : Int) > 1048576
  · simp only [if_pos c]; exact Tells.now rfl
  · simp only [if_neg c]
    obtain ⟨r, hr⟩ : ∃ r, spec_WireOf.f l = some r := by
      unfold spec_WireOf.f; split
      · exact ⟨_, rfl⟩
      · split <;> exact ⟨_, rfl⟩
    refine Tells.bindEv (toByteS_ev l (by omega)) ?_
    simp only [hr, Option.bind_some]
    refine Tells.bindEv (toByteS_ev l (by omega)) ?_
    simp only [WireOf_same l (by omega), hr, Option.bind_some, if_true]
    refine Tells.bindEv (toByteS_ev l (by omega)) ?_
    exact Tells.bindEv (eqByteS_self l (by omega)) (Tells.now rfl)

end Go.Proofs.Ytoeijldmebocmaa.BFnExactWireOf
