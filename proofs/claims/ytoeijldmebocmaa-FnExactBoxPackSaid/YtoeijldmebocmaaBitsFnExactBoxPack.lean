/- What the printed functions tell that the law FnExactBoxPack reaches, over numbers and lists alone. -/
import Derived.Test.YtoeijldmebocmaaFx1
import Derived.Test.YtoeijldmebocmaaFx10
import Derived.Test.YtoeijldmebocmaaFx7
import Derived.Test.YtoeijldmebocmaaFx8
import Derived.Test.YtoeijldmebocmaaFx9
import Derived.Test.YtoeijldmebocmaaTell
namespace Go.Proofs.Ytoeijldmebocmaa.BFnExactBoxPack
open Go Go.RowKit Go.Proofs.Ytoeijldmebocmaa.Tell Go.Proofs.Ytoeijldmebocmaa.F Go.Proofs.YtoeijldmebocmaaW.PrintWords Go.Proofs.YtoeijldmebocmaaW.PrintLast Go.Proofs.YtoeijldmebocmaaW.PrintMore
set_option linter.unusedVariables false
set_option linter.unusedSimpArgs false

theorem toByteS_loop (l : List Int) (hl : l.length ≤ 1099511627776) (d : Nat) : ∀ i : Nat, l.length - i = d → i ≤ l.length →
    Ev (fun k => laws_toByteS.l0 k l (l.take i ++ List.replicate (l.length - i) 0) (i : Int)) l := by
  induction d with
  | zero =>
    intro i hd hi
    obtain rfl : i = l.length := by omega
    refine Ev.step (f := fun _ => some l) (fun k => ?_) (Ev.now _)
    simp only [laws_toByteS.l0]
    rw [if_neg (by omega)]; simp
  | succ d ih =>
    intro i hd hi
    refine Ev.step (fun k => ?_) (ih (i + 1) (by omega) (by omega))
    simp only [laws_toByteS.l0]
    have w : wrap64 ((i : Int) + 1) = ((i + 1 : Nat) : Int) := by unfold wrap64; omega
    have hlt : i < l.length := by omega
    have hll : (l.take i ++ List.replicate (l.length - i) (0 : Int)).length = l.length := by rw [List.length_append, List.length_take, List.length_replicate]; omega
    have hr : rd l (i : Int) = l[i] := by unfold rd; simp [List.getD_eq_getElem?_getD, hlt]
    have hs : (l.take i ++ List.replicate (l.length - i) (0 : Int)).set i l[i] = l.take (i + 1) ++ List.replicate (l.length - (i + 1)) 0 := by
      obtain ⟨m, hm⟩ : ∃ m, l.length - i = m + 1 := ⟨l.length - i - 1, by omega⟩
      have hm2 : l.length - (i + 1) = m := by omega
      rw [hm, hm2, List.set_append_right _ _ (by rw [List.length_take]; omega), List.length_take, Nat.min_eq_left (by omega), Nat.sub_self, List.replicate_succ, List.set_cons_zero, List.take_succ_eq_append_getElem hlt, List.append_assoc]
      rfl
    rw [if_pos (by omega), if_pos (by omega), if_pos (by rw [hll]; omega), w, Int.toNat_natCast, hr, hs]
theorem toByteS_ev (l : List Int) (hl : l.length ≤ 1099511627776) : Ev (fun k => laws_toByteS.f k l) l := by
  unfold laws_toByteS.f
  simp only [if_pos (show 0 ≤ (l.length : Int) by omega), Int.toNat_natCast, if_pos (show l.length ≤ 281474976710656 by omega)]
  have h := toByteS_loop l hl l.length 0 (by omega) (by omega)
  simpa using h

theorem eqByteS_loop (l : List Int) (hl : l.length ≤ 1099511627776) (d : Nat) : ∀ i : Nat, l.length - i = d → i ≤ l.length → Ev (fun k => laws_eqByteS.l0 k l l (i : Int)) true := by
  induction d with
  | zero =>
    intro i hd hi
    refine Ev.step (f := fun _ => some true) (fun k => ?_) (Ev.now _)
    simp only [laws_eqByteS.l0]
    rw [if_neg (by omega)]
  | succ d ih =>
    intro i hd hi
    refine Ev.step (fun k => ?_) (ih (i + 1) (by omega) (by omega))
    simp only [laws_eqByteS.l0]
    have w : wrap64 ((i : Int) + 1) = ((i + 1 : Nat) : Int) := by unfold wrap64; omega
    rw [if_pos (by omega), if_pos (by omega), if_pos (by omega), if_pos trivial, w]
theorem eqByteS_self (l : List Int) (hl : l.length ≤ 1099511627776) : Ev (fun k => laws_eqByteS.f k l l) true := by
  unfold laws_eqByteS.f
  simp only [if_true]
  exact eqByteS_loop l hl l.length 0 (by omega) (by omega)

theorem in_eq (a l h : Int) : impl_in.f a l h = some (decide (l ≤ a ∧ a ≤ h)) := by
  unfold impl_in.f
  by_cases c : l ≤ a
  · rw [if_pos c]; simp [c]
  · rw [if_neg c]; simp [c]

/-- The marks of n bytes. -/
def marks (n : Nat) : List Int := (List.range n).map fun (i : Nat) => ((i : Int) + 1) % 256
theorem marks_length (n : Nat) : (marks n).length = n := by simp [marks]
theorem mark_loop (l : List Int) (hl : l.length ≤ 1099511627776) (d : Nat) : ∀ i : Nat, l.length - i = d → i ≤ l.length →
    Ev (fun k => laws_markByteS.l0 k (marks i ++ l.drop i) ((i : Int) + 1) (i : Int)) ((l.length : Int) + 1, marks l.length) := by
  induction d with
  | zero =>
    intro i hd hi
    obtain rfl : i = l.length := by omega
    refine Ev.step (f := fun _ => some ((l.length : Int) + 1, marks l.length)) (fun k => ?_) (Ev.now _)
    simp only [laws_markByteS.l0]
    rw [if_neg (by simp [marks_length])]; simp
  | succ d ih =>
    intro i hd hi
    refine Ev.step (fun k => ?_) (ih (i + 1) (by omega) (by omega))
    simp only [laws_markByteS.l0]
    have w : wrap64 ((i : Int) + 1) = ((i + 1 : Nat) : Int) := by unfold wrap64; omega
    have w2 : wrap64 ((i : Int) + 1 + 1) = (((i + 1 : Nat) : Int)) + 1 := by unfold wrap64; omega
    have hlt : i < l.length := by omega
    have hs : (marks i ++ l.drop i).set i (((i : Int) + 1) % 256) = marks (i + 1) ++ l.drop (i + 1) := by
      rw [List.set_append_right _ _ (by rw [marks_length]; omega), marks_length, Nat.sub_self, List.drop_eq_getElem_cons hlt, List.set_cons_zero]
      unfold marks
      rw [List.range_succ, List.map_append, List.append_assoc]; rfl
    rw [if_pos (by rw [List.length_append, marks_length, List.length_drop]; omega), if_pos (by omega), w, w2, Int.toNat_natCast, hs]
theorem mark_ev (l : List Int) (hl : l.length ≤ 1099511627776) : Ev (fun k => laws_markByteS.f k l 1) ((l.length : Int) + 1, marks l.length) := by
  unfold laws_markByteS.f
  have h := mark_loop l hl l.length 0 (by omega) (by omega)
  simpa [marks] using h

theorem held_loop (n : Nat) (hn : n ≤ 1099511627776) (d : Nat) : ∀ i : Nat, n - i = d → i ≤ n →
    Ev (fun k => laws_heldByteS.l0 k (marks n) ((i : Int) + 1) (i : Int)) ((n : Int) + 1) := by
  induction d with
  | zero =>
    intro i hd hi
    obtain rfl : i = n := by omega
    refine Ev.step (f := fun _ => some ((i : Int) + 1)) (fun k => ?_) (Ev.now _)
    simp only [laws_heldByteS.l0]
    rw [if_neg (by rw [marks_length]; omega)]
  | succ d ih =>
    intro i hd hi
    refine Ev.step (fun k => ?_) (ih (i + 1) (by omega) (by omega))
    simp only [laws_heldByteS.l0]
    have w : wrap64 ((i : Int) + 1) = ((i + 1 : Nat) : Int) := by unfold wrap64; omega
    have w2 : wrap64 ((i : Int) + 1 + 1) = (((i + 1 : Nat) : Int)) + 1 := by unfold wrap64; omega
    have hr : rd (marks n) (i : Int) = ((i : Int) + 1) % 256 := by
      unfold rd marks
      rw [Int.toNat_natCast, List.getD_eq_getElem?_getD, List.getElem?_map, List.getElem?_range (by omega)]; rfl
    rw [if_pos (by rw [marks_length]; omega), if_pos (by omega), if_pos hr, w, w2]
theorem held_ev (n : Nat) (hn : n ≤ 1099511627776) : Ev (fun k => laws_heldByteS.f k (marks n) 1) ((n : Int) + 1) := by
  unfold laws_heldByteS.f
  have h := held_loop n hn n 0 (by omega) (by omega)
  simpa using h

theorem isNumber_eq (n : Int) : impl_isNumber.f n = some (decide (1 ≤ n ∧ n ≤ 1000000)) := by unfold impl_isNumber.f; rw [in_eq]; rfl

theorem clone_eq (l : List Int) (hl : l.length < 140737488355328) : impl_clone_byte.f l = some l := by
  unfold impl_clone_byte.f
  simp only [Option.bind_some, List.length_nil, Nat.zero_add, List.nil_append]
  rw [if_pos hl]

/-- The four bytes of a number. -/
def big4 (a : Int) : List Int := [a / 256 / 256 / 256 % 256, a / 256 / 256 % 256, a / 256 % 256, a % 256]
theorem num_step (k : Nat) (x : Int) (xs : List Int) (i : Nat) (h0 : 0 ≤ x) (h1 : x ≤ 1000000) (hi : i < xs.length) (hl : xs.length ≤ 4) :
    spec_l17Num.l0 (k + 1) x xs (i : Int) = spec_l17Num.l0 k (x / 256) (xs.set i (x % 256)) ((i : Int) - 1) := by
  simp only [spec_l17Num.l0]
  have hm : Int.tmod x 256 = x % 256 := Int.tmod_eq_emod_of_nonneg h0
  have w1 : wrap64 (x - x % 256) = x - x % 256 := wrap64_in (by omega) (by omega)
  have w2 : wrap64 (Int.tdiv (x - x % 256) 256) = x / 256 := by rw [Int.tdiv_eq_ediv_of_nonneg (by omega), wrap64_in (by omega) (by omega)]; omega
  have w3 : wrap64 ((i : Int) - 1) = (i : Int) - 1 := wrap64_in (by omega) (by omega)
  rw [hm, if_pos (by omega), if_neg (by omega), if_pos (by omega), if_pos (by omega), w1, w2, w3, Int.toNat_natCast]
  congr 2; omega
theorem num_ev (a : Int) (h0 : 0 ≤ a) (h1 : a ≤ 1000000) : Ev (fun k => spec_l17Num.f k a 4) (big4 a) := by
  unfold spec_l17Num.f
  simp only [if_pos (show (0 : Int) ≤ 4 by decide), if_pos (show (4 : Int).toNat ≤ 281474976710656 by decide)]
  have w : wrap64 (4 - 1) = 3 := wrap64_in (by omega) (by omega)
  rw [w]
  refine Ev.step (fun k => num_step k a _ 3 h0 h1 (by decide) (by decide)) ?_
  refine Ev.step (fun k => num_step k (a / 256) _ 2 (by omega) (by omega) (by simp) (by simp)) ?_
  refine Ev.step (fun k => num_step k (a / 256 / 256) _ 1 (by omega) (by omega) (by simp) (by simp)) ?_
  refine Ev.step (fun k => num_step k (a / 256 / 256 / 256) _ 0 (by omega) (by omega) (by simp) (by simp)) ?_
  exact Ev.step (f := fun _ => some (big4 a)) (fun k => by simp only [spec_l17Num.l0]; rfl) (Ev.now _)
theorem shr64 (a m : Nat) (hm : m < 64) (ha : a < 9223372036854775808) : shr .i64 (a : Int) (m : Int) = ((a / 2 ^ m : Nat) : Int) := by
  unfold shr
  have e : min (Int.toNat (m : Int)) IntKind.i64.bits = m := by rw [Int.toNat_natCast]; exact Nat.min_eq_left (by show m ≤ 64; omega)
  rw [e]; simp
theorem big_step (k : Nat) (x : Nat) (xs : List Int) (i : Nat) (h1 : x ≤ 1000000) (hi : i < 4) (hl : xs.length = 4) :
    impl_big.l0 (k + 1) x 4 xs 4 (i : Int) = impl_big.l0 k x 4 (xs.set i (((x / 2 ^ (8 * (3 - i)) : Nat) : Int) % 256)) 4 ((i + 1 : Nat) : Int) := by
  simp only [impl_big.l0]
  have w : wrap64 (8 * wrap64 (wrap64 (4 - 1) - (i : Int))) = ((8 * (3 - i) : Nat) : Int) := by unfold wrap64; omega
  have w3 : wrap64 ((i : Int) + 1) = ((i + 1 : Nat) : Int) := by unfold wrap64; omega
  rw [w, w3, if_pos (by omega), if_pos (by omega), if_pos (by omega), if_pos (by omega), shr64 x _ (by omega) (by omega), Int.toNat_natCast]
theorem big_ev (a : Int) (h0 : 0 ≤ a) (h1 : a ≤ 1000000) : Ev (fun k => impl_big.f k a 4) (big4 a) := by
  obtain ⟨x, rfl⟩ := Int.eq_ofNat_of_zero_le h0
  unfold impl_big.f
  simp only [if_pos (show (0 : Int) ≤ 4 by decide), if_pos (show (4 : Int).toNat ≤ 281474976710656 by decide), Option.bind_some]
  refine Ev.step (fun k => big_step k x _ 0 (by omega) (by decide) (by simp)) ?_
  refine Ev.step (fun k => big_step k x _ 1 (by omega) (by decide) (by simp)) ?_
  refine Ev.step (fun k => big_step k x _ 2 (by omega) (by decide) (by simp)) ?_
  refine Ev.step (fun k => big_step k x _ 3 (by omega) (by decide) (by simp)) ?_
  refine Ev.step (f := fun _ => some (big4 x)) (fun k => ?_) (Ev.now _)
  simp only [impl_big.l0]
  rw [if_neg (by decide)]
  have e : (List.replicate (4 : Int).toNat (0 : Int)) = [0, 0, 0, 0] := rfl
  rw [e]
  simp only [List.set_cons_zero, List.set_cons_succ, big4, Option.some.injEq, List.cons.injEq, and_true]
  refine ⟨?_, ?_, ?_, ?_⟩ <;> simp <;> omega
/-- What BoxPack answers. -/
def pack (a : Int) (l : List Int) : List Int × Bool := if a < 1 ∨ a > 1000000 ∨ (l.length : Int) > 20008 then ([], false) else (big4 a ++ l, true)
theorem spec_pack (a : Int) (l : List Int) : Ev (fun k => spec_BoxPack.f k a l) (pack a l) := by
  unfold spec_BoxPack.f pack
  by_cases c1 : a < 1
  · simp only [if_pos c1, if_pos (Or.inl c1 : a < 1 ∨ _)]; exact Ev.now _
  · simp only [if_neg c1]
    by_cases c2 : a > 1000000
    · simp only [if_pos c2, if_pos (Or.inr (Or.inl c2) : a < 1 ∨ _)]; exact Ev.now _
    · simp only [if_neg c2]
      by_cases c3 : (l.length : Int) > 20008
      · simp only [if_pos c3, if_pos (Or.inr (Or.inr c3) : a < 1 ∨ a > 1000000 ∨ _)]; exact Ev.now _
      · simp only [if_neg c3, if_neg (show ¬ (a < 1 ∨ a > 1000000 ∨ (l.length : Int) > 20008) by omega)]
        refine Ev.bind (num_ev a (by omega) (by omega)) ?_
        simp only [if_pos (show (big4 a).length + l.length < 140737488355328 by simp [big4]; omega)]
        exact Ev.now _
theorem impl_pack_no (a : Int) (l : List Int) : Ev (fun k => impl_BoxPack.j0 k a l true) ([], false) :=
  Ev.step (f := fun _ => some ([], false)) (fun k => by simp only [impl_BoxPack.j0]; rfl) (Ev.now _)
theorem impl_pack (a : Int) (l : List Int) : Ev (fun k => impl_BoxPack.f k a l) (pack a l) := by
  unfold impl_BoxPack.f pack
  simp only [isNumber_eq, Option.bind_some]
  by_cases c : 1 ≤ a ∧ a ≤ 1000000
  · simp only [if_pos (decide_eq_true c)]
    by_cases c3 : (l.length : Int) > 20008
    · simp only [decide_eq_true c3, if_pos (Or.inr (Or.inr c3) : a < 1 ∨ a > 1000000 ∨ _)]; exact impl_pack_no a l
    · simp only [decide_eq_false c3, if_neg (show ¬ (a < 1 ∨ a > 1000000 ∨ (l.length : Int) > 20008) by omega)]
      refine Ev.step (f := fun k => (impl_big.f k a 4).bind fun t194 => (if t194.length + l.length < 140737488355328 then ((impl_clone_byte.f (t194 ++ l)).bind fun t200 => (some (t200, true))) else (none))) (fun k => by simp only [impl_BoxPack.j0]; rfl) ?_
      refine Ev.bind (big_ev a (by omega) (by omega)) ?_
      have hl : (big4 a).length + l.length < 140737488355328 := by simp [big4]; omega
      simp only [if_pos hl, clone_eq (big4 a ++ l) (by rw [List.length_append]; exact hl), Option.bind_some]
      exact Ev.now _
  · have c' : ¬ (decide (1 ≤ a ∧ a ≤ 1000000) = true) := by simpa using c
    simp only [if_neg c', if_pos (show a < 1 ∨ a > 1000000 ∨ (l.length : Int) > 20008 by omega)]
    exact impl_pack_no a l
theorem pack_length (a : Int) (l : List Int) : (pack a l).1.length ≤ 20012 := by
  unfold pack
  split
  · simp
  · rename_i h; simp [big4]; omega
theorem FnExactBoxPack : laws_FnExactBoxPack.Pure := by
  intro a l ha hm hs hw
  refine Tells.rounds ?_
  unfold laws_FnExactBoxPack.f
  by_cases c : (l.length : Int) > 1048576
  · simp only [if_pos c]; exact Tells.now rfl
  · simp only [if_neg c]
    have hl : l.length ≤ 1099511627776 := by omega
    have hp : (pack a l).1.length ≤ 1099511627776 := Nat.le_trans (pack_length a l) (by decide)
    refine Tells.bindEv (toByteS_ev l hl) ?_
    refine Tells.bindEv (spec_pack a l) ?_
    refine Tells.bindEv (toByteS_ev l hl) ?_
    refine Tells.bindEv (impl_pack a l) ?_
    refine Tells.bindEv (eqByteS_self _ hp) ?_
    simp only [if_true]
    refine Tells.step (fun k => by simp only [laws_FnExactBoxPack.j0, bne_self_eq_false]; rfl) ?_
    refine Tells.bindEv (toByteS_ev l hl) ?_
    refine Tells.bindEv (eqByteS_self _ hl) ?_
    simp only [if_true]
    refine Tells.bindEv (mark_ev l hl) ?_
    simp only [if_neg (show ¬ ((l.length : Int) + 1 < 0) by omega)]
    refine Tells.bindEv (eqByteS_self _ hp) ?_
    simp only [if_true]
    refine Tells.step (fun k => by simp only [laws_FnExactBoxPack.j1, bne_self_eq_false]; rfl) ?_
    refine Tells.bindEv (mark_ev _ hp) ?_
    refine Tells.bindEv (held_ev _ hp) ?_
    simp only [if_neg (show ¬ (((pack a l).1.length : Int) + 1 < 0) by omega), if_true]
    refine Tells.bindEv (toByteS_ev l hl) ?_
    refine Tells.bindEv (impl_pack a l) ?_
    refine Tells.bindEv (eqByteS_self _ hp) ?_
    simp only [if_true]
    refine Tells.step (fun k => by simp only [laws_FnExactBoxPack.j2, bne_self_eq_false]; rfl) ?_
    refine Tells.bindEv (held_ev _ hp) ?_
    simp only [if_neg (show ¬ (((pack a l).1.length : Int) + 1 < 0) by omega), if_true]
    exact Tells.now rfl

end Go.Proofs.Ytoeijldmebocmaa.BFnExactBoxPack
