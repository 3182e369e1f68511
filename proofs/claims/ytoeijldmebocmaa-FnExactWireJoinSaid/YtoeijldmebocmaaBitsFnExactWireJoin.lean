/- What the printed functions tell that the law FnExactWireJoin reaches, over numbers and lists alone. -/
import Derived.Test.YtoeijldmebocmaaJx1
import Derived.Test.YtoeijldmebocmaaJx10
import Derived.Test.YtoeijldmebocmaaJx11
import Derived.Test.YtoeijldmebocmaaJx2
import Derived.Test.YtoeijldmebocmaaJx3
import Derived.Test.YtoeijldmebocmaaJx4
import Derived.Test.YtoeijldmebocmaaJx5
import Derived.Test.YtoeijldmebocmaaJx6
import Derived.Test.YtoeijldmebocmaaJx7
import Derived.Test.YtoeijldmebocmaaJx8
import Derived.Test.YtoeijldmebocmaaJx9
import Derived.Test.YtoeijldmebocmaaTell
namespace Go.Proofs.Ytoeijldmebocmaa.BFnExactWireJoin
open Go Go.RowKit Go.Proofs.Ytoeijldmebocmaa.Tell Go.Proofs.Ytoeijldmebocmaa.J Go.Proofs.YtoeijldmebocmaaW.PrintWords Go.Proofs.YtoeijldmebocmaaW.PrintLast Go.Proofs.YtoeijldmebocmaaW.PrintMore
set_option linter.unusedVariables false
set_option linter.unusedSimpArgs false

theorem toByteS_loop (l : List Int) (hl : l.length ≤ 1099511627776) (d : Nat) : ∀ i : Nat, l.length - i = d → i ≤ l.length →
    Ev (fun k => laws_toByteS.l0 k l (l.take i ++ List.replicate (l.length - i) 0) (i : Int)) l := by
  induction d with
  | zero =>
    intro i hd hi
    obtain rfl : i = l.length := by omega
    refine Ev.step (f := fun _ => some l) (fun k => ?_) (Ev.now _)
    simp only [laws_toByteS.l0]
    rw [if_neg (by omega)]; simp
  | succ d ih =>
    intro i hd hi
    refine Ev.step (fun k => ?_) (ih (i + 1) (by omega) (by omega))
    simp only [laws_toByteS.l0]
    have w : wrap64 ((i : Int) + 1) = ((i + 1 : Nat) : Int) := by unfold wrap64; omega
    have hlt : i < l.length := by omega
    have hll : (l.take i ++ List.replicate (l.length - i) (0 : Int)).length = l.length := by rw [List.length_append, List.length_take, List.length_replicate]; omega
    have hr : rd l (i : Int) = l[i] := by unfold rd; simp [List.getD_eq_getElem?_getD, hlt]
    have hs : (l.take i ++ List.replicate (l.length - i) (0 : Int)).set i l[i] = l.take (i + 1) ++ List.replicate (l.length - (i + 1)) 0 := by
      obtain ⟨m, hm⟩ : ∃ m, l.length - i = m + 1 := ⟨l.length - i - 1, by omega⟩
      have hm2 : l.length - (i + 1) = m := by omega
      rw [hm, hm2, List.set_append_right _ _ (by rw [List.length_take]; omega), List.length_take, Nat.min_eq_left (by omega), Nat.sub_self, List.replicate_succ, List.set_cons_zero, List.take_succ_eq_append_getElem hlt, List.append_assoc]
      rfl
    rw [if_pos (by omega), if_pos (by omega), if_pos (by rw [hll]; omega), w, Int.toNat_natCast, hr, hs]
theorem toByteS_ev (l : List Int) (hl : l.length ≤ 1099511627776) : Ev (fun k => laws_toByteS.f k l) l := by
  unfold laws_toByteS.f
  simp only [if_pos (show 0 ≤ (l.length : Int) by omega), Int.toNat_natCast, if_pos (show l.length ≤ 281474976710656 by omega)]
  have h := toByteS_loop l hl l.length 0 (by omega) (by omega)
  simpa using h

theorem eqByteS_loop (l : List Int) (hl : l.length ≤ 1099511627776) (d : Nat) : ∀ i : Nat, l.length - i = d → i ≤ l.length → Ev (fun k => laws_eqByteS.l0 k l l (i : Int)) true := by
  induction d with
  | zero =>
    intro i hd hi
    refine Ev.step (f := fun _ => some true) (fun k => ?_) (Ev.now _)
    simp only [laws_eqByteS.l0]
    rw [if_neg (by omega)]
  | succ d ih =>
    intro i hd hi
    refine Ev.step (fun k => ?_) (ih (i + 1) (by omega) (by omega))
    simp only [laws_eqByteS.l0]
    have w : wrap64 ((i : Int) + 1) = ((i + 1 : Nat) : Int) := by unfold wrap64; omega
    rw [if_pos (by omega), if_pos (by omega), if_pos (by omega), if_pos trivial, w]
theorem eqByteS_self (l : List Int) (hl : l.length ≤ 1099511627776) : Ev (fun k => laws_eqByteS.f k l l) true := by
  unfold laws_eqByteS.f
  simp only [if_true]
  exact eqByteS_loop l hl l.length 0 (by omega) (by omega)

theorem in_eq (a l h : Int) : impl_in.f a l h = some (decide (l ≤ a ∧ a ≤ h)) := by
  unfold impl_in.f
  by_cases c : l ≤ a
  · rw [if_pos c]; simp [c]
  · rw [if_neg c]; simp [c]

/-- The marks of n bytes. -/
def marks (n : Nat) : List Int := (List.range n).map fun (i : Nat) => ((i : Int) + 1) % 256
theorem marks_length (n : Nat) : (marks n).length = n := by simp [marks]
theorem mark_loop (l : List Int) (hl : l.length ≤ 1099511627776) (d : Nat) : ∀ i : Nat, l.length - i = d → i ≤ l.length →
    Ev (fun k => laws_markByteS.l0 k (marks i ++ l.drop i) ((i : Int) + 1) (i : Int)) ((l.length : Int) + 1, marks l.length) := by
  induction d with
  | zero =>
    intro i hd hi
    obtain rfl : i = l.length := by omega
    refine Ev.step (f := fun _ => some ((l.length : Int) + 1, marks l.length)) (fun k => ?_) (Ev.now _)
    simp only [laws_markByteS.l0]
    rw [if_neg (by simp [marks_length])]; simp
  | succ d ih =>
    intro i hd hi
    refine Ev.step (fun k => ?_) (ih (i + 1) (by omega) (by omega))
    simp only [laws_markByteS.l0]
    have w : wrap64 ((i : Int) + 1) = ((i + 1 : Nat) : Int) := by unfold wrap64; omega
    have w2 : wrap64 ((i : Int) + 1 + 1) = (((i + 1 : Nat) : Int)) + 1 := by unfold wrap64; omega
    have hlt : i < l.length := by omega
    have hs : (marks i ++ l.drop i).set i (((i : Int) + 1) % 256) = marks (i + 1) ++ l.drop (i + 1) := by
      rw [List.set_append_right _ _ (by rw [marks_length]; omega), marks_length, Nat.sub_self, List.drop_eq_getElem_cons hlt, List.set_cons_zero]
      unfold marks
      rw [List.range_succ, List.map_append, List.append_assoc]; rfl
    rw [if_pos (by rw [List.length_append, marks_length, List.length_drop]; omega), if_pos (by omega), w, w2, Int.toNat_natCast, hs]
theorem mark_ev (l : List Int) (hl : l.length ≤ 1099511627776) : Ev (fun k => laws_markByteS.f k l 1) ((l.length : Int) + 1, marks l.length) := by
  unfold laws_markByteS.f
  have h := mark_loop l hl l.length 0 (by omega) (by omega)
  simpa [marks] using h

theorem held_loop (n : Nat) (hn : n ≤ 1099511627776) (d : Nat) : ∀ i : Nat, n - i = d → i ≤ n →
    Ev (fun k => laws_heldByteS.l0 k (marks n) ((i : Int) + 1) (i : Int)) ((n : Int) + 1) := by
  induction d with
  | zero =>
    intro i hd hi
    obtain rfl : i = n := by omega
    refine Ev.step (f := fun _ => some ((i : Int) + 1)) (fun k => ?_) (Ev.now _)
    simp only [laws_heldByteS.l0]
    rw [if_neg (by rw [marks_length]; omega)]
  | succ d ih =>
    intro i hd hi
    refine Ev.step (fun k => ?_) (ih (i + 1) (by omega) (by omega))
    simp only [laws_heldByteS.l0]
    have w : wrap64 ((i : Int) + 1) = ((i + 1 : Nat) : Int) := by unfold wrap64; omega
    have w2 : wrap64 ((i : Int) + 1 + 1) = (((i + 1 : Nat) : Int)) + 1 := by unfold wrap64; omega
    have hr : rd (marks n) (i : Int) = ((i : Int) + 1) % 256 := by
      unfold rd marks
      rw [Int.toNat_natCast, List.getD_eq_getElem?_getD, List.getElem?_map, List.getElem?_range (by omega)]; rfl
    rw [if_pos (by rw [marks_length]; omega), if_pos (by omega), if_pos hr, w, w2]
theorem held_ev (n : Nat) (hn : n ≤ 1099511627776) : Ev (fun k => laws_heldByteS.f k (marks n) 1) ((n : Int) + 1) := by
  unfold laws_heldByteS.f
  have h := held_loop n hn n 0 (by omega) (by omega)
  simpa using h

theorem isNumber_eq (n : Int) : impl_isNumber.f n = some (decide (1 ≤ n ∧ n ≤ 1000000)) := by unfold impl_isNumber.f; rw [in_eq]; rfl

theorem clone_eq (l : List Int) (hl : l.length < 140737488355328) : impl_clone_byte.f l = some l := by
  unfold impl_clone_byte.f
  simp only [Option.bind_some, List.length_nil, Nat.zero_add, List.nil_append]
  rw [if_pos hl]

theorem szByteS_tells (l : List Int) (a : Int) (ha0 : 0 ≤ a) (ha : a ≤ 1048576) (hl : l.length ≤ maxLen) : ∃ r, laws_szByteS.f l a = some r ∧ (0 ≤ r → (l.length : Int) ≤ a ∧ r = a - l.length) := by
  unfold maxLen at hl
  unfold laws_szByteS.f
  have w : wrap64 (a - (l.length : Int)) = a - l.length := wrap64_in (by omega) (by omega)
  rw [w]
  split
  · exact ⟨-1, rfl, fun h => by omega⟩
  · exact ⟨_, rfl, fun h => by omega⟩

/-- Whether a word is ok. -/
def wok (a b c d : Int) (n : Nat) : Bool :=
  decide (1 ≤ b ∧ b ≤ 1000000 ∧ ((a = 1 ∧ 1 ≤ c ∧ c ≤ 900 ∧ 0 ≤ d ∧ d < c ∧ n ≤ 24 ∧ (n = 24 ∨ d = c - 1 ∧ 0 < n)) ∨ (2 ≤ a ∧ a ≤ 5 ∧ c = 0 ∧ n = 0 ∧ 0 ≤ d ∧ d ≤ (if a = 3 then 900 else 0))))
theorem impl_WireOk_ev (a b c d : Int) (l : List Int) (hl : l.length ≤ 1099511627776) : Ev (fun k => impl_WireOk.f k a b c d l) (wok a b c d l.length) := by
  have bad : wok a b c d l.length = false → Ev (fun k => impl_WireOk.j0 k true a b c d l) (wok a b c d l.length) := fun h => by
    rw [h]
    refine Ev.step (f := fun _ => some false) (fun k => ?_) (Ev.now _)
    simp only [impl_WireOk.j0]; rfl
  unfold impl_WireOk.f
  simp only [in_eq, isNumber_eq, Option.bind_some]
  by_cases c0 : 1 ≤ a ∧ a ≤ 5
  · simp only [decide_eq_true c0, if_true]
    by_cases c1 : 1 ≤ b ∧ b ≤ 1000000
    · simp only [decide_eq_true c1, Bool.not_true]
      refine Ev.step (f := fun _ => some (wok a b c d l.length)) (fun k => ?_) (Ev.now _)
      simp only [impl_WireOk.j0, in_eq, Option.bind_some]
      rw [if_neg (by decide)]
      unfold wok
      by_cases c2 : a = 1
      · rw [if_pos c2]
        by_cases c3 : 1 ≤ c ∧ c ≤ 900
        · have w : wrap64 (c - 1) = c - 1 := wrap64_in (by omega) (by omega)
          rw [if_pos (decide_eq_true c3), w]
          by_cases c4 : 0 ≤ d ∧ d ≤ c - 1
          · rw [if_pos (decide_eq_true c4)]
            by_cases c5 : (l.length : Int) = 24
            · rw [if_pos c5]; congr 1; exact (decide_eq_true (by omega)).symm
            · rw [if_neg c5]
              by_cases c6 : d = c - 1
              · rw [if_pos c6]; congr 1
                rw [Bool.eq_iff_iff]; simp only [decide_eq_true_eq]; omega
              · rw [if_neg c6]; congr 1; exact (decide_eq_false (by omega)).symm
          · rw [if_neg (by simpa using c4)]; congr 1; exact (decide_eq_false (by omega)).symm
        · rw [if_neg (by simpa using c3)]; congr 1; exact (decide_eq_false (by omega)).symm
      · rw [if_neg c2]
        by_cases c3 : a = 3
        · rw [if_pos c3]
          by_cases c4 : c = 0
          · rw [if_pos c4]
            by_cases c5 : (l.length : Int) = 0
            · rw [if_pos c5]; congr 1
              rw [Bool.eq_iff_iff]; simp only [decide_eq_true_eq, if_pos c3]; omega
            · rw [if_neg c5]; congr 1; exact (decide_eq_false (by omega)).symm
          · rw [if_neg c4]; congr 1; exact (decide_eq_false (by omega)).symm
        · rw [if_neg c3]
          by_cases c4 : c = 0
          · rw [if_pos c4]
            by_cases c5 : (l.length : Int) = 0
            · rw [if_pos c5]; congr 1
              rw [Bool.eq_iff_iff]; simp only [decide_eq_true_eq, if_neg c3]; omega
            · rw [if_neg c5]; congr 1; exact (decide_eq_false (by omega)).symm
          · rw [if_neg c4]; congr 1; exact (decide_eq_false (by omega)).symm
    · simp only [decide_eq_false c1, Bool.not_false]
      exact bad (by unfold wok; exact decide_eq_false (by omega))
  · simp only [decide_eq_false c0, Bool.false_eq_true, if_false]
    exact bad (by unfold wok; exact decide_eq_false (by omega))

theorem l20Chunk_eq (a b c d : Int) (l : List Int) (hl : l.length ≤ 1099511627776) : spec_l20Chunk.f a b c d l = some (decide (1 ≤ c ∧ c ≤ 900 ∧ 0 ≤ d ∧ d < c ∧ l.length ≤ 24 ∧ (l.length = 24 ∨ d = c - 1 ∧ 0 < l.length))) := by
  have F : ∀ p : Prop, [Decidable p] → ¬ p → some false = some (decide p) := fun p _ h => by rw [decide_eq_false h]
  have G : ∀ p : Prop, [Decidable p] → p → some true = some (decide p) := fun p _ h => by rw [decide_eq_true h]
  unfold spec_l20Chunk.f
  by_cases c1 : c < 1
  · rw [if_pos c1]; exact F _ (by omega)
  rw [if_neg c1]
  by_cases c2 : c > 900
  · rw [if_pos c2]; exact F _ (by omega)
  rw [if_neg c2]
  by_cases c3 : d < 0
  · rw [if_pos c3]; exact F _ (by omega)
  rw [if_neg c3]
  by_cases c4 : d ≥ c
  · rw [if_pos c4]; exact F _ (by omega)
  rw [if_neg c4]
  by_cases c5 : (l.length : Int) > 24
  · rw [if_pos c5]; exact F _ (by omega)
  rw [if_neg c5]
  by_cases c6 : (l.length : Int) = 24
  · rw [if_pos c6]; exact G _ (by omega)
  have w : wrap64 (c - 1) = c - 1 := wrap64_in (by omega) (by omega)
  rw [if_neg c6, w]
  by_cases c7 : d = c - 1
  · rw [if_pos c7]; congr 1
    rw [Bool.eq_iff_iff]; simp only [decide_eq_true_eq]; omega
  · rw [if_neg c7]; exact F _ (by omega)
theorem spec_WireOk_ev (a b c d : Int) (l : List Int) (hl : l.length ≤ 1099511627776) : Ev (fun k => spec_WireOk.f k a b c d l) (wok a b c d l.length) := by
  have bad : wok a b c d l.length = false → Ev (fun k => spec_WireOk.j0 k true a b c d l) (wok a b c d l.length) := fun h => by
    rw [h]
    refine Ev.step (f := fun _ => some false) (fun k => ?_) (Ev.now _)
    simp only [spec_WireOk.j0]; rfl
  unfold spec_WireOk.f
  by_cases c0 : b < 1
  · simp only [if_pos c0]
    exact bad (by unfold wok; exact decide_eq_false (by omega))
  · simp only [if_neg c0]
    by_cases c1 : b > 1000000
    · simp only [decide_eq_true c1]
      exact bad (by unfold wok; exact decide_eq_false (by omega))
    · simp only [decide_eq_false c1]
      refine Ev.step (f := fun _ => some (wok a b c d l.length)) (fun k => ?_) (Ev.now _)
      simp only [spec_WireOk.j0, l20Chunk_eq _ _ _ _ _ hl, Option.bind_some]
      rw [if_neg (by decide)]
      unfold wok
      by_cases c2 : a = 1
      · rw [if_pos c2]; congr 1
        rw [Bool.eq_iff_iff]; simp only [decide_eq_true_eq]; omega
      · rw [if_neg c2]
        by_cases c3 : c = 0
        · rw [if_pos c3]
          by_cases c4 : (l.length : Int) > 0
          · rw [if_pos c4]; congr 1; exact (decide_eq_false (by omega)).symm
          · rw [if_neg c4]
            by_cases c5 : d < 0
            · rw [if_pos c5]; congr 1; exact (decide_eq_false (by omega)).symm
            · rw [if_neg c5]
              by_cases c6 : d > 900
              · rw [if_pos c6]; congr 1; refine (decide_eq_false ?_).symm; split <;> omega
              · rw [if_neg c6]
                by_cases c7 : a = 3
                · rw [if_pos c7]; congr 1; refine (decide_eq_true ?_).symm; rw [if_pos c7]; omega
                · rw [if_neg c7, if_neg c7]
                  by_cases c8 : a ≥ 2
                  · rw [if_pos c8]
                    by_cases c9 : a ≤ 5
                    · rw [if_pos c9]; congr 1
                      rw [Bool.eq_iff_iff]; simp only [decide_eq_true_eq, beq_iff_eq]; omega
                    · rw [if_neg c9]; congr 1; exact (decide_eq_false (by omega)).symm
                  · rw [if_neg c8]; congr 1; exact (decide_eq_false (by omega)).symm
        · rw [if_neg c3]; congr 1; exact (decide_eq_false (by omega)).symm

theorem toWireWord_ev (a b c d : Int) (l : List Int) (hl : l.length ≤ 1099511627776) : Ev (fun k => laws_toWireWord.f k a b c d l) (a, b, c, d, l) := by
  unfold laws_toWireWord.f
  exact Ev.bind (toByteS_ev l hl) (Ev.now _)

theorem eqWireWord_self (a b c d : Int) (l : List Int) (hl : l.length ≤ 1099511627776) : Ev (fun k => laws_eqWireWord.f k a b c d l a b c d l) true := by
  unfold laws_eqWireWord.f
  simp only [if_true]
  exact Ev.bind (eqByteS_self l hl) (Ev.now _)

theorem szWireWord_tells (a b c d : Int) (l : List Int) (n : Int) (ha0 : 0 ≤ n) (ha : n ≤ 1048576) (hl : l.length ≤ maxLen) : ∃ r, laws_szWireWord.f a b c d l n = some r ∧ (0 ≤ r → (l.length : Int) ≤ n ∧ r = n - l.length) := by
  obtain ⟨r, hr, h⟩ := szByteS_tells l n ha0 ha hl
  unfold laws_szWireWord.f
  rw [hr, Option.bind_some]
  split
  · exact ⟨-1, rfl, fun h => by omega⟩
  · exact ⟨r, rfl, h⟩

def cW (x : S37) : S40 := ⟨x.f0, x.f1, x.f2, x.f3, x.f4⟩
theorem toWireWordS_ev (l : List S37) (hl : l.length ≤ 1048576) (ha : ∀ x ∈ l, x.f4.length ≤ 1048576) : Ev (fun k => laws_toWireWordS.f k l) (l.map cW) := by
  unfold laws_toWireWordS.f
  simp only [if_pos (show 0 ≤ (l.length : Int) by omega), Int.toNat_natCast, if_pos (show l.length ≤ 5026338869833 by omega)]
  refine map_loop (L := fun k x i => laws_toWireWordS.l0 k l x i) (fun x => ?_) (fun i h x r hx hr => ?_)
  · refine Ev.step (f := fun _ => some x) (fun k => ?_) (Ev.now _)
    simp only [laws_toWireWordS.l0]; rw [if_neg (by omega)]
  · have w : wrap64 ((i : Int) + 1) = ((i + 1 : Nat) : Int) := by unfold wrap64; omega
    have hg : rd_T37 l (i : Int) = l[i] := by unfold rd_T37; rw [Int.toNat_natCast, getD_lt l _ i h]
    have hal := ha _ (List.getElem_mem h)
    refine Ev.step (f := fun k => (laws_toWireWord.f k (l[i]).f0 (l[i]).f1 (l[i]).f2 (l[i]).f3 (l[i]).f4).bind fun bt => (if (i : Int) < (x.length : Int) then (laws_toWireWordS.l0 k l (x.set i (⟨bt.1, bt.2.1, bt.2.2.1, bt.2.2.2.1, bt.2.2.2.2⟩ : S40)) ((i + 1 : Nat) : Int)) else none)) (fun k => ?_) ?_
    · simp only [laws_toWireWordS.l0]
      rw [if_pos (by omega), if_pos (by omega), hg, w, Int.toNat_natCast]
    · refine Ev.bind (toWireWord_ev _ _ _ _ _ (by omega)) ?_
      simp only [if_pos (show (i : Int) < (x.length : Int) by omega)]
      exact hr
theorem cW_lens (l : List S37) (ha : ∀ x ∈ l, x.f4.length ≤ 1048576) : ∀ x ∈ l.map cW, x.f4.length ≤ 1048576 := fun x hx => by
  obtain ⟨y, hy, rfl⟩ := List.mem_map.1 hx
  simpa [cW] using ha y hy

theorem eqWireWordS_self (l : List S40) (hl : l.length ≤ 1048576) (ha : ∀ x ∈ l, x.f4.length ≤ 1048576) : Ev (fun k => laws_eqWireWordS.f k l l) true := by
  unfold laws_eqWireWordS.f
  simp only [if_true]
  refine all_loop (L := fun k i => laws_eqWireWordS.l0 k l l i) (n := l.length) ?_ (fun i h hr => ?_)
  · refine Ev.step (f := fun _ => some true) (fun k => ?_) (Ev.now _)
    simp only [laws_eqWireWordS.l0]; rw [if_neg (by omega)]
  · have w : wrap64 ((i : Int) + 1) = ((i + 1 : Nat) : Int) := by unfold wrap64; omega
    have hg : rd_T40 l (i : Int) = l[i] := by unfold rd_T40; rw [Int.toNat_natCast, getD_lt l _ i h]
    have hal := ha _ (List.getElem_mem h)
    refine Ev.step (f := fun k => (laws_eqWireWord.f k (l[i]).f0 (l[i]).f1 (l[i]).f2 (l[i]).f3 (l[i]).f4 (l[i]).f0 (l[i]).f1 (l[i]).f2 (l[i]).f3 (l[i]).f4).bind fun t => (if t = true then (laws_eqWireWordS.l0 k l l ((i + 1 : Nat) : Int)) else (some false))) (fun k => ?_) ?_
    · simp only [laws_eqWireWordS.l0]
      rw [if_pos (by omega), if_pos (by omega), if_pos (by omega), hg, w]
    · refine Ev.bind (eqWireWord_self _ _ _ _ _ (by omega)) ?_
      simp only [if_true]
      exact hr

theorem szWireWordS_loop (l : List S37) (hl : l.length ≤ 1048576) (hm : ∀ x ∈ l, x.f4.length ≤ maxLen) (d : Nat) : ∀ (i : Nat) (a : Int), l.length - i = d → i ≤ l.length → 0 ≤ a → a ≤ 1048576 →
    Tells (fun k => laws_szWireWordS.l0 k l a (i : Int)) (fun r => 0 ≤ r → r ≤ a ∧ ∀ x ∈ l.drop i, x.f4.length ≤ 1048576) := by
  induction d with
  | zero =>
    intro i a hd hi ha0 ha
    obtain rfl : i = l.length := by omega
    refine Tells.step (f := fun _ => some a) (fun k => ?_) (Tells.now fun _ => ⟨Int.le_refl _, fun x hx => by simp at hx⟩)
    simp only [laws_szWireWordS.l0]; rw [if_neg (by omega)]
  | succ d ih =>
    intro i a hd hi ha0 ha
    have hlt : i < l.length := by omega
    have w : wrap64 ((i : Int) + 1) = ((i + 1 : Nat) : Int) := by unfold wrap64; omega
    have hg : rd_T37 l (i : Int) = l[i] := by unfold rd_T37; rw [Int.toNat_natCast, getD_lt l _ i hlt]
    obtain ⟨r, hr, h⟩ := szWireWord_tells (l[i]).f0 (l[i]).f1 (l[i]).f2 (l[i]).f3 (l[i]).f4 a ha0 ha (hm _ (List.getElem_mem hlt))
    by_cases c : r < 0
    · refine Tells.step (f := fun _ => some (-1)) (fun k => ?_) (Tells.now fun h => by omega)
      simp only [laws_szWireWordS.l0]
      rw [if_pos (by omega), if_pos (by omega), hg, hr, Option.bind_some, if_pos c]
    · have hh := h (by omega)
      refine Tells.step (fun k => ?_) ((ih (i + 1) r (by omega) (by omega) (by omega) (by omega)).mono fun r' hr' h0 => ?_)
      · simp only [laws_szWireWordS.l0]
        rw [if_pos (by omega), if_pos (by omega), hg, hr, Option.bind_some, if_neg c, w]
      · obtain ⟨h1, h2⟩ := hr' h0
        refine ⟨by omega, fun x hx => ?_⟩
        rw [List.drop_eq_getElem_cons hlt] at hx
        rcases List.mem_cons.1 hx with rfl | hx
        · omega
        · exact h2 x hx
theorem szWireWordS_tells (l : List S37) (a : Int) (ha0 : 0 ≤ a) (ha : a ≤ 1048576) (hl : l.length ≤ maxLen) (hm : ∀ x ∈ l, x.f4.length ≤ maxLen) :
    Tells (fun k => laws_szWireWordS.f k l a) (fun r => 0 ≤ r → r ≤ a ∧ l.length ≤ 1048576 ∧ ∀ x ∈ l, x.f4.length ≤ 1048576) := by
  unfold maxLen at hl
  unfold laws_szWireWordS.f
  have w : wrap64 (a - (l.length : Int)) = a - l.length := wrap64_in (by omega) (by omega)
  rw [w]
  by_cases c : a - (l.length : Int) < 0
  · simp only [if_pos c]; exact Tells.now fun h => by omega
  · simp only [if_neg c]
    refine (szWireWordS_loop l (by omega) hm l.length 0 (a - l.length) (by omega) (by omega) (by omega) (by omega)).mono fun r hr h0 => ?_
    obtain ⟨h1, h2⟩ := hr h0
    exact ⟨by omega, by omega, h2⟩

theorem markWireWordS_loop (l : List S40) (hl : l.length ≤ 1048576) (ha : ∀ x ∈ l, x.f4.length ≤ 1048576) (d : Nat) : ∀ (i : Nat) (a : Int), l.length - i = d → i ≤ l.length → 0 ≤ a → a ≤ 1 + 1048580 * (i : Int) →
    Tells (fun k => laws_markWireWordS.l0 k l a (i : Int)) (fun r => 0 ≤ r) := by
  induction d with
  | zero =>
    intro i a hd hi ha0 ha1
    obtain rfl : i = l.length := by omega
    refine Tells.step (f := fun _ => some a) (fun k => ?_) (Tells.now ha0)
    simp only [laws_markWireWordS.l0]; rw [if_neg (by omega)]
  | succ d ih =>
    intro i a hd hi ha0 ha1
    have hlt : i < l.length := by omega
    have w : wrap64 ((i : Int) + 1) = ((i + 1 : Nat) : Int) := by unfold wrap64; omega
    have hg : rd_T40 l (i : Int) = l[i] := by unfold rd_T40; rw [Int.toNat_natCast, getD_lt l _ i hlt]
    have hal := ha _ (List.getElem_mem hlt)
    have e : wrap64 (wrap64 (wrap64 (wrap64 (wrap64 (a + 1) + 1) + 1) + 1) + ((l[i]).f4.length : Int)) = a + 4 + (l[i]).f4.length := by unfold wrap64; omega
    refine Tells.step (fun k => ?_) (ih (i + 1) (a + 4 + (l[i]).f4.length) (by omega) (by omega) (by omega) (by push_cast; omega))
    simp only [laws_markWireWordS.l0]
    rw [if_pos (by omega), if_pos (by omega), hg, e, w]
theorem markWireWordS_tells (l : List S40) (hl : l.length ≤ 1048576) (ha : ∀ x ∈ l, x.f4.length ≤ 1048576) : Tells (fun k => laws_markWireWordS.f k l 1) (fun r => 0 ≤ r) := by
  unfold laws_markWireWordS.f
  exact markWireWordS_loop l hl ha l.length 0 1 (by omega) (by omega) (by omega) (by omega)

/-- Whether word i is the i-th piece of the thing. -/
def okw (xs : List S40) (x : S40) (i : Nat) : Bool := decide (x.f0 = 1) && (wok x.f0 x.f1 x.f2 x.f3 x.f4.length && (decide (x.f1 = (rd_T40 xs 0).f1) && (decide (x.f2 = (xs.length : Int)) && decide (x.f3 = (i : Int)))))
/-- What is joined from word i on. -/
def jn (xs : List S40) : List S40 → Nat → List Int → List Int × Bool
  | [], _, acc => (acc, decide ((xs.length : Int) > 0))
  | x :: ys, i, acc => if okw xs x i = true then jn xs ys (i + 1) (acc ++ x.f4) else ([], false)
theorem jn_len (xs : List S40) : ∀ (ys : List S40) (i : Nat) (acc : List Int), ys.length + i ≤ 1048576 → (∀ x ∈ ys, x.f4.length ≤ 1048576) → acc.length ≤ 1048576 * i → (jn xs ys i acc).1.length ≤ 1099511627776
  | [], i, acc, hy, ha, hc => by
    show acc.length ≤ _
    simp at hy
    omega
  | x :: ys, i, acc, hy, ha, hc => by
    unfold jn
    split
    · have h1 := ha x (List.mem_cons_self ..)
      exact jn_len xs ys (i + 1) _ (by rw [List.length_cons] at hy; omega) (fun z hz => ha z (List.mem_cons_of_mem _ hz)) (by rw [List.length_append]; omega)
    · simp
theorem spec_WireJoin_loop (xs : List S40) (hl : xs.length ≤ 1048576) (ha : ∀ x ∈ xs, x.f4.length ≤ 1048576) (d : Nat) : ∀ (i : Nat) (acc : List Int), xs.length - i = d → i ≤ xs.length → acc.length ≤ 1048576 * i →
    Ev (fun k => spec_WireJoin.l0 k xs acc (i : Int)) (jn xs (xs.drop i) i acc) := by
  induction d with
  | zero =>
    intro i acc hd hi hc
    obtain rfl : i = xs.length := by omega
    rw [List.drop_length]
    refine Ev.step (f := fun _ => some _) (fun k => ?_) (Ev.now _)
    simp only [spec_WireJoin.l0]; rw [if_neg (by omega)]; rfl
  | succ d ih =>
    intro i acc hd hi hc
    have hlt : i < xs.length := by omega
    have w : wrap64 ((i : Int) + 1) = ((i + 1 : Nat) : Int) := by unfold wrap64; omega
    have hg : rd_T40 xs (i : Int) = xs[i] := by unfold rd_T40; rw [Int.toNat_natCast, getD_lt xs _ i hlt]
    have hal := ha _ (List.getElem_mem hlt)
    have hr := ih (i + 1) (acc ++ (xs[i]).f4) (by omega) (by omega) (by rw [List.length_append]; omega)
    rw [List.drop_eq_getElem_cons hlt]
    generalize xs[i] = x at hg hal hr
    have nope : okw xs x i = false → jn xs (x :: xs.drop (i + 1)) i acc = ([], false) := fun h => by unfold jn; rw [h]; rfl
    by_cases c0 : x.f0 = 1
    · refine Ev.step (f := fun k => (spec_WireOk.f k x.f0 x.f1 x.f2 x.f3 x.f4).bind fun t => (if t = true then (if x.f1 = (rd_T40 xs 0).f1 then (if x.f2 = (xs.length : Int) then (if x.f3 = (i : Int) then (if acc.length + x.f4.length < 140737488355328 then (spec_WireJoin.l0 k xs (acc ++ x.f4) ((i + 1 : Nat) : Int)) else none) else (some ([], false))) else (some ([], false))) else (some ([], false))) else (some ([], false)))) (fun k => ?_) ?_
      · simp only [spec_WireJoin.l0]
        rw [if_pos (by omega), if_pos (by omega), hg, if_pos c0, if_pos (show 0 < (xs.length : Int) by omega), w]
      · refine Ev.bind (spec_WireOk_ev x.f0 x.f1 x.f2 x.f3 x.f4 (by omega)) ?_
        cases c1 : wok x.f0 x.f1 x.f2 x.f3 x.f4.length
        · rw [nope (by unfold okw; rw [c1]; simp)]
          exact Ev.now _
        · simp only [if_true]
          by_cases c2 : x.f1 = (rd_T40 xs 0).f1
          · simp only [if_pos c2]
            by_cases c3 : x.f2 = (xs.length : Int)
            · simp only [if_pos c3]
              by_cases c4 : x.f3 = (i : Int)
              · simp only [if_pos c4, if_pos (show acc.length + x.f4.length < 140737488355328 by omega)]
                have hk : jn xs (x :: xs.drop (i + 1)) i acc = jn xs (xs.drop (i + 1)) (i + 1) (acc ++ x.f4) := by
                  have ho : okw xs x i = true := by unfold okw; rw [c1, decide_eq_true c0, decide_eq_true c2, decide_eq_true c3, decide_eq_true c4]; rfl
                  rw [jn, if_pos ho]
                rw [hk]
                exact hr
              · simp only [if_neg c4]
                rw [nope (by unfold okw; rw [decide_eq_false c4]; simp)]
                exact Ev.now _
            · simp only [if_neg c3]
              rw [nope (by unfold okw; rw [decide_eq_false c3]; simp)]
              exact Ev.now _
          · simp only [if_neg c2]
            rw [nope (by unfold okw; rw [decide_eq_false c2]; simp)]
            exact Ev.now _
    · refine Ev.step (f := fun _ => some ([], false)) (fun k => ?_) ?_
      · simp only [spec_WireJoin.l0]
        rw [if_pos (by omega), if_pos (by omega), hg, if_neg c0]
      · rw [nope (by unfold okw; rw [decide_eq_false c0]; simp)]
        exact Ev.now _
theorem spec_WireJoin_ev (xs : List S40) (hl : xs.length ≤ 1048576) (ha : ∀ x ∈ xs, x.f4.length ≤ 1048576) : Ev (fun k => spec_WireJoin.f k xs) (jn xs xs 0 []) := by
  unfold spec_WireJoin.f
  exact spec_WireJoin_loop xs hl ha xs.length 0 [] (by omega) (by omega) (by simp)

theorem impl_WireJoin_loop (xs : List S40) (hl : xs.length ≤ 1048576) (ha : ∀ x ∈ xs, x.f4.length ≤ 1048576) (d : Nat) : ∀ (i : Nat) (acc : List Int), xs.length - i = d → i ≤ xs.length → acc.length ≤ 1048576 * i →
    Ev (fun k => impl_WireJoin.l0 k xs acc xs (xs.length : Int) (i : Int)) (jn xs (xs.drop i) i acc) := by
  induction d with
  | zero =>
    intro i acc hd hi hc
    obtain rfl : i = xs.length := by omega
    rw [List.drop_length]
    refine Ev.step (f := fun _ => some _) (fun k => ?_) (Ev.now _)
    simp only [impl_WireJoin.l0]; rw [if_neg (by omega), clone_eq acc (by omega)]; rfl
  | succ d ih =>
    intro i acc hd hi hc
    have hlt : i < xs.length := by omega
    have w : wrap64 ((i : Int) + 1) = ((i + 1 : Nat) : Int) := by unfold wrap64; omega
    have hg : rd_T40 xs (i : Int) = xs[i] := by unfold rd_T40; rw [Int.toNat_natCast, getD_lt xs _ i hlt]
    have hal := ha _ (List.getElem_mem hlt)
    have hr := ih (i + 1) (acc ++ (xs[i]).f4) (by omega) (by omega) (by rw [List.length_append]; omega)
    rw [List.drop_eq_getElem_cons hlt]
    generalize xs[i] = x at hg hal hr
    have nope : okw xs x i = false → jn xs (x :: xs.drop (i + 1)) i acc = ([], false) := fun h => by unfold jn; rw [h]; rfl
    by_cases c0 : x.f0 = 1
    · refine Ev.step (f := fun k => (impl_WireOk.f k x.f0 x.f1 x.f2 x.f3 x.f4).bind fun t => (if t = true then (if x.f1 = (rd_T40 xs 0).f1 then (if x.f2 = (xs.length : Int) then (if x.f3 = (i : Int) then (if acc.length + x.f4.length < 140737488355328 then (impl_WireJoin.l0 k xs (acc ++ x.f4) xs (xs.length : Int) ((i + 1 : Nat) : Int)) else none) else (some ([], false))) else (some ([], false))) else (some ([], false))) else (some ([], false)))) (fun k => ?_) ?_
      · simp only [impl_WireJoin.l0]
        rw [if_pos (by omega), if_pos (by omega), if_pos (by omega), hg, if_pos c0, if_pos (show 0 < (xs.length : Int) by omega), w]
      · refine Ev.bind (impl_WireOk_ev x.f0 x.f1 x.f2 x.f3 x.f4 (by omega)) ?_
        cases c1 : wok x.f0 x.f1 x.f2 x.f3 x.f4.length
        · rw [nope (by unfold okw; rw [c1]; simp)]
          exact Ev.now _
        · simp only [if_true]
          by_cases c2 : x.f1 = (rd_T40 xs 0).f1
          · simp only [if_pos c2]
            by_cases c3 : x.f2 = (xs.length : Int)
            · simp only [if_pos c3]
              by_cases c4 : x.f3 = (i : Int)
              · simp only [if_pos c4, if_pos (show acc.length + x.f4.length < 140737488355328 by omega)]
                have hk : jn xs (x :: xs.drop (i + 1)) i acc = jn xs (xs.drop (i + 1)) (i + 1) (acc ++ x.f4) := by
                  have ho : okw xs x i = true := by unfold okw; rw [c1, decide_eq_true c0, decide_eq_true c2, decide_eq_true c3, decide_eq_true c4]; rfl
                  rw [jn, if_pos ho]
                rw [hk]
                exact hr
              · simp only [if_neg c4]
                rw [nope (by unfold okw; rw [decide_eq_false c4]; simp)]
                exact Ev.now _
            · simp only [if_neg c3]
              rw [nope (by unfold okw; rw [decide_eq_false c3]; simp)]
              exact Ev.now _
          · simp only [if_neg c2]
            rw [nope (by unfold okw; rw [decide_eq_false c2]; simp)]
            exact Ev.now _
    · refine Ev.step (f := fun _ => some ([], false)) (fun k => ?_) ?_
      · simp only [impl_WireJoin.l0]
        rw [if_pos (by omega), if_pos (by omega), if_pos (by omega), hg, if_neg c0]
      · rw [nope (by unfold okw; rw [decide_eq_false c0]; simp)]
        exact Ev.now _
theorem impl_WireJoin_ev (xs : List S40) (hl : xs.length ≤ 1048576) (ha : ∀ x ∈ xs, x.f4.length ≤ 1048576) : Ev (fun k => impl_WireJoin.f k xs) (jn xs xs 0 []) := by
  unfold impl_WireJoin.f
  exact impl_WireJoin_loop xs hl ha xs.length 0 [] (by omega) (by omega) (by simp)

theorem holds (l : List S37) (hl : l.length ≤ maxLen) (hm : ∀ x ∈ l, x.f4.length ≤ maxLen) : ∃ k, laws_FnExactWireJoin.f k l = some true := by
  refine Tells.rounds ?_
  unfold laws_FnExactWireJoin.f
  refine Tells.bind (szWireWordS_tells l 1048576 (by decide) (by decide) hl hm) fun r hr => ?_
  by_cases c : r < 0
  · simp only [if_pos c]; exact Tells.now rfl
  · simp only [if_neg c]
    obtain ⟨_, hl1, hm1⟩ := hr (by omega)
    have hx : (l.map cW).length ≤ 1048576 := by rw [List.length_map]; exact hl1
    have hy := cW_lens l hm1
    have hp : (jn (l.map cW) (l.map cW) 0 []).1.length ≤ 1099511627776 := jn_len _ _ 0 [] (by omega) hy (by simp)
    refine Tells.bindEv (toWireWordS_ev l hl1 hm1) ?_
    refine Tells.bindEv (spec_WireJoin_ev _ hx hy) ?_
    refine Tells.bindEv (toWireWordS_ev l hl1 hm1) ?_
    refine Tells.bindEv (impl_WireJoin_ev _ hx hy) ?_
    refine Tells.bindEv (eqByteS_self _ hp) ?_
    simp only [if_true]
    refine Tells.step (fun k => by simp only [laws_FnExactWireJoin.j0, bne_self_eq_false]; rfl) ?_
    refine Tells.bindEv (toWireWordS_ev l hl1 hm1) ?_
    refine Tells.bindEv (eqWireWordS_self _ hx hy) ?_
    simp only [if_true]
    refine Tells.bind (markWireWordS_tells _ hx hy) fun r2 hr2 => ?_
    simp only [if_neg (show ¬ (r2 < 0) by omega)]
    refine Tells.bindEv (eqByteS_self _ hp) ?_
    simp only [if_true]
    refine Tells.step (fun k => by simp only [laws_FnExactWireJoin.j1, bne_self_eq_false]; rfl) ?_
    refine Tells.bindEv (mark_ev _ hp) ?_
    refine Tells.bindEv (held_ev _ hp) ?_
    simp only [if_neg (show ¬ (((jn (l.map cW) (l.map cW) 0 []).1.length : Int) + 1 < 0) by omega), if_true]
    refine Tells.bindEv (toWireWordS_ev l hl1 hm1) ?_
    refine Tells.bindEv (impl_WireJoin_ev _ hx hy) ?_
    refine Tells.bindEv (eqByteS_self _ hp) ?_
    simp only [if_true]
    refine Tells.step (fun k => by simp only [laws_FnExactWireJoin.j2, bne_self_eq_false]; rfl) ?_
    refine Tells.bindEv (held_ev _ hp) ?_
    simp only [if_neg (show ¬ (((jn (l.map cW) (l.map cW) 0 []).1.length : Int) + 1 < 0) by omega), if_true]
    exact Tells.now rfl

end Go.Proofs.Ytoeijldmebocmaa.BFnExactWireJoin
