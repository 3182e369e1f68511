/- What the printed functions tell that the law FnExactPicBytes reaches, over numbers and lists alone. -/
import Derived.Test.YtoeijldmebocmaaFx1
import Derived.Test.YtoeijldmebocmaaFx2
import Derived.Test.YtoeijldmebocmaaFx3
import Derived.Test.YtoeijldmebocmaaFx4
import Derived.Test.YtoeijldmebocmaaTell
namespace Go.Proofs.Ytoeijldmebocmaa.BFnExactPicBytes
open Go Go.RowKit Go.Proofs.Ytoeijldmebocmaa.Tell Go.Proofs.Ytoeijldmebocmaa.F Go.Proofs.YtoeijldmebocmaaW.PrintWords Go.Proofs.YtoeijldmebocmaaW.PrintLast Go.Proofs.YtoeijldmebocmaaW.PrintMore
set_option linter.unusedVariables false
set_option linter.unusedSimpArgs false

theorem eqByteS_loop (l : List Int) (hl : l.length ≤ 1099511627776) (d : Nat) : ∀ i : Nat, l.length - i = d → i ≤ l.length → Ev (fun k => laws_eqByteS.l0 k l l (i : Int)) true := by
  induction d with
  | zero =>
    intro i hd hi
    refine Ev.step (f := fun _ => some true) (fun k => ?_) (Ev.now _)
    simp only [laws_eqByteS.l0]
    rw [if_neg (by omega)]
  | succ d ih =>
    intro i hd hi
    refine Ev.step (fun k => ?_) (ih (i + 1) (by omega) (by omega))
    simp only [laws_eqByteS.l0]
    have w : wrap64 ((i : Int) + 1) = ((i + 1 : Nat) : Int) := by unfold wrap64; omega
    rw [if_pos (by omega), if_pos (by omega), if_pos (by omega), if_pos trivial, w]
theorem eqByteS_self (l : List Int) (hl : l.length ≤ 1099511627776) : Ev (fun k => laws_eqByteS.f k l l) true := by
  unfold laws_eqByteS.f
  simp only [if_true]
  exact eqByteS_loop l hl l.length 0 (by omega) (by omega)

/-- The marks of n bytes. -/
def marks (n : Nat) : List Int := (List.range n).map fun (i : Nat) => ((i : Int) + 1) % 256
theorem marks_length (n : Nat) : (marks n).length = n := by simp [marks]
theorem mark_loop (l : List Int) (hl : l.length ≤ 1099511627776) (d : Nat) : ∀ i : Nat, l.length - i = d → i ≤ l.length →
    Ev (fun k => laws_markByteS.l0 k (marks i ++ l.drop i) ((i : Int) + 1) (i : Int)) ((l.length : Int) + 1, marks l.length) := by
  induction d with
  | zero =>
    intro i hd hi
    obtain rfl : i = l.length := by omega
    refine Ev.step (f := fun _ => some ((l.length : Int) + 1, marks l.length)) (fun k => ?_) (Ev.now _)
    simp only [laws_markByteS.l0]
    rw [if_neg (by simp [marks_length])]; simp
  | succ d ih =>
    intro i hd hi
    refine Ev.step (fun k => ?_) (ih (i + 1) (by omega) (by omega))
    simp only [laws_markByteS.l0]
    have w : wrap64 ((i : Int) + 1) = ((i + 1 : Nat) : Int) := by unfold wrap64; omega
    have w2 : wrap64 ((i : Int) + 1 + 1) = (((i + 1 : Nat) : Int)) + 1 := by unfold wrap64; omega
    have hlt : i < l.length := by omega
    have hs : (marks i ++ l.drop i).set i (((i : Int) + 1) % 256) = marks (i + 1) ++ l.drop (i + 1) := by
      rw [List.set_append_right _ _ (by rw [marks_length]; omega), marks_length, Nat.sub_self, List.drop_eq_getElem_cons hlt, List.set_cons_zero]
      unfold marks
      rw [List.range_succ, List.map_append, List.append_assoc]; rfl
    rw [if_pos (by rw [List.length_append, marks_length, List.length_drop]; omega), if_pos (by omega), w, w2, Int.toNat_natCast, hs]
theorem mark_ev (l : List Int) (hl : l.length ≤ 1099511627776) : Ev (fun k => laws_markByteS.f k l 1) ((l.length : Int) + 1, marks l.length) := by
  unfold laws_markByteS.f
  have h := mark_loop l hl l.length 0 (by omega) (by omega)
  simpa [marks] using h

theorem held_loop (n : Nat) (hn : n ≤ 1099511627776) (d : Nat) : ∀ i : Nat, n - i = d → i ≤ n →
    Ev (fun k => laws_heldByteS.l0 k (marks n) ((i : Int) + 1) (i : Int)) ((n : Int) + 1) := by
  induction d with
  | zero =>
    intro i hd hi
    obtain rfl : i = n := by omega
    refine Ev.step (f := fun _ => some ((i : Int) + 1)) (fun k => ?_) (Ev.now _)
    simp only [laws_heldByteS.l0]
    rw [if_neg (by rw [marks_length]; omega)]
  | succ d ih =>
    intro i hd hi
    refine Ev.step (fun k => ?_) (ih (i + 1) (by omega) (by omega))
    simp only [laws_heldByteS.l0]
    have w : wrap64 ((i : Int) + 1) = ((i + 1 : Nat) : Int) := by unfold wrap64; omega
    have w2 : wrap64 ((i : Int) + 1 + 1) = (((i + 1 : Nat) : Int)) + 1 := by unfold wrap64; omega
    have hr : rd (marks n) (i : Int) = ((i : Int) + 1) % 256 := by
      unfold rd marks
      rw [Int.toNat_natCast, List.getD_eq_getElem?_getD, List.getElem?_map, List.getElem?_range (by omega)]; rfl
    rw [if_pos (by rw [marks_length]; omega), if_pos (by omega), if_pos hr, w, w2]
theorem held_ev (n : Nat) (hn : n ≤ 1099511627776) : Ev (fun k => laws_heldByteS.f k (marks n) 1) ((n : Int) + 1) := by
  unfold laws_heldByteS.f
  have h := held_loop n hn n 0 (by omega) (by omega)
  simpa using h

theorem clone_eq (l : List Int) (hl : l.length < 140737488355328) : impl_clone_byte.f l = some l := by
  unfold impl_clone_byte.f
  simp only [Option.bind_some, List.length_nil, Nat.zero_add, List.nil_append]
  rw [if_pos hl]

theorem digit_ev (c : Int) : ∃ t, Ev (fun k => spec_l17Digit.f k c) t := by
  have j : ∀ b : Bool, ∃ t, Ev (fun k => spec_l17Digit.j0 k c b) t := by
    intro b
    cases b
    · by_cases c1 : c ≥ 97
      · by_cases c2 : c ≤ 102
        · exact ⟨(c - 97) % 256 + 10, Ev.step (f := fun _ => some ((c - 97) % 256 + 10)) (fun k => by simp [spec_l17Digit.j0, c1, c2]) (Ev.now _)⟩
        · exact ⟨-1, Ev.step (f := fun _ => some (-1)) (fun k => by simp [spec_l17Digit.j0, c1, c2]) (Ev.now _)⟩
      · exact ⟨-1, Ev.step (f := fun _ => some (-1)) (fun k => by simp [spec_l17Digit.j0, c1]) (Ev.now _)⟩
    · exact ⟨(c - 48) % 256, Ev.step (f := fun _ => some ((c - 48) % 256)) (fun k => by simp [spec_l17Digit.j0]) (Ev.now _)⟩
  unfold spec_l17Digit.f
  by_cases c0 : c ≥ 48
  · simp only [if_pos c0]; exact j _
  · simp only [if_neg c0]; exact j _
theorem same_loop : ∀ (k : Nat) (s : ByteArray) (xs : List Int) (i : Int), impl_hexBytes.l0 k s xs i = spec_PicBytes.l0 k s xs i
  | 0, _, _, _ => rfl
  | k + 1, s, xs, i => by simp only [impl_hexBytes.l0, spec_PicBytes.l0, same_loop k]
theorem loop_ev (s : ByteArray) (n : Nat) (hs : s.size = 2 * n) (hn : n ≤ 1048576) (d : Nat) : ∀ (j : Nat) (xs : List Int), n - j = d → j ≤ n → xs.length = j →
    ∃ r : List Int × Bool, Ev (fun k => spec_PicBytes.l0 k s xs ((2 * j : Nat) : Int)) r ∧ (r = ([], false) ∨ (r.2 = true ∧ r.1.length = n)) := by
  induction d with
  | zero =>
    intro j xs hd hj hx
    refine ⟨(xs, true), Ev.step (f := fun _ => some (xs, true)) (fun k => ?_) (Ev.now _), .inr ⟨rfl, by show xs.length = n; omega⟩⟩
    simp only [spec_PicBytes.l0]
    rw [if_neg (by omega)]
  | succ d ih =>
    intro j xs hd hj hx
    obtain ⟨a, ha⟩ := digit_ev (bt s ((2 * j : Nat) : Int))
    obtain ⟨b, hb⟩ := digit_ev (bt s ((2 * j + 1 : Nat) : Int))
    have w1 : wrap64 (((2 * j : Nat) : Int) + 1) = ((2 * j + 1 : Nat) : Int) := by unfold wrap64; omega
    have w2 : wrap64 (((2 * j : Nat) : Int) + 2) = ((2 * (j + 1) : Nat) : Int) := by unfold wrap64; omega
    have go : ∀ r, Ev (fun k => (if a < 0 then some (([] : List Int), false) else (if b < 0 then some (([] : List Int), false) else (if xs.length < 140737488355328 then spec_PicBytes.l0 k s (xs ++ [(wrap64 ((wrap64 (a * 16)) + b)) % 256]) ((2 * (j + 1) : Nat) : Int) else none)))) r → Ev (fun k => spec_PicBytes.l0 k s xs ((2 * j : Nat) : Int)) r := by
      intro r hr
      refine Ev.step (f := fun k => (spec_l17Digit.f k (bt s ((2 * j : Nat) : Int))).bind fun t108 => (spec_l17Digit.f k (bt s ((2 * j + 1 : Nat) : Int))).bind fun t109 => (if t108 < 0 then some (([] : List Int), false) else (if t109 < 0 then some (([] : List Int), false) else (if xs.length < 140737488355328 then spec_PicBytes.l0 k s (xs ++ [(wrap64 ((wrap64 (t108 * 16)) + t109)) % 256]) ((2 * (j + 1) : Nat) : Int) else none)))) (fun k => ?_) (Ev.bind ha (Ev.bind hb hr))
      simp only [spec_PicBytes.l0]
      rw [if_pos (by omega), if_pos (by omega), w1, w2]
      simp only [if_pos (show (0 : Int) ≤ ((2 * j + 1 : Nat) : Int) by omega), if_pos (show ((2 * j + 1 : Nat) : Int) < (s.size : Int) by omega)]
    by_cases c1 : a < 0
    · exact ⟨([], false), go _ (by simp only [if_pos c1]; exact Ev.now _), .inl rfl⟩
    · by_cases c2 : b < 0
      · exact ⟨([], false), go _ (by simp only [if_neg c1, if_pos c2]; exact Ev.now _), .inl rfl⟩
      · obtain ⟨r, hr, h⟩ := ih (j + 1) (xs ++ [(wrap64 ((wrap64 (a * 16)) + b)) % 256]) (by omega) (by omega) (by simp [hx])
        exact ⟨r, go _ (by simp only [if_neg c1, if_neg c2, if_pos (show xs.length < 140737488355328 by omega)]; exact hr), h⟩
theorem both (s : ByteArray) (hs : s.size ≤ 1048576) : ∃ r : List Int × Bool, Ev (fun k => spec_PicBytes.f k s) r ∧ Ev (fun k => impl_PicBytes.f k s) r ∧ r.1.length ≤ 1048576 := by
  unfold spec_PicBytes.f impl_PicBytes.f impl_hexBytes.f
  have no : Ev (fun k => spec_PicBytes.j0 k s true) ([], false) := Ev.step (f := fun _ => some ([], false)) (fun k => by simp [spec_PicBytes.j0]) (Ev.now _)
  by_cases c : (s.size : Int) % 2 = 1
  · simp only [if_pos c, if_neg (show ¬ (s.size : Int) % 2 = 0 by omega)]
    exact ⟨([], false), no, Ev.bind (Ev.now _) (Ev.now _), by simp⟩
  · simp only [if_neg c, if_pos (show (s.size : Int) % 2 = 0 by omega), same_loop]
    obtain ⟨r, hr, h⟩ := loop_ev s (s.size / 2) (by omega) (by omega) _ 0 [] rfl (by omega) rfl
    by_cases c2 : (s.size : Int) > 40016
    · rw [decide_eq_true c2]
      refine ⟨([], false), no, Ev.bind hr ?_, by simp⟩
      rcases h with rfl | ⟨h1, h2⟩
      · exact Ev.now _
      · simp only [if_pos h1, if_pos (show (r.1.length : Int) > 20008 by omega)]
        exact Ev.now _
    · rw [decide_eq_false c2]
      refine ⟨r, Ev.step (f := fun k => spec_PicBytes.l0 k s [] 0) (fun k => by simp [spec_PicBytes.j0]) hr, Ev.bind hr ?_, ?_⟩
      · rcases h with rfl | ⟨h1, h2⟩
        · exact Ev.now _
        · simp only [if_pos h1, if_neg (show ¬ (r.1.length : Int) > 20008 by omega), clone_eq r.1 (by omega), Option.bind_some]
          obtain ⟨l, b⟩ := r
          obtain rfl : b = true := h1
          exact Ev.now _
      · rcases h with rfl | ⟨h1, h2⟩
        · simp
        · omega
theorem FnExactPicBytes : laws_FnExactPicBytes.Pure := by
  intro s hs
  refine Tells.rounds ?_
  unfold laws_FnExactPicBytes.f
  by_cases c : (s.size : Int) > 1048576
  · simp only [if_pos c]; exact Tells.now rfl
  · simp only [if_neg c]
    obtain ⟨r, h1, h2, h3⟩ := both s (by omega)
    have hp : r.1.length ≤ 1099511627776 := by omega
    refine Tells.bindEv h1 ?_
    refine Tells.bindEv h2 ?_
    refine Tells.bindEv (eqByteS_self _ hp) ?_
    simp only [if_true]
    refine Tells.step (fun k => by simp only [laws_FnExactPicBytes.j0, bne_self_eq_false]; rfl) ?_
    refine Tells.bindEv (mark_ev _ hp) ?_
    refine Tells.bindEv (held_ev _ hp) ?_
    simp only [if_neg (show ¬ ((r.1.length : Int) + 1 < 0) by omega), if_true]
    refine Tells.bindEv h2 ?_
    refine Tells.bindEv (eqByteS_self _ hp) ?_
    simp only [if_true, bne_self_eq_false]
    refine Tells.step (fun k => by simp only [laws_FnExactPicBytes.j1]; rfl) ?_
    refine Tells.bindEv (held_ev _ hp) ?_
    simp only [if_neg (show ¬ ((r.1.length : Int) + 1 < 0) by omega), if_true]
    exact Tells.now rfl

end Go.Proofs.Ytoeijldmebocmaa.BFnExactPicBytes
