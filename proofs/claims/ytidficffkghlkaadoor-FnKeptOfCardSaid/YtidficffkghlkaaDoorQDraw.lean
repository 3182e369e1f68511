/- What the reader of a code tells. -/
import Derived.Test.YtidficffkghlkaaDoorFx1
import Derived.Test.YtidficffkghlkaaDoorFx2
import Derived.Test.YtidficffkghlkaaDoorTell
namespace Go.Proofs.YtidficffkghlkaaDoor.QDraw
open Go Go.RowKit Go.Proofs.YtidficffkghlkaaDoor.Tell Go.Proofs.YtidficffkghlkaaDoor.F Go.Proofs.YtidficffkghlkaaDoorW.PrintWords Go.Proofs.YtidficffkghlkaaDoorW.PrintLast Go.Proofs.YtidficffkghlkaaDoorW.PrintMore
set_option linter.unusedVariables false
set_option linter.unusedSimpArgs false

theorem open_tells (l : List Int) (hl : Bytes l) (hn : l.length ≤ 1048576) : ∃ b : List Int, spec_l26Open.f l = some (b, 0) ∧ Bytes b ∧ b.length ≤ 2000 := by
  unfold spec_l26Open.f
  by_cases c : (l.length : Int) > 2000
  · refine ⟨l.take 2000, ?_, bytes_take hl _, by simp; omega⟩
    rw [if_pos c, if_pos (by omega)]
  · exact ⟨l, by rw [if_neg c], hl, by omega⟩

theorem pick_tells {b : List Int} (hb : Bytes b) (hl : b.length ≤ 2000) {p n : Int} (hp0 : 0 ≤ p) (hp : p ≤ 1000000000) (hn : 1 ≤ n) (hn2 : n ≤ 1000000000) :
    Tells (fun k => spec_l26Rd_pick.f k b p n) (fun r => 0 ≤ r.1 ∧ r.1 < n ∧ r.2 = p + 1) := by
  have w1 : wrap64 (p + 1) = p + 1 := wrap64_in (by omega) (by omega)
  have w2 : wrap64 (p + 1 - 1) = p := by unfold wrap64; omega
  refine Tells.step (f := fun _ => ?f) (fun k => ?_) ?_
  case f => exact spec_l26Rd_pick.j0 1 n ((b.length : Int) == 0) b (p + 1)
  · unfold spec_l26Rd_pick.f
    rw [if_neg (by omega), w1]
    simp only [spec_l26Rd_pick.j0]
  · simp only [spec_l26Rd_pick.j0]
    by_cases c0 : (b.length : Int) = 0
    · rw [if_pos (by simpa using c0)]
      exact Tells.now ⟨by omega, by omega, rfl⟩
    · rw [if_neg (by simpa using c0), w2]
      have hlen : 0 < (b.length : Int) := by omega
      by_cases c1 : p < (b.length : Int)
      · rw [if_pos c1, if_pos hp0, if_neg (by omega)]
        have hr := rd_byte hb p
        rw [wrap64_in (by omega) (by omega)]
        have ht := tmod_range (rd b p) n hr.1 (by omega)
        exact Tells.now ⟨ht.1, ht.2, rfl⟩
      · rw [if_neg c1, if_neg c0]
        have w3 : wrap64 (wrap64 (p * 7) + 3) = p * 7 + 3 := by rw [wrap64_in (n := p * 7) (by omega) (by omega), wrap64_in (by omega) (by omega)]
        have h1 := tmod_range p b.length hp0 hlen
        have h2 := tmod_range (p * 7 + 3) b.length (by omega) hlen
        rw [w3, if_pos h1.1, if_pos h1.2, if_pos h2.1, if_pos h2.2, if_neg (by omega)]
        have r1 := rd_byte hb (Int.tmod p (b.length : Int))
        have r2 := rd_byte hb (Int.tmod (p * 7 + 3) (b.length : Int))
        have hd0 : 0 ≤ Int.tdiv p (b.length : Int) := Int.tdiv_nonneg hp0 (by omega)
        have hd1 : Int.tdiv p (b.length : Int) ≤ p := by
          rw [Int.tdiv_eq_ediv_of_nonneg hp0]; exact Int.ediv_le_self _ hp0
        generalize rd b (Int.tmod p (b.length : Int)) = x1 at r1
        generalize rd b (Int.tmod (p * 7 + 3) (b.length : Int)) = x2 at r2
        generalize Int.tdiv p (b.length : Int) = x3 at hd0 hd1
        have e1 : wrap64 (wrap64 x1 * 131) = x1 * 131 := by rw [wrap64_in (n := x1) (by omega) (by omega), wrap64_in (by omega) (by omega)]
        have e2 : wrap64 (wrap64 x2 * 1117) = x2 * 1117 := by rw [wrap64_in (n := x2) (by omega) (by omega), wrap64_in (by omega) (by omega)]
        have e3 : wrap64 (p * 29) = p * 29 := wrap64_in (by omega) (by omega)
        have e4 : wrap64 (wrap64 x3 * 53) = x3 * 53 := by rw [wrap64_in (n := x3) (by omega) (by omega), wrap64_in (by omega) (by omega)]
        have e5 : wrap64 (x1 * 131 + x2 * 1117) = x1 * 131 + x2 * 1117 := wrap64_in (by omega) (by omega)
        have e6 : wrap64 (x1 * 131 + x2 * 1117 + p * 29) = x1 * 131 + x2 * 1117 + p * 29 := wrap64_in (by omega) (by omega)
        have e7 : wrap64 (x1 * 131 + x2 * 1117 + p * 29 + x3 * 53) = x1 * 131 + x2 * 1117 + p * 29 + x3 * 53 := wrap64_in (by omega) (by omega)
        simp only [e1, e2, e3, e4, e5, e6, e7]
        have hy0 : 0 ≤ x1 * 131 + x2 * 1117 + p * 29 + x3 * 53 := by omega
        have hy1 : x1 * 131 + x2 * 1117 + p * 29 + x3 * 53 < 4611686018427387904 := by omega
        generalize x1 * 131 + x2 * 1117 + p * 29 + x3 * 53 = y at hy0 hy1
        have e8 : wrap64 (Int.tdiv y 64) = y / 64 := by rw [Int.tdiv_eq_ediv_of_nonneg hy0]; exact wrap64_in (by omega) (by omega)
        rw [e8]
        have hx := xor_nonneg y (y / 64) hy0 hy1 (by omega) (by omega)
        have ht := tmod_range _ n hx (by omega)
        exact Tells.now ⟨ht.1, ht.2, rfl⟩

theorem num_tells {b : List Int} (hb : Bytes b) (hl : b.length ≤ 2000) {p : Int} (hp0 : 0 ≤ p) (hp : p ≤ 1000000000) (xs : List Int) (h1 : 1 ≤ xs.length) (h2 : xs.length ≤ 1000) :
    Tells (fun k => spec_l26Rd_num.f k b p xs) (fun r => r.1 ∈ xs ∧ r.2 = p + 1) := by
  unfold spec_l26Rd_num.f
  refine Tells.bind (pick_tells hb hl hp0 hp (n := (xs.length : Int)) (by omega) (by omega)) ?_
  rintro ⟨v, q⟩ ⟨h3, h4, h5⟩
  dsimp only at h3 h4 h5 ⊢
  rw [if_pos h3, if_pos h4]
  refine Tells.now ⟨?_, h5⟩
  unfold rd
  have hi : v.toNat < xs.length := by omega
  dsimp only
  rw [List.getD_eq_getElem?_getD, List.getElem?_eq_getElem hi]
  exact List.getElem_mem hi

theorem word_loop {b : List Int} (hb : Bytes b) (hl : b.length ≤ 2000) (d : Nat) : ∀ (i : Nat) (x p : Int), 8 - i = d → i ≤ 8 → 0 ≤ x → x < 18446744073709551616 → 0 ≤ p → p + d ≤ 1000000000 →
    Tells (fun k => spec_l26Rd_word.l0 k x (i : Int) b p) (fun r => 0 ≤ r.1 ∧ r.1 < 18446744073709551616 ∧ r.2 = p + d) := by
  induction d with
  | zero =>
    intro i x p hd hi h0 h1 hp0 hp
    refine Tells.step (f := fun _ => some (x, p)) (fun k => ?_) (Tells.now ⟨h0, h1, by simp⟩)
    simp only [spec_l26Rd_word.l0]
    rw [if_neg (by omega)]
  | succ d ih =>
    intro i x p hd hi h0 h1 hp0 hp
    refine Tells.step (f := fun k => (spec_l26Rd_pick.f k b p 256).bind fun bt => (spec_l26Rd_word.l0 k (IntKind.u64.wrap ((IntKind.u64.wrap (x * 256)) + (IntKind.u64.wrap (bt.1)))) (wrap64 ((i : Int) + 1)) b bt.2)) (fun k => ?_) ?_
    · simp only [spec_l26Rd_word.l0]
      rw [if_pos (by omega)]
    · refine Tells.bind (pick_tells hb hl hp0 (by omega) (by omega) (by omega)) ?_
      rintro ⟨v, q⟩ ⟨h3, h4, h5⟩
      dsimp only at h3 h4 h5 ⊢
      subst h5
      have w : wrap64 ((i : Int) + 1) = ((i + 1 : Nat) : Int) := by unfold wrap64; omega
      rw [w]
      refine (ih (i + 1) _ (p + 1) (by omega) (by omega) ?_ ?_ (by omega) (by omega)).mono (fun r hr => ⟨hr.1, hr.2.1, by rw [hr.2.2]; push_cast; omega⟩)
      · rw [IntKind.wrap_u64]; omega
      · rw [IntKind.wrap_u64]; omega
theorem word_tells {b : List Int} (hb : Bytes b) (hl : b.length ≤ 2000) {p : Int} (hp0 : 0 ≤ p) (hp : p ≤ 100000000) : Tells (fun k => spec_l26Rd_word.f k b p) (fun r => 0 ≤ r.1 ∧ r.1 < 18446744073709551616 ∧ r.2 = p + 8) := by
  unfold spec_l26Rd_word.f
  exact word_loop hb hl 8 0 0 p rfl (by omega) (by omega) (by omega) hp0 (by omega)
theorem wrap_i16r (x : Int) : -32768 ≤ IntKind.i16.wrap x ∧ IntKind.i16.wrap x < 32768 := by
  simp [IntKind.wrap, IntKind.bits, IntKind.signed]
  split <;> omega
theorem whole_tells {b : List Int} (hb : Bytes b) (hl : b.length ≤ 2000) {p : Int} (hp0 : 0 ≤ p) (hp : p ≤ 100000000) : Tells (fun k => spec_l3Whole.f k b p) (fun r => -32768 ≤ r.1 ∧ r.1 < 32768 ∧ r.2 = p + 2) := by
  unfold spec_l3Whole.f
  refine Tells.bind (pick_tells hb hl hp0 (by omega) (by omega) (by omega)) ?_
  rintro ⟨v, q⟩ ⟨h3, h4, h5⟩
  dsimp only at h3 h4 h5 ⊢
  subst h5
  by_cases c : v = 0
  · simp only [if_pos c]
    refine Tells.bind (num_tells hb hl (by omega) (by omega) _ (by simp) (by simp)) ?_
    rintro ⟨u, q⟩ ⟨h6, h7⟩
    dsimp only at h6 h7 ⊢
    refine Tells.now ⟨(wrap_i16r _).1, (wrap_i16r _).2, ?_⟩
    dsimp only
    omega
  · simp only [if_neg c]
    refine Tells.bind (pick_tells hb hl (by omega) (by omega) (by omega) (by omega)) ?_
    rintro ⟨u, q⟩ ⟨h6, h7, h8⟩
    dsimp only at h6 h7 h8 ⊢
    refine Tells.now ⟨(wrap_i16r _).1, (wrap_i16r _).2, ?_⟩
    dsimp only
    omega

end Go.Proofs.YtidficffkghlkaaDoor.QDraw
