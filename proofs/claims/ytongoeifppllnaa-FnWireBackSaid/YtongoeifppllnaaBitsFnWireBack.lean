/- What the printed functions tell that the law FnWireBack reaches, over numbers and lists alone. -/
import Derived.Test.YtongoeifppllnaaBx1
import Derived.Test.YtongoeifppllnaaBx10
import Derived.Test.YtongoeifppllnaaBx2
import Derived.Test.YtongoeifppllnaaBx3
import Derived.Test.YtongoeifppllnaaBx4
import Derived.Test.YtongoeifppllnaaBx5
import Derived.Test.YtongoeifppllnaaBx6
import Derived.Test.YtongoeifppllnaaBx7
import Derived.Test.YtongoeifppllnaaBx8
import Derived.Test.YtongoeifppllnaaBx9
import Derived.Test.YtongoeifppllnaaTell
namespace Go.Proofs.Ytongoeifppllnaa.BFnWireBack
open Go Go.RowKit Go.Proofs.Ytongoeifppllnaa.Tell Go.Proofs.Ytongoeifppllnaa.B Go.Proofs.YtongoeifppllnaaW.PrintWords Go.Proofs.YtongoeifppllnaaW.PrintLast Go.Proofs.YtongoeifppllnaaW.PrintMore
set_option linter.unusedVariables false
set_option linter.unusedSimpArgs false

theorem in_eq (a l h : Int) : impl_in.f a l h = some (decide (l ≤ a ∧ a ≤ h)) := by
  unfold impl_in.f
  by_cases c : l ≤ a
  · rw [if_pos c]; simp [c]
  · rw [if_neg c]; simp [c]

theorem isNumber_eq (n : Int) : impl_isNumber.f n = some (decide (1 ≤ n ∧ n ≤ 1000000)) := by unfold impl_isNumber.f; rw [in_eq]; rfl

/-- Whether a word is ok. -/
def wok (a b c d : Int) (n : Nat) : Bool :=
  decide (1 ≤ b ∧ b ≤ 1000000 ∧ ((a = 1 ∧ 1 ≤ c ∧ c ≤ 900 ∧ 0 ≤ d ∧ d < c ∧ n ≤ 24 ∧ (n = 24 ∨ d = c - 1 ∧ 0 < n)) ∨ (2 ≤ a ∧ a ≤ 5 ∧ c = 0 ∧ n = 0 ∧ 0 ≤ d ∧ d ≤ (if a = 3 then 900 else 0))))
theorem impl_WireOk_ev (a b c d : Int) (l : List Int) (hl : l.length ≤ 1099511627776) : Ev (fun k => impl_WireOk.f k a b c d l) (wok a b c d l.length) := by
  have bad : wok a b c d l.length = false → Ev (fun k => impl_WireOk.j0 k true a b c d l) (wok a b c d l.length) := fun h => by
    rw [h]
    refine Ev.step (f := fun _ => some false) (fun k => ?_) (Ev.now _)
    simp only [impl_WireOk.j0]; rfl
  unfold impl_WireOk.f
  simp only [in_eq, isNumber_eq, Option.bind_some]
  by_cases c0 : 1 ≤ a ∧ a ≤ 5
  · simp only [decide_eq_true c0, if_true]
    by_cases c1 : 1 ≤ b ∧ b ≤ 1000000
    · simp only [decide_eq_true c1, Bool.not_true]
      refine Ev.step (f := fun _ => some (wok a b c d l.length)) (fun k => ?_) (Ev.now _)
      simp only [impl_WireOk.j0, in_eq, Option.bind_some]
      rw [if_neg (by decide)]
      unfold wok
      by_cases c2 : a = 1
      · rw [if_pos c2]
        by_cases c3 : 1 ≤ c ∧ c ≤ 900
        · have w : wrap64 (c - 1) = c - 1 := wrap64_in (by omega) (by omega)
          rw [if_pos (decide_eq_true c3), w]
          by_cases c4 : 0 ≤ d ∧ d ≤ c - 1
          · rw [if_pos (decide_eq_true c4)]
            by_cases c5 : (l.length : Int) = 24
            · rw [if_pos c5]; congr 1; exact (decide_eq_true (by omega)).symm
            · rw [if_neg c5]
              by_cases c6 : d = c - 1
              · rw [if_pos c6]; congr 1
                rw [Bool.eq_iff_iff]; simp only [decide_eq_true_eq]; omega
              · rw [if_neg c6]; congr 1; exact (decide_eq_false (by omega)).symm
          · rw [if_neg (by simpa using c4)]; congr 1; exact (decide_eq_false (by omega)).symm
        · rw [if_neg (by simpa using c3)]; congr 1; exact (decide_eq_false (by omega)).symm
      · rw [if_neg c2]
        by_cases c3 : a = 3
        · rw [if_pos c3]
          by_cases c4 : c = 0
          · rw [if_pos c4]
            by_cases c5 : (l.length : Int) = 0
            · rw [if_pos c5]; congr 1
              rw [Bool.eq_iff_iff]; simp only [decide_eq_true_eq, if_pos c3]; omega
            · rw [if_neg c5]; congr 1; exact (decide_eq_false (by omega)).symm
          · rw [if_neg c4]; congr 1; exact (decide_eq_false (by omega)).symm
        · rw [if_neg c3]
          by_cases c4 : c = 0
          · rw [if_pos c4]
            by_cases c5 : (l.length : Int) = 0
            · rw [if_pos c5]; congr 1
              rw [Bool.eq_iff_iff]; simp only [decide_eq_true_eq, if_neg c3]; omega
            · rw [if_neg c5]; congr 1; exact (decide_eq_false (by omega)).symm
          · rw [if_neg c4]; congr 1; exact (decide_eq_false (by omega)).symm
    · simp only [decide_eq_false c1, Bool.not_false]
      exact bad (by unfold wok; exact decide_eq_false (by omega))
  · simp only [decide_eq_false c0, Bool.false_eq_true, if_false]
    exact bad (by unfold wok; exact decide_eq_false (by omega))

theorem open_tells (l : List Int) (hl : Bytes l) (hn : l.length ≤ 1048576) : ∃ b : List Int, spec_l26Open.f l = some (b, 0) ∧ Bytes b ∧ b.length ≤ 2000 := by
  unfold spec_l26Open.f
  by_cases c : (l.length : Int) > 2000
  · refine ⟨l.take 2000, ?_, bytes_take hl _, by simp; omega⟩
    rw [if_pos c, if_pos (by omega)]
  · exact ⟨l, by rw [if_neg c], hl, by omega⟩

theorem pick_tells {b : List Int} (hb : Bytes b) (hl : b.length ≤ 2000) {p n : Int} (hp0 : 0 ≤ p) (hp : p ≤ 1000000000) (hn : 1 ≤ n) (hn2 : n ≤ 1000000000) :
    Tells (fun k => spec_l26Rd_pick.f k b p n) (fun r => 0 ≤ r.1 ∧ r.1 < n ∧ r.2 = p + 1) := by
  have w1 : wrap64 (p + 1) = p + 1 := wrap64_in (by omega) (by omega)
  have w2 : wrap64 (p + 1 - 1) = p := by unfold wrap64; omega
  refine Tells.step (f := fun _ => ?f) (fun k => ?_) ?_
  case f => exact spec_l26Rd_pick.j0 1 n ((b.length : Int) == 0) b (p + 1)
  · unfold spec_l26Rd_pick.f
    rw [if_neg (by omega), w1]
    simp only [spec_l26Rd_pick.j0]
  · simp only [spec_l26Rd_pick.j0]
    by_cases c0 : (b.length : Int) = 0
    · rw [if_pos (by simpa using c0)]
      exact Tells.now ⟨by omega, by omega, rfl⟩
    · rw [if_neg (by simpa using c0), w2]
      have hlen : 0 < (b.length : Int) := by omega
      by_cases c1 : p < (b.length : Int)
      · rw [if_pos c1, if_pos hp0, if_neg (by omega)]
        have hr := rd_byte hb p
        rw [wrap64_in (by omega) (by omega)]
        have ht := tmod_range (rd b p) n hr.1 (by omega)
        exact Tells.now ⟨ht.1, ht.2, rfl⟩
      · rw [if_neg c1, if_neg c0]
        have w3 : wrap64 (wrap64 (p * 7) + 3) = p * 7 + 3 := by rw [wrap64_in (n := p * 7) (by omega) (by omega), wrap64_in (by omega) (by omega)]
        have h1 := tmod_range p b.length hp0 hlen
        have h2 := tmod_range (p * 7 + 3) b.length (by omega) hlen
        rw [w3, if_pos h1.1, if_pos h1.2, if_pos h2.1, if_pos h2.2, if_neg (by omega)]
        have r1 := rd_byte hb (Int.tmod p (b.length : Int))
        have r2 := rd_byte hb (Int.tmod (p * 7 + 3) (b.length : Int))
        have hd0 : 0 ≤ Int.tdiv p (b.length : Int) := Int.tdiv_nonneg hp0 (by omega)
        have hd1 : Int.tdiv p (b.length : Int) ≤ p := by
          rw [Int.tdiv_eq_ediv_of_nonneg hp0]; exact Int.ediv_le_self _ hp0
        generalize rd b (Int.tmod p (b.length : Int)) = x1 at r1
        generalize rd b (Int.tmod (p * 7 + 3) (b.length : Int)) = x2 at r2
        generalize Int.tdiv p (b.length : Int) = x3 at hd0 hd1
        have e1 : wrap64 (wrap64 x1 * 131) = x1 * 131 := by rw [wrap64_in (n := x1) (by omega) (by omega), wrap64_in (by omega) (by omega)]
        have e2 : wrap64 (wrap64 x2 * 1117) = x2 * 1117 := by rw [wrap64_in (n := x2) (by omega) (by omega), wrap64_in (by omega) (by omega)]
        have e3 : wrap64 (p * 29) = p * 29 := wrap64_in (by omega) (by omega)
        have e4 : wrap64 (wrap64 x3 * 53) = x3 * 53 := by rw [wrap64_in (n := x3) (by omega) (by omega), wrap64_in (by omega) (by omega)]
        have e5 : wrap64 (x1 * 131 + x2 * 1117) = x1 * 131 + x2 * 1117 := wrap64_in (by omega) (by omega)
        have e6 : wrap64 (x1 * 131 + x2 * 1117 + p * 29) = x1 * 131 + x2 * 1117 + p * 29 := wrap64_in (by omega) (by omega)
        have e7 : wrap64 (x1 * 131 + x2 * 1117 + p * 29 + x3 * 53) = x1 * 131 + x2 * 1117 + p * 29 + x3 * 53 := wrap64_in (by omega) (by omega)
        simp only [e1, e2, e3, e4, e5, e6, e7]
        have hy0 : 0 ≤ x1 * 131 + x2 * 1117 + p * 29 + x3 * 53 := by omega
        have hy1 : x1 * 131 + x2 * 1117 + p * 29 + x3 * 53 < 4611686018427387904 := by omega
        generalize x1 * 131 + x2 * 1117 + p * 29 + x3 * 53 = y at hy0 hy1
        have e8 : wrap64 (Int.tdiv y 64) = y / 64 := by rw [Int.tdiv_eq_ediv_of_nonneg hy0]; exact wrap64_in (by omega) (by omega)
        rw [e8]
        have hx := xor_nonneg y (y / 64) hy0 hy1 (by omega) (by omega)
        have ht := tmod_range _ n hx (by omega)
        exact Tells.now ⟨ht.1, ht.2, rfl⟩

theorem num_tells {b : List Int} (hb : Bytes b) (hl : b.length ≤ 2000) {p : Int} (hp0 : 0 ≤ p) (hp : p ≤ 1000000000) (xs : List Int) (h1 : 1 ≤ xs.length) (h2 : xs.length ≤ 1000) :
    Tells (fun k => spec_l26Rd_num.f k b p xs) (fun r => r.1 ∈ xs ∧ r.2 = p + 1) := by
  unfold spec_l26Rd_num.f
  refine Tells.bind (pick_tells hb hl hp0 hp (n := (xs.length : Int)) (by omega) (by omega)) ?_
  rintro ⟨v, q⟩ ⟨h3, h4, h5⟩
  dsimp only at h3 h4 h5 ⊢
  rw [if_pos h3, if_pos h4]
  refine Tells.now ⟨?_, h5⟩
  unfold rd
  have hi : v.toNat < xs.length := by omega
  dsimp only
  rw [List.getD_eq_getElem?_getD, List.getElem?_eq_getElem hi]
  exact List.getElem_mem hi

theorem number_tells {b : List Int} (hb : Bytes b) (hl : b.length ≤ 2000) {p : Int} (hp0 : 0 ≤ p) (hp : p ≤ 1000000000) : Tells (fun k => spec_l20Number.f k b p) (fun r => r.2 = p + 1) := by
  unfold spec_l20Number.f
  refine Tells.bind (num_tells hb hl hp0 hp _ (by decide) (by decide)) ?_
  rintro ⟨v, q⟩ ⟨_, h⟩
  exact Tells.now h

theorem l20Bytes_loop {b : List Int} (hb : Bytes b) (hl : b.length ≤ 2000) (n : Nat) (hn : n ≤ 1000) (d : Nat) : ∀ (i : Nat) (acc : List Int) (p : Int), n - i = d → i ≤ n → acc.length = i → 0 ≤ p → p ≤ 10000 + i →
    Tells (fun k => spec_l20Bytes.l0 k (n : Int) acc (i : Int) b p) (fun r => r.1.length = n) := by
  induction d with
  | zero =>
    intro i acc p hd hi ha hp0 hp
    obtain rfl : i = n := by omega
    refine Tells.step (f := fun _ => some (acc, p)) (fun k => ?_) (Tells.now ha)
    simp only [spec_l20Bytes.l0]; rw [if_neg (by omega)]
  | succ d ih =>
    intro i acc p hd hi ha hp0 hp
    have w : wrap64 ((i : Int) + 1) = ((i + 1 : Nat) : Int) := by unfold wrap64; omega
    refine Tells.step (f := fun k => (spec_l26Rd_pick.f k b p 256).bind fun bt170 => (spec_l20Bytes.l0 k (n : Int) (acc ++ [(bt170.1) % 256]) ((i + 1 : Nat) : Int) b bt170.2)) (fun k => ?_) ?_
    · simp only [spec_l20Bytes.l0]
      rw [if_pos (by omega), w]
      refine congrArg _ (funext fun x => ?_)
      rw [if_pos (by omega)]
    · refine Tells.bind (pick_tells hb hl hp0 (by omega) (by omega) (by omega)) ?_
      rintro ⟨u, q⟩ ⟨_, _, h⟩
      dsimp only at h ⊢
      subst h
      exact ih (i + 1) _ (p + 1) (by omega) (by omega) (by simp [ha]) (by omega) (by push_cast; omega)

theorem l20Data_tells {b : List Int} (hb : Bytes b) (hl : b.length ≤ 2000) {p : Int} (hp0 : 0 ≤ p) (hp : p ≤ 1000) : Tells (fun k => spec_l20Data.f k b p) (fun r => r.1.length ≤ 30000) := by
  unfold spec_l20Data.f
  refine Tells.bind (pick_tells hb hl hp0 (by omega) (by omega) (by omega)) ?_
  rintro ⟨u, q⟩ ⟨_, _, h⟩
  dsimp only at h ⊢
  subst h
  by_cases c : u = 0
  · simp only [if_pos c]
    refine Tells.bind (pick_tells hb hl (by omega) (by omega) (by omega) (by omega)) ?_
    rintro ⟨v, q⟩ ⟨h1, h2, h3⟩
    dsimp only at h1 h2 h3 ⊢
    rw [show wrap64 (wrap64 (21600 + v) - 1) = 21600 + v - 1 by unfold wrap64; omega, if_pos (by omega), if_pos (by omega)]
    refine Tells.now ?_
    simp only [List.length_replicate]
    omega
  · simp only [if_neg c]
    refine Tells.bind (num_tells hb hl (by omega) (by omega) _ (by decide) (by decide)) ?_
    rintro ⟨v, q⟩ ⟨h1, h2⟩
    dsimp only at h1 h2 ⊢
    have hv : 0 ≤ v ∧ v ≤ 100 := (show ∀ x ∈ ([0, 1, 23, 24, 25, 47, 48, 49, 100] : List Int), 0 ≤ x ∧ x ≤ 100 by decide) v h1
    obtain ⟨n, rfl⟩ := Int.eq_ofNat_of_zero_le hv.1
    unfold spec_l20Bytes.f
    refine Tells.bind (l20Bytes_loop hb hl n (by omega) n 0 [] q (by omega) (by omega) rfl (by omega) (by omega)) ?_
    rintro ⟨d, z⟩ h3
    dsimp only at h3
    exact Tells.now (show d.length ≤ 30000 by omega)

theorem DrawWireCut_tells (l : List Int) (hl : Bytes l) (hn : l.length ≤ 1048576) : Tells (fun k => spec_DrawWireCut.f k l) (fun r => r.2.length ≤ 30000) := by
  obtain ⟨b, he, hb, hbl⟩ := open_tells l hl hn
  unfold spec_DrawWireCut.f
  simp only [he, Option.bind_some]
  refine Tells.bind (number_tells hb hbl (by omega) (by omega)) ?_
  rintro ⟨u, q⟩ h
  dsimp only at h ⊢
  subst h
  refine Tells.bind (pick_tells hb hbl (by omega) (by omega) (by omega) (by omega)) ?_
  rintro ⟨v, q⟩ ⟨_, _, h⟩
  dsimp only at h ⊢
  subst h
  by_cases c : v = 0
  · simp only [if_pos c]
    refine Tells.bind (num_tells hb hbl (by omega) (by omega) _ (by decide) (by decide)) ?_
    rintro ⟨v, q⟩ ⟨_, h⟩
    dsimp only at h ⊢
    subst h
    refine Tells.bind (l20Data_tells hb hbl (by omega) (by omega)) ?_
    rintro ⟨d, z⟩ h
    exact Tells.now h
  · simp only [if_neg c]
    refine Tells.bind (l20Data_tells hb hbl (by omega) (by omega)) ?_
    rintro ⟨d, z⟩ h
    exact Tells.now h

theorem impl_WireCut_go (a0 : Int) (l : List Int) (hl : l.length ≤ 21600) (d : Nat) : ∀ i : Nat, ofn l - i = d → i ≤ ofn l → Ev (fun k => impl_WireCut.l0 k a0 l (ofn l : Int) (pieces a0 l i) (i : Int)) (pieces a0 l (ofn l), true) := by
  induction d with
  | zero =>
    intro i hd hi
    obtain rfl : i = ofn l := by omega
    refine Ev.step (f := fun _ => some (pieces a0 l (ofn l), true)) (fun k => ?_) (Ev.now _)
    simp only [impl_WireCut.l0]; rw [if_neg (by omega)]
  | succ d ih =>
    intro i hd hi
    have h24 : 24 * i < l.length := by unfold ofn at hd; omega
    have hi2 : i ≤ 21600 := by omega
    have w : wrap64 ((i : Int) + 1) = ((i + 1 : Nat) : Int) := by unfold wrap64; omega
    refine Ev.step (f := fun k => impl_WireCut.l0 k a0 l (ofn l : Int) (pieces a0 l (i + 1)) ((i + 1 : Nat) : Int)) (fun k => ?_) (ih (i + 1) (by omega) (by omega))
    simp only [impl_WireCut.l0]
    rw [if_pos (by omega), spec_l20Piece_val a0 l i h24 hl, Option.bind_some, if_pos (by rw [pieces_length]; omega), w, pieces_succ]
    rfl
theorem impl_WireCut_ev (a0 : Int) (l : List Int) : Ev (fun k => impl_WireCut.f k a0 l) (if wof l ≠ 0 ∧ 1 ≤ a0 ∧ a0 ≤ 1000000 then (pieces a0 l (ofn l), true) else ([], false)) := by
  unfold impl_WireCut.f
  simp only [spec_WireOf_val, Option.bind_some]
  have nope : Ev (fun k => impl_WireCut.j0 k a0 l (wof l : Int) true) ([], false) := by
    refine Ev.step (f := fun _ => some ([], false)) (fun k => ?_) (Ev.now _)
    simp only [impl_WireCut.j0, if_true]
  by_cases c0 : wof l = 0
  · rw [if_neg (by omega)]
    simp only [if_pos (show (wof l : Int) = 0 by omega)]
    exact nope
  · simp only [if_neg (show ¬ (wof l : Int) = 0 by omega)]
    by_cases c1 : a0 < 1
    · rw [if_neg (by omega)]
      simp only [if_pos c1]
      exact nope
    · simp only [if_neg c1]
      by_cases c2 : a0 > 1000000
      · rw [if_neg (by omega), decide_eq_true c2]
        exact nope
      · obtain ⟨h1, h2, h3⟩ := wof_pos c0
        rw [if_pos ⟨c0, by omega, by omega⟩, decide_eq_false c2]
        refine Ev.step (f := fun k => impl_WireCut.l0 k a0 l (ofn l : Int) (pieces a0 l 0) ((0 : Nat) : Int)) (fun k => ?_) (impl_WireCut_go a0 l h2 (ofn l) 0 (by omega) (by omega))
        simp only [impl_WireCut.j0]
        rw [if_neg (by decide), h3]
        rfl

theorem spec_WireCut_go (a0 : Int) (l : List Int) (hl : l.length ≤ 21600) (d : Nat) : ∀ i : Nat, ofn l - i = d → i ≤ ofn l → Ev (fun k => spec_WireCut.l0 k a0 l (ofn l : Int) (pieces a0 l i) (i : Int)) (pieces a0 l (ofn l), true) := by
  induction d with
  | zero =>
    intro i hd hi
    obtain rfl : i = ofn l := by omega
    refine Ev.step (f := fun _ => some (pieces a0 l (ofn l), true)) (fun k => ?_) (Ev.now _)
    simp only [spec_WireCut.l0]; rw [if_neg (by omega)]
  | succ d ih =>
    intro i hd hi
    have h24 : 24 * i < l.length := by unfold ofn at hd; omega
    have hi2 : i ≤ 21600 := by omega
    have w : wrap64 ((i : Int) + 1) = ((i + 1 : Nat) : Int) := by unfold wrap64; omega
    refine Ev.step (f := fun k => spec_WireCut.l0 k a0 l (ofn l : Int) (pieces a0 l (i + 1)) ((i + 1 : Nat) : Int)) (fun k => ?_) (ih (i + 1) (by omega) (by omega))
    simp only [spec_WireCut.l0]
    rw [if_pos (by omega), spec_l20Piece_val a0 l i h24 hl, Option.bind_some, if_pos (by rw [pieces_length]; omega), w, pieces_succ]
    rfl
theorem spec_WireCut_ev (a0 : Int) (l : List Int) : Ev (fun k => spec_WireCut.f k a0 l) (if wof l ≠ 0 ∧ 1 ≤ a0 ∧ a0 ≤ 1000000 then (pieces a0 l (ofn l), true) else ([], false)) := by
  unfold spec_WireCut.f
  simp only [spec_WireOf_val, Option.bind_some]
  have nope : Ev (fun k => spec_WireCut.j0 k a0 l (wof l : Int) true) ([], false) := by
    refine Ev.step (f := fun _ => some ([], false)) (fun k => ?_) (Ev.now _)
    simp only [spec_WireCut.j0, if_true]
  by_cases c0 : wof l = 0
  · rw [if_neg (by omega)]
    simp only [if_pos (show (wof l : Int) = 0 by omega)]
    exact nope
  · simp only [if_neg (show ¬ (wof l : Int) = 0 by omega)]
    by_cases c1 : a0 < 1
    · rw [if_neg (by omega)]
      simp only [if_pos c1]
      exact nope
    · simp only [if_neg c1]
      by_cases c2 : a0 > 1000000
      · rw [if_neg (by omega), decide_eq_true c2]
        exact nope
      · obtain ⟨h1, h2, h3⟩ := wof_pos c0
        rw [if_pos ⟨c0, by omega, by omega⟩, decide_eq_false c2]
        refine Ev.step (f := fun k => spec_WireCut.l0 k a0 l (ofn l : Int) (pieces a0 l 0) ((0 : Nat) : Int)) (fun k => ?_) (spec_WireCut_go a0 l h2 (ofn l) 0 (by omega) (by omega))
        simp only [spec_WireCut.j0]
        rw [if_neg (by decide), h3]
        rfl

theorem impl_WireOf_val2 (l : List Int) (hl : l.length ≤ 21600) : impl_WireOf.f l = some ((ofn l : Nat) : Int) := by
  unfold impl_WireOf.f
  rw [cwof l (by omega), if_neg (by unfold ofn; omega)]

theorem impl_WireToBox_ev (a b c d : Int) (l : List Int) (hl : l.length ≤ 1099511627776) : Ev (fun k => impl_WireToBox.f k a b c d l) (wok a b c d l.length && decide (a ≤ 2)) := by
  unfold impl_WireToBox.f
  refine Ev.bind (impl_WireOk_ev a b c d l hl) ?_
  cases wok a b c d l.length
  · exact Ev.now _
  · exact Ev.now _
theorem rd_pieces (a0 : Int) (l : List Int) (n i : Nat) (h : i < n) : rd_T36 (pieces a0 l n) (i : Int) = piece a0 l i := by
  unfold rd_T36
  have hl : i < (pieces a0 l n).length := by rw [pieces_length]; exact h
  rw [Int.toNat_natCast, List.getD_eq_getElem?_getD, List.getElem?_eq_getElem hl]
  simp [pieces]
theorem piece_ok (a0 : Int) (l : List Int) (i : Nat) (h0 : 1 ≤ a0) (h1 : a0 ≤ 1000000) (hl : l.length ≤ 21600) (hi : i < ofn l) : wok 1 a0 (ofn l : Int) (i : Int) (chunk l i).length = true := by
  have hc := chunk_len l i
  have ho : ofn l = (l.length + 23) / 24 := rfl
  unfold wok
  refine decide_eq_true ⟨h0, h1, .inl ⟨rfl, by omega, by omega, by omega, by omega, by omega, ?_⟩⟩
  by_cases c : 24 ≤ l.length - 24 * i
  · exact .inl (by omega)
  · exact .inr ⟨by omega, by omega⟩

theorem WireJoin_go (a0 : Int) (l : List Int) (h0 : 1 ≤ a0) (h1 : a0 ≤ 1000000) (hl : l.length ≤ 21600) (d : Nat) : ∀ i : Nat, ofn l - i = d → i ≤ ofn l → 0 < ofn l →
    Ev (fun k => impl_WireJoin.l0 k (pieces a0 l (ofn l)) (l.take (24 * i)) (pieces a0 l (ofn l)) (ofn l : Int) (i : Int)) (l, true) := by
  induction d with
  | zero =>
    intro i hd hi hp
    obtain rfl : i = ofn l := by omega
    have e : l.take (24 * ofn l) = l := List.take_of_length_le (by unfold ofn; omega)
    refine Ev.step (f := fun _ => some (l, true)) (fun k => ?_) (Ev.now _)
    simp only [impl_WireJoin.l0]
    rw [if_neg (by omega), e]
    unfold impl_clone_byte.f
    simp only [Option.bind_some, List.length_nil, Nat.zero_add, List.nil_append]
    rw [if_pos (by omega), Option.bind_some, decide_eq_true (by rw [pieces_length]; omega)]
  | succ d ih =>
    intro i hd hi hp
    have hlt : i < ofn l := by omega
    have hi2 : i ≤ 21600 := by unfold ofn at hlt; omega
    have w : wrap64 ((i : Int) + 1) = ((i + 1 : Nat) : Int) := by unfold wrap64; omega
    refine Ev.step (f := fun k => (impl_WireOk.f k 1 a0 (ofn l : Int) (i : Int) (chunk l i)).bind fun t => (if t = true then impl_WireJoin.l0 k (pieces a0 l (ofn l)) (l.take (24 * (i + 1))) (pieces a0 l (ofn l)) (ofn l : Int) ((i + 1 : Nat) : Int) else (some (([] : List Int), false)))) (fun k => ?_) ?_
    · have ht : l.take (24 * (i + 1)) = l.take (24 * i) ++ chunk l i := by rw [Nat.mul_add, List.take_add]; rfl
      have hz : rd_T36 (pieces a0 l (ofn l)) 0 = piece a0 l 0 := rd_pieces a0 l (ofn l) 0 hp
      simp only [impl_WireJoin.l0]
      rw [if_pos (by omega), if_pos (by omega), if_pos (by rw [pieces_length]; omega), rd_pieces a0 l _ i hlt, hz, w, ht]
      rw [if_pos (show (piece a0 l i).f0 = 1 from rfl)]
      refine congrArg (Option.bind _) (funext fun t => ?_)
      cases t
      · rfl
      · rw [if_pos rfl, if_pos (by rw [pieces_length]; omega), if_pos (show (piece a0 l i).f1 = (piece a0 l 0).f1 from rfl), if_pos (show (piece a0 l i).f2 = ((pieces a0 l (ofn l)).length : Int) from by rw [pieces_length]; rfl), if_pos (show (piece a0 l i).f3 = (i : Int) from rfl), if_pos (show (l.take (24 * i)).length + (piece a0 l i).f4.length < 140737488355328 by show (l.take (24 * i)).length + (chunk l i).length < _; rw [chunk_len, List.length_take]; omega)]
        rfl
    · refine Ev.bind (impl_WireOk_ev _ _ _ _ _ (by rw [chunk_len]; omega)) ?_
      rw [piece_ok a0 l i h0 h1 hl hlt]
      simp only [if_true]
      exact ih (i + 1) (by omega) (by omega) hp
theorem WireJoin_back (a0 : Int) (l : List Int) (h0 : 1 ≤ a0) (h1 : a0 ≤ 1000000) (hl : l.length ≤ 21600) (hp : 0 < ofn l) : Ev (fun k => impl_WireJoin.f k (pieces a0 l (ofn l))) (l, true) := by
  unfold impl_WireJoin.f
  rw [pieces_length]
  exact WireJoin_go a0 l h0 h1 hl (ofn l) 0 (by omega) (by omega) hp

theorem WireBack_go (a0 : Int) (l : List Int) (h0 : 1 ≤ a0) (h1 : a0 ≤ 1000000) (hl : l.length ≤ 21600) (hp : 0 < ofn l) (d : Nat) : ∀ i : Nat, ofn l - i = d → i ≤ ofn l →
    Ev (fun k => laws_FnWireBack.l0 k a0 l (pieces a0 l (ofn l)) (i : Int)) true := by
  induction d with
  | zero =>
    intro i hd hi
    obtain rfl : i = ofn l := by omega
    refine Ev.step (f := fun k => (impl_WireJoin.f k (pieces a0 l (ofn l))).bind fun bt243 => (if bt243.2 = true then (if (strOfNums bt243.1).toList = (strOfNums l).toList then ((impl_WireOf.f l).bind fun t247 => (some (((pieces a0 l (ofn l)).length : Int) == t247))) else (some false)) else (some false))) (fun k => ?_) ?_
    · simp only [laws_FnWireBack.l0]
      rw [if_neg (by rw [pieces_length]; omega)]
    · refine Ev.bind (WireJoin_back a0 l h0 h1 hl hp) ?_
      simp only [if_true, impl_WireOf_val2 l hl, Option.bind_some, pieces_length]
      rw [beq_self_eq_true]
      exact Ev.now _
  | succ d ih =>
    intro i hd hi
    have hlt : i < ofn l := by omega
    have hi2 : i ≤ 21600 := by unfold ofn at hlt; omega
    have w : wrap64 ((i : Int) + 1) = ((i + 1 : Nat) : Int) := by unfold wrap64; omega
    refine Ev.step (f := fun k => (impl_WireOk.f k 1 a0 (ofn l : Int) (i : Int) (chunk l i)).bind fun t249 => (if t249 = true then ((impl_WireToBox.f k 1 a0 (ofn l : Int) (i : Int) (chunk l i)).bind fun t251 => (if t251 = true then (laws_FnWireBack.l0 k a0 l (pieces a0 l (ofn l)) ((i + 1 : Nat) : Int)) else (some false))) else (some false))) (fun k => ?_) ?_
    · simp only [laws_FnWireBack.l0]
      rw [if_pos (by rw [pieces_length]; omega), if_pos (by omega), rd_pieces a0 l _ i hlt, w]
      simp only [piece, if_true]
    · refine Ev.bind (impl_WireOk_ev _ _ _ _ _ (by rw [chunk_len]; omega)) ?_
      rw [piece_ok a0 l i h0 h1 hl hlt]
      simp only [if_true]
      refine Ev.bind (impl_WireToBox_ev _ _ _ _ _ (by rw [chunk_len]; omega)) ?_
      rw [piece_ok a0 l i h0 h1 hl hlt]
      simp only [Bool.true_and, show decide ((1 : Int) ≤ 2) = true from rfl, if_true]
      exact ih (i + 1) (by omega) (by omega)
theorem FnWireBack : laws_FnWireBack.Pure := by
  intro l hm hs hw
  refine Tells.rounds ?_
  unfold laws_FnWireBack.f
  by_cases c : (l.length : Int) > 1048576
  · simp only [if_pos c]; exact Tells.now rfl
  · simp only [if_neg c]
    refine Tells.bind (DrawWireCut_tells l (bytes_of_wf hw) (by omega)) ?_
    rintro ⟨n, d⟩ hd
    dsimp only at hd ⊢
    refine Tells.bindEv (impl_WireCut_ev n d) ?_
    refine Tells.bindEv (spec_WireCut_ev n d) ?_
    by_cases h : wof d ≠ 0 ∧ 1 ≤ n ∧ n ≤ 1000000
    · simp only [if_pos h]
      obtain ⟨g1, g2, g3⟩ := wof_pos h.1
      simp only [bne_self_eq_false, Bool.false_eq_true, if_false, if_true]
      exact Tells.ev (WireBack_go n d h.2.1 h.2.2 g2 (by unfold ofn; omega) (ofn d) 0 (by omega) (by omega)) rfl
    · simp only [if_neg h]
      simp only [bne_self_eq_false, Bool.false_eq_true, if_false]
      exact Tells.now rfl

end Go.Proofs.Ytongoeifppllnaa.BFnWireBack
