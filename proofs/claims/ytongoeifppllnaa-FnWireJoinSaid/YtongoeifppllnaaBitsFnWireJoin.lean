/- What the printed functions tell that the law FnWireJoin reaches, over numbers and lists alone. -/
import Derived.Test.YtongoeifppllnaaCutPJ
import Derived.Test.YtongoeifppllnaaJx1
import Derived.Test.YtongoeifppllnaaJx10
import Derived.Test.YtongoeifppllnaaJx11
import Derived.Test.YtongoeifppllnaaJx2
import Derived.Test.YtongoeifppllnaaJx3
import Derived.Test.YtongoeifppllnaaJx4
import Derived.Test.YtongoeifppllnaaJx5
import Derived.Test.YtongoeifppllnaaJx6
import Derived.Test.YtongoeifppllnaaJx7
import Derived.Test.YtongoeifppllnaaJx8
import Derived.Test.YtongoeifppllnaaJx9
import Derived.Test.YtongoeifppllnaaJzTell
namespace Go.Proofs.Ytongoeifppllnaa.BFnWireJoin
open Go Go.RowKit Go.Proofs.Ytongoeifppllnaa.Tell Go.Proofs.Ytongoeifppllnaa.J Go.Proofs.YtongoeifppllnaaW.PrintWords Go.Proofs.YtongoeifppllnaaW.PrintLast Go.Proofs.YtongoeifppllnaaW.PrintMore
set_option linter.unusedVariables false
set_option linter.unusedSimpArgs false

theorem in_eq (a l h : Int) : impl_in.f a l h = some (decide (l ≤ a ∧ a ≤ h)) := by
  unfold impl_in.f
  by_cases c : l ≤ a
  · rw [if_pos c]; simp [c]
  · rw [if_neg c]; simp [c]

theorem isNumber_eq (n : Int) : impl_isNumber.f n = some (decide (1 ≤ n ∧ n ≤ 1000000)) := by unfold impl_isNumber.f; rw [in_eq]; rfl

/-- Whether a word is ok. -/
def wok (a b c d : Int) (n : Nat) : Bool :=
  decide (1 ≤ b ∧ b ≤ 1000000 ∧ ((a = 1 ∧ 1 ≤ c ∧ c ≤ 900 ∧ 0 ≤ d ∧ d < c ∧ n ≤ 24 ∧ (n = 24 ∨ d = c - 1 ∧ 0 < n)) ∨ (2 ≤ a ∧ a ≤ 5 ∧ c = 0 ∧ n = 0 ∧ 0 ≤ d ∧ d ≤ (if a = 3 then 900 else 0))))
theorem impl_WireOk_ev (a b c d : Int) (l : List Int) (hl : l.length ≤ 1099511627776) : Ev (fun k => impl_WireOk.f k a b c d l) (wok a b c d l.length) := by
  have bad : wok a b c d l.length = false → Ev (fun k => impl_WireOk.j0 k true a b c d l) (wok a b c d l.length) := fun h => by
    rw [h]
    refine Ev.step (f := fun _ => some false) (fun k => ?_) (Ev.now _)
    simp only [impl_WireOk.j0]; rfl
  unfold impl_WireOk.f
  simp only [in_eq, isNumber_eq, Option.bind_some]
  by_cases c0 : 1 ≤ a ∧ a ≤ 5
  · simp only [decide_eq_true c0, if_true]
    by_cases c1 : 1 ≤ b ∧ b ≤ 1000000
    · simp only [decide_eq_true c1, Bool.not_true]
      refine Ev.step (f := fun _ => some (wok a b c d l.length)) (fun k => ?_) (Ev.now _)
      simp only [impl_WireOk.j0, in_eq, Option.bind_some]
      rw [if_neg (by decide)]
      unfold wok
      by_cases c2 : a = 1
      · rw [if_pos c2]
        by_cases c3 : 1 ≤ c ∧ c ≤ 900
        · have w : wrap64 (c - 1) = c - 1 := wrap64_in (by omega) (by omega)
          rw [if_pos (decide_eq_true c3), w]
          by_cases c4 : 0 ≤ d ∧ d ≤ c - 1
          · rw [if_pos (decide_eq_true c4)]
            by_cases c5 : (l.length : Int) = 24
            · rw [if_pos c5]; congr 1; exact (decide_eq_true (by omega)).symm
            · rw [if_neg c5]
              by_cases c6 : d = c - 1
              · rw [if_pos c6]; congr 1
                rw [Bool.eq_iff_iff]; simp only [decide_eq_true_eq]; omega
              · rw [if_neg c6]; congr 1; exact (decide_eq_false (by omega)).symm
          · rw [if_neg (by simpa using c4)]; congr 1; exact (decide_eq_false (by omega)).symm
        · rw [if_neg (by simpa using c3)]; congr 1; exact (decide_eq_false (by omega)).symm
      · rw [if_neg c2]
        by_cases c3 : a = 3
        · rw [if_pos c3]
          by_cases c4 : c = 0
          · rw [if_pos c4]
            by_cases c5 : (l.length : Int) = 0
            · rw [if_pos c5]; congr 1
              rw [Bool.eq_iff_iff]; simp only [decide_eq_true_eq, if_pos c3]; omega
            · rw [if_neg c5]; congr 1; exact (decide_eq_false (by omega)).symm
          · rw [if_neg c4]; congr 1; exact (decide_eq_false (by omega)).symm
        · rw [if_neg c3]
          by_cases c4 : c = 0
          · rw [if_pos c4]
            by_cases c5 : (l.length : Int) = 0
            · rw [if_pos c5]; congr 1
              rw [Bool.eq_iff_iff]; simp only [decide_eq_true_eq, if_neg c3]; omega
            · rw [if_neg c5]; congr 1; exact (decide_eq_false (by omega)).symm
          · rw [if_neg c4]; congr 1; exact (decide_eq_false (by omega)).symm
    · simp only [decide_eq_false c1, Bool.not_false]
      exact bad (by unfold wok; exact decide_eq_false (by omega))
  · simp only [decide_eq_false c0, Bool.false_eq_true, if_false]
    exact bad (by unfold wok; exact decide_eq_false (by omega))

theorem l20Chunk_eq (a b c d : Int) (l : List Int) (hl : l.length ≤ 1099511627776) : spec_l20Chunk.f a b c d l = some (decide (1 ≤ c ∧ c ≤ 900 ∧ 0 ≤ d ∧ d < c ∧ l.length ≤ 24 ∧ (l.length = 24 ∨ d = c - 1 ∧ 0 < l.length))) := by
  have F : ∀ p : Prop, [Decidable p] → ¬ p → some false = some (decide p) := fun p _ h => by rw [decide_eq_false h]
  have G : ∀ p : Prop, [Decidable p] → p → some true = some (decide p) := fun p _ h => by rw [decide_eq_true h]
  unfold spec_l20Chunk.f
  by_cases c1 : c < 1
  · rw [if_pos c1]; exact F _ (by omega)
  rw [if_neg c1]
  by_cases c2 : c > 900
  · rw [if_pos c2]; exact F _ (by omega)
  rw [if_neg c2]
  by_cases c3 : d < 0
  · rw [if_pos c3]; exact F _ (by omega)
  rw [if_neg c3]
  by_cases c4 : d ≥ c
  · rw [if_pos c4]; exact F _ (by omega)
  rw [if_neg c4]
  by_cases c5 : (l.length : Int) > 24
  · rw [if_pos c5]; exact F _ (by omega)
  rw [if_neg c5]
  by_cases c6 : (l.length : Int) = 24
  · rw [if_pos c6]; exact G _ (by omega)
  have w : wrap64 (c - 1) = c - 1 := wrap64_in (by omega) (by omega)
  rw [if_neg c6, w]
  by_cases c7 : d = c - 1
  · rw [if_pos c7]; congr 1
    rw [Bool.eq_iff_iff]; simp only [decide_eq_true_eq]; omega
  · rw [if_neg c7]; exact F _ (by omega)
theorem spec_WireOk_ev (a b c d : Int) (l : List Int) (hl : l.length ≤ 1099511627776) : Ev (fun k => spec_WireOk.f k a b c d l) (wok a b c d l.length) := by
  have bad : wok a b c d l.length = false → Ev (fun k => spec_WireOk.j0 k true a b c d l) (wok a b c d l.length) := fun h => by
    rw [h]
    refine Ev.step (f := fun _ => some false) (fun k => ?_) (Ev.now _)
    simp only [spec_WireOk.j0]; rfl
  unfold spec_WireOk.f
  by_cases c0 : b < 1
  · simp only [if_pos c0]
    exact bad (by unfold wok; exact decide_eq_false (by omega))
  · simp only [if_neg c0]
    by_cases c1 : b > 1000000
    · simp only [decide_eq_true c1]
      exact bad (by unfold wok; exact decide_eq_false (by omega))
    · simp only [decide_eq_false c1]
      refine Ev.step (f := fun _ => some (wok a b c d l.length)) (fun k => ?_) (Ev.now _)
      simp only [spec_WireOk.j0, l20Chunk_eq _ _ _ _ _ hl, Option.bind_some]
      rw [if_neg (by decide)]
      unfold wok
      by_cases c2 : a = 1
      · rw [if_pos c2]; congr 1
        rw [Bool.eq_iff_iff]; simp only [decide_eq_true_eq]; omega
      · rw [if_neg c2]
        by_cases c3 : c = 0
        · rw [if_pos c3]
          by_cases c4 : (l.length : Int) > 0
          · rw [if_pos c4]; congr 1; exact (decide_eq_false (by omega)).symm
          · rw [if_neg c4]
            by_cases c5 : d < 0
            · rw [if_pos c5]; congr 1; exact (decide_eq_false (by omega)).symm
            · rw [if_neg c5]
              by_cases c6 : d > 900
              · rw [if_pos c6]; congr 1; refine (decide_eq_false ?_).symm; split <;> omega
              · rw [if_neg c6]
                by_cases c7 : a = 3
                · rw [if_pos c7]; congr 1; refine (decide_eq_true ?_).symm; rw [if_pos c7]; omega
                · rw [if_neg c7, if_neg c7]
                  by_cases c8 : a ≥ 2
                  · rw [if_pos c8]
                    by_cases c9 : a ≤ 5
                    · rw [if_pos c9]; congr 1
                      rw [Bool.eq_iff_iff]; simp only [decide_eq_true_eq, beq_iff_eq]; omega
                    · rw [if_neg c9]; congr 1; exact (decide_eq_false (by omega)).symm
                  · rw [if_neg c8]; congr 1; exact (decide_eq_false (by omega)).symm
        · rw [if_neg c3]; congr 1; exact (decide_eq_false (by omega)).symm

theorem open_tells (l : List Int) (hl : Bytes l) (hn : l.length ≤ 1048576) : ∃ b : List Int, spec_l26Open.f l = some (b, 0) ∧ Bytes b ∧ b.length ≤ 2000 := by
  unfold spec_l26Open.f
  by_cases c : (l.length : Int) > 2000
  · refine ⟨l.take 2000, ?_, bytes_take hl _, by simp; omega⟩
    rw [if_pos c, if_pos (by omega)]
  · exact ⟨l, by rw [if_neg c], hl, by omega⟩

theorem pick_tells {b : List Int} (hb : Bytes b) (hl : b.length ≤ 2000) {p n : Int} (hp0 : 0 ≤ p) (hp : p ≤ 1000000000) (hn : 1 ≤ n) (hn2 : n ≤ 1000000000) :
    Tells (fun k => spec_l26Rd_pick.f k b p n) (fun r => 0 ≤ r.1 ∧ r.1 < n ∧ r.2 = p + 1) := by
  have w1 : wrap64 (p + 1) = p + 1 := wrap64_in (by omega) (by omega)
  have w2 : wrap64 (p + 1 - 1) = p := by unfold wrap64; omega
  refine Tells.step (f := fun _ => ?f) (fun k => ?_) ?_
  case f => exact spec_l26Rd_pick.j0 1 n ((b.length : Int) == 0) b (p + 1)
  · unfold spec_l26Rd_pick.f
    rw [if_neg (by omega), w1]
    simp only [spec_l26Rd_pick.j0]
  · simp only [spec_l26Rd_pick.j0]
    by_cases c0 : (b.length : Int) = 0
    · rw [if_pos (by simpa using c0)]
      exact Tells.now ⟨by omega, by omega, rfl⟩
    · rw [if_neg (by simpa using c0), w2]
      have hlen : 0 < (b.length : Int) := by omega
      by_cases c1 : p < (b.length : Int)
      · rw [if_pos c1, if_pos hp0, if_neg (by omega)]
        have hr := rd_byte hb p
        rw [wrap64_in (by omega) (by omega)]
        have ht := tmod_range (rd b p) n hr.1 (by omega)
        exact Tells.now ⟨ht.1, ht.2, rfl⟩
      · rw [if_neg c1, if_neg c0]
        have w3 : wrap64 (wrap64 (p * 7) + 3) = p * 7 + 3 := by rw [wrap64_in (n := p * 7) (by omega) (by omega), wrap64_in (by omega) (by omega)]
        have h1 := tmod_range p b.length hp0 hlen
        have h2 := tmod_range (p * 7 + 3) b.length (by omega) hlen
        rw [w3, if_pos h1.1, if_pos h1.2, if_pos h2.1, if_pos h2.2, if_neg (by omega)]
        have r1 := rd_byte hb (Int.tmod p (b.length : Int))
        have r2 := rd_byte hb (Int.tmod (p * 7 + 3) (b.length : Int))
        have hd0 : 0 ≤ Int.tdiv p (b.length : Int) := Int.tdiv_nonneg hp0 (by omega)
        have hd1 : Int.tdiv p (b.length : Int) ≤ p := by
          rw [Int.tdiv_eq_ediv_of_nonneg hp0]; exact Int.ediv_le_self _ hp0
        generalize rd b (Int.tmod p (b.length : Int)) = x1 at r1
        generalize rd b (Int.tmod (p * 7 + 3) (b.length : Int)) = x2 at r2
        generalize Int.tdiv p (b.length : Int) = x3 at hd0 hd1
        have e1 : wrap64 (wrap64 x1 * 131) = x1 * 131 := by rw [wrap64_in (n := x1) (by omega) (by omega), wrap64_in (by omega) (by omega)]
        have e2 : wrap64 (wrap64 x2 * 1117) = x2 * 1117 := by rw [wrap64_in (n := x2) (by omega) (by omega), wrap64_in (by omega) (by omega)]
        have e3 : wrap64 (p * 29) = p * 29 := wrap64_in (by omega) (by omega)
        have e4 : wrap64 (wrap64 x3 * 53) = x3 * 53 := by rw [wrap64_in (n := x3) (by omega) (by omega), wrap64_in (by omega) (by omega)]
        have e5 : wrap64 (x1 * 131 + x2 * 1117) = x1 * 131 + x2 * 1117 := wrap64_in (by omega) (by omega)
        have e6 : wrap64 (x1 * 131 + x2 * 1117 + p * 29) = x1 * 131 + x2 * 1117 + p * 29 := wrap64_in (by omega) (by omega)
        have e7 : wrap64 (x1 * 131 + x2 * 1117 + p * 29 + x3 * 53) = x1 * 131 + x2 * 1117 + p * 29 + x3 * 53 := wrap64_in (by omega) (by omega)
        simp only [e1, e2, e3, e4, e5, e6, e7]
        have hy0 : 0 ≤ x1 * 131 + x2 * 1117 + p * 29 + x3 * 53 := by omega
        have hy1 : x1 * 131 + x2 * 1117 + p * 29 + x3 * 53 < 4611686018427387904 := by omega
        generalize x1 * 131 + x2 * 1117 + p * 29 + x3 * 53 = y at hy0 hy1
        have e8 : wrap64 (Int.tdiv y 64) = y / 64 := by rw [Int.tdiv_eq_ediv_of_nonneg hy0]; exact wrap64_in (by omega) (by omega)
        rw [e8]
        have hx := xor_nonneg y (y / 64) hy0 hy1 (by omega) (by omega)
        have ht := tmod_range _ n hx (by omega)
        exact Tells.now ⟨ht.1, ht.2, rfl⟩

theorem num_tells {b : List Int} (hb : Bytes b) (hl : b.length ≤ 2000) {p : Int} (hp0 : 0 ≤ p) (hp : p ≤ 1000000000) (xs : List Int) (h1 : 1 ≤ xs.length) (h2 : xs.length ≤ 1000) :
    Tells (fun k => spec_l26Rd_num.f k b p xs) (fun r => r.1 ∈ xs ∧ r.2 = p + 1) := by
  unfold spec_l26Rd_num.f
  refine Tells.bind (pick_tells hb hl hp0 hp (n := (xs.length : Int)) (by omega) (by omega)) ?_
  rintro ⟨v, q⟩ ⟨h3, h4, h5⟩
  dsimp only at h3 h4 h5 ⊢
  rw [if_pos h3, if_pos h4]
  refine Tells.now ⟨?_, h5⟩
  unfold rd
  have hi : v.toNat < xs.length := by omega
  dsimp only
  rw [List.getD_eq_getElem?_getD, List.getElem?_eq_getElem hi]
  exact List.getElem_mem hi

theorem clone_eq (l : List Int) (hl : l.length < 140737488355328) : impl_clone_byte.f l = some l := by
  unfold impl_clone_byte.f
  simp only [Option.bind_some, List.length_nil, Nat.zero_add, List.nil_append]
  rw [if_pos hl]

theorem number_tells {b : List Int} (hb : Bytes b) (hl : b.length ≤ 2000) {p : Int} (hp0 : 0 ≤ p) (hp : p ≤ 1000000000) : Tells (fun k => spec_l20Number.f k b p) (fun r => r.2 = p + 1) := by
  unfold spec_l20Number.f
  refine Tells.bind (num_tells hb hl hp0 hp _ (by decide) (by decide)) ?_
  rintro ⟨v, q⟩ ⟨_, h⟩
  exact Tells.now h

theorem l20Bytes_loop {b : List Int} (hb : Bytes b) (hl : b.length ≤ 2000) (n : Nat) (hn : n ≤ 1000) (d : Nat) : ∀ (i : Nat) (acc : List Int) (p : Int), n - i = d → i ≤ n → acc.length = i → 0 ≤ p → p ≤ 10000 + i →
    Tells (fun k => spec_l20Bytes.l0 k (n : Int) acc (i : Int) b p) (fun r => r.1.length = n ∧ r.2 = p + ((n : Int) - i)) := by
  induction d with
  | zero =>
    intro i acc p hd hi ha hp0 hp
    obtain rfl : i = n := by omega
    refine Tells.step (f := fun _ => some (acc, p)) (fun k => ?_) (Tells.now ⟨ha, by show p = _; omega⟩)
    simp only [spec_l20Bytes.l0]; rw [if_neg (by omega)]
  | succ d ih =>
    intro i acc p hd hi ha hp0 hp
    have w : wrap64 ((i : Int) + 1) = ((i + 1 : Nat) : Int) := by unfold wrap64; omega
    refine Tells.step (f := fun k => (spec_l26Rd_pick.f k b p 256).bind fun bt170 => (spec_l20Bytes.l0 k (n : Int) (acc ++ [(bt170.1) % 256]) ((i + 1 : Nat) : Int) b bt170.2)) (fun k => ?_) ?_
    · simp only [spec_l20Bytes.l0]
      rw [if_pos (by omega), w]
      refine congrArg _ (funext fun x => ?_)
      rw [if_pos (by omega)]
    · refine Tells.bind (pick_tells hb hl hp0 (by omega) (by omega) (by omega)) ?_
      rintro ⟨u, q⟩ ⟨_, _, h⟩
      dsimp only at h ⊢
      subst h
      refine (ih (i + 1) _ (p + 1) (by omega) (by omega) (by simp [ha]) (by omega) (by push_cast; omega)).mono ?_
      rintro ⟨r1, r2⟩ ⟨h1, h2⟩
      dsimp only at h1 h2 ⊢
      exact ⟨h1, by push_cast at h2; omega⟩
theorem l20Bytes_tells {b : List Int} (hb : Bytes b) (hl : b.length ≤ 2000) (n : Int) (h0 : 0 ≤ n) (hn : n ≤ 1000) {p : Int} (hp0 : 0 ≤ p) (hp : p ≤ 10000) : Tells (fun k => spec_l20Bytes.f k b p n) (fun r => (r.1.length : Int) = n ∧ r.2 = p + n) := by
  obtain ⟨m, rfl⟩ := Int.eq_ofNat_of_zero_le h0
  unfold spec_l20Bytes.f
  refine (l20Bytes_loop hb hl m (by omega) m 0 [] p (by omega) (by omega) rfl hp0 (by omega)).mono ?_
  rintro ⟨r1, r2⟩ ⟨h1, h2⟩
  dsimp only at h1 h2 ⊢
  exact ⟨by omega, by omega⟩

theorem l20Data_tells {b : List Int} (hb : Bytes b) (hl : b.length ≤ 2000) {p : Int} (hp0 : 0 ≤ p) (hp : p ≤ 1000) : Tells (fun k => spec_l20Data.f k b p) (fun r => r.1.length ≤ 30000 ∧ p ≤ r.2 ∧ r.2 ≤ p + 200) := by
  unfold spec_l20Data.f
  refine Tells.bind (pick_tells hb hl hp0 (by omega) (by omega) (by omega)) ?_
  rintro ⟨u, q⟩ ⟨_, _, h⟩
  dsimp only at h ⊢
  subst h
  by_cases c : u = 0
  · simp only [if_pos c]
    refine Tells.bind (pick_tells hb hl (by omega) (by omega) (by omega) (by omega)) ?_
    rintro ⟨v, q⟩ ⟨h1, h2, h3⟩
    dsimp only at h1 h2 h3 ⊢
    rw [show wrap64 (wrap64 (21600 + v) - 1) = 21600 + v - 1 by unfold wrap64; omega, if_pos (by omega), if_pos (by omega)]
    refine Tells.now ⟨?_, ?_, ?_⟩
    · simp only [List.length_replicate]
      omega
    · show p ≤ q; omega
    · show q ≤ p + 200; omega
  · simp only [if_neg c]
    refine Tells.bind (num_tells hb hl (by omega) (by omega) _ (by decide) (by decide)) ?_
    rintro ⟨v, q⟩ ⟨h1, h2⟩
    dsimp only at h1 h2 ⊢
    have hv : 0 ≤ v ∧ v ≤ 100 := (show ∀ x ∈ ([0, 1, 23, 24, 25, 47, 48, 49, 100] : List Int), 0 ≤ x ∧ x ≤ 100 by decide) v h1
    refine Tells.bind (l20Bytes_tells hb hl v hv.1 (by omega) (p := q) (by omega) (by omega)) ?_
    rintro ⟨d, z⟩ ⟨h3, h4⟩
    dsimp only at h3 h4
    exact Tells.now ⟨show d.length ≤ 30000 by omega, show p ≤ z by omega, show z ≤ p + 200 by omega⟩

theorem l20Spoil_tells {b : List Int} (hb : Bytes b) (hl : b.length ≤ 2000) {p : Int} (hp0 : 0 ≤ p) (hp : p ≤ 5000) (x0 x1 x2 x3 : Int) (l : List Int) (hll : l.length ≤ 1000) : Tells (fun k => spec_l20Spoil.f k b p x0 x1 x2 x3 l) (fun r => r.2.2.2.2.1.length ≤ 1000) := by
  unfold spec_l20Spoil.f
  refine Tells.bind (pick_tells hb hl hp0 (by omega) (by omega) (by omega)) ?_
  rintro ⟨u, q⟩ ⟨_, _, h⟩
  dsimp only at h ⊢
  subst h
  by_cases c0 : u = 0
  · simp only [if_pos c0]
    refine Tells.bind (pick_tells hb hl (by omega) (by omega) (by omega) (by omega)) ?_
    rintro ⟨v, q⟩ _
    exact Tells.now hll
  · simp only [if_neg c0]
    by_cases c1 : u = 1
    · simp only [if_pos c1]
      refine Tells.bind (num_tells hb hl (by omega) (by omega) _ (by decide) (by decide)) ?_
      rintro ⟨v, q⟩ _
      exact Tells.now hll
    · simp only [if_neg c1]
      by_cases c2 : u = 2
      · simp only [if_pos c2]
        refine Tells.bind (num_tells hb hl (by omega) (by omega) _ (by decide) (by decide)) ?_
        rintro ⟨v, q⟩ _
        exact Tells.now hll
      · simp only [if_neg c2]
        by_cases c3 : u = 3
        · simp only [if_pos c3]
          refine Tells.bind (num_tells hb hl (by omega) (by omega) _ (by decide) (by decide)) ?_
          rintro ⟨v, q⟩ _
          exact Tells.now hll
        · simp only [if_neg c3]
          by_cases c4 : u = 4
          · simp only [if_pos c4]
            refine Tells.bind (num_tells hb hl (by omega) (by omega) _ (by decide) (by decide)) ?_
            rintro ⟨v, q⟩ ⟨h1, h2⟩
            dsimp only at h1 h2 ⊢
            have hv : 0 ≤ v ∧ v ≤ 100 := (show ∀ x ∈ ([0, 1, 23, 24, 25] : List Int), 0 ≤ x ∧ x ≤ 100 by decide) v h1
            refine Tells.bind (l20Bytes_tells hb hl v hv.1 (by omega) (p := q) (by omega) (by omega)) ?_
            rintro ⟨d, z⟩ ⟨h3, _⟩
            dsimp only at h3
            exact Tells.now (show d.length ≤ 1000 by omega)
          · simp only [if_neg c4]
            exact Tells.now hll

theorem impl_WireCut_go (a0 : Int) (l : List Int) (hl : l.length ≤ 21600) (d : Nat) : ∀ i : Nat, ofn l - i = d → i ≤ ofn l → Ev (fun k => impl_WireCut.l0 k a0 l (ofn l : Int) (pieces a0 l i) (i : Int)) (pieces a0 l (ofn l), true) := by
  induction d with
  | zero =>
    intro i hd hi
    obtain rfl : i = ofn l := by omega
    refine Ev.step (f := fun _ => some (pieces a0 l (ofn l), true)) (fun k => ?_) (Ev.now _)
    simp only [impl_WireCut.l0]; rw [if_neg (by omega)]
  | succ d ih =>
    intro i hd hi
    have h24 : 24 * i < l.length := by unfold ofn at hd; omega
    have hi2 : i ≤ 21600 := by omega
    have w : wrap64 ((i : Int) + 1) = ((i + 1 : Nat) : Int) := by unfold wrap64; omega
    refine Ev.step (f := fun k => impl_WireCut.l0 k a0 l (ofn l : Int) (pieces a0 l (i + 1)) ((i + 1 : Nat) : Int)) (fun k => ?_) (ih (i + 1) (by omega) (by omega))
    simp only [impl_WireCut.l0]
    rw [if_pos (by omega), spec_l20Piece_val a0 l i h24 hl, Option.bind_some, if_pos (by rw [pieces_length]; omega), w, pieces_succ]
    rfl
theorem impl_WireCut_ev (a0 : Int) (l : List Int) : Ev (fun k => impl_WireCut.f k a0 l) (if wof l ≠ 0 ∧ 1 ≤ a0 ∧ a0 ≤ 1000000 then (pieces a0 l (ofn l), true) else ([], false)) := by
  unfold impl_WireCut.f
  simp only [spec_WireOf_val, Option.bind_some]
  have nope : Ev (fun k => impl_WireCut.j0 k a0 l (wof l : Int) true) ([], false) := by
    refine Ev.step (f := fun _ => some ([], false)) (fun k => ?_) (Ev.now _)
    simp only [impl_WireCut.j0, if_true]
  by_cases c0 : wof l = 0
  · rw [if_neg (by omega)]
    simp only [if_pos (show (wof l : Int) = 0 by omega)]
    exact nope
  · simp only [if_neg (show ¬ (wof l : Int) = 0 by omega)]
    by_cases c1 : a0 < 1
    · rw [if_neg (by omega)]
      simp only [if_pos c1]
      exact nope
    · simp only [if_neg c1]
      by_cases c2 : a0 > 1000000
      · rw [if_neg (by omega), decide_eq_true c2]
        exact nope
      · obtain ⟨h1, h2, h3⟩ := wof_pos c0
        rw [if_pos ⟨c0, by omega, by omega⟩, decide_eq_false c2]
        refine Ev.step (f := fun k => impl_WireCut.l0 k a0 l (ofn l : Int) (pieces a0 l 0) ((0 : Nat) : Int)) (fun k => ?_) (impl_WireCut_go a0 l h2 (ofn l) 0 (by omega) (by omega))
        simp only [impl_WireCut.j0]
        rw [if_neg (by decide), h3]
        rfl

theorem spec_WireCut_go (a0 : Int) (l : List Int) (hl : l.length ≤ 21600) (d : Nat) : ∀ i : Nat, ofn l - i = d → i ≤ ofn l → Ev (fun k => spec_WireCut.l0 k a0 l (ofn l : Int) (pieces a0 l i) (i : Int)) (pieces a0 l (ofn l), true) := by
  induction d with
  | zero =>
    intro i hd hi
    obtain rfl : i = ofn l := by omega
    refine Ev.step (f := fun _ => some (pieces a0 l (ofn l), true)) (fun k => ?_) (Ev.now _)
    simp only [spec_WireCut.l0]; rw [if_neg (by omega)]
  | succ d ih =>
    intro i hd hi
    have h24 : 24 * i < l.length := by unfold ofn at hd; omega
    have hi2 : i ≤ 21600 := by omega
    have w : wrap64 ((i : Int) + 1) = ((i + 1 : Nat) : Int) := by unfold wrap64; omega
    refine Ev.step (f := fun k => spec_WireCut.l0 k a0 l (ofn l : Int) (pieces a0 l (i + 1)) ((i + 1 : Nat) : Int)) (fun k => ?_) (ih (i + 1) (by omega) (by omega))
    simp only [spec_WireCut.l0]
    rw [if_pos (by omega), spec_l20Piece_val a0 l i h24 hl, Option.bind_some, if_pos (by rw [pieces_length]; omega), w, pieces_succ]
    rfl
theorem spec_WireCut_ev (a0 : Int) (l : List Int) : Ev (fun k => spec_WireCut.f k a0 l) (if wof l ≠ 0 ∧ 1 ≤ a0 ∧ a0 ≤ 1000000 then (pieces a0 l (ofn l), true) else ([], false)) := by
  unfold spec_WireCut.f
  simp only [spec_WireOf_val, Option.bind_some]
  have nope : Ev (fun k => spec_WireCut.j0 k a0 l (wof l : Int) true) ([], false) := by
    refine Ev.step (f := fun _ => some ([], false)) (fun k => ?_) (Ev.now _)
    simp only [spec_WireCut.j0, if_true]
  by_cases c0 : wof l = 0
  · rw [if_neg (by omega)]
    simp only [if_pos (show (wof l : Int) = 0 by omega)]
    exact nope
  · simp only [if_neg (show ¬ (wof l : Int) = 0 by omega)]
    by_cases c1 : a0 < 1
    · rw [if_neg (by omega)]
      simp only [if_pos c1]
      exact nope
    · simp only [if_neg c1]
      by_cases c2 : a0 > 1000000
      · rw [if_neg (by omega), decide_eq_true c2]
        exact nope
      · obtain ⟨h1, h2, h3⟩ := wof_pos c0
        rw [if_pos ⟨c0, by omega, by omega⟩, decide_eq_false c2]
        refine Ev.step (f := fun k => spec_WireCut.l0 k a0 l (ofn l : Int) (pieces a0 l 0) ((0 : Nat) : Int)) (fun k => ?_) (spec_WireCut_go a0 l h2 (ofn l) 0 (by omega) (by omega))
        simp only [spec_WireCut.j0]
        rw [if_neg (by decide), h3]
        rfl

/-- Whether word i is the i-th piece of the thing. -/
def okw (xs : List S36) (x : S36) (i : Nat) : Bool := decide (x.f0 = 1) && (wok x.f0 x.f1 x.f2 x.f3 x.f4.length && (decide (x.f1 = (rd_T36 xs 0).f1) && (decide (x.f2 = (xs.length : Int)) && decide (x.f3 = (i : Int)))))
/-- What is joined from word i on. -/
def jn (xs : List S36) : List S36 → Nat → List Int → List Int × Bool
  | [], _, acc => (acc, decide ((xs.length : Int) > 0))
  | x :: ys, i, acc => if okw xs x i = true then jn xs ys (i + 1) (acc ++ x.f4) else ([], false)
theorem spec_WireJoin_loop (xs : List S36) (hl : xs.length ≤ 1048576) (ha : ∀ x ∈ xs, x.f4.length ≤ 1048576) (d : Nat) : ∀ (i : Nat) (acc : List Int), xs.length - i = d → i ≤ xs.length → acc.length ≤ 1048576 * i →
    Ev (fun k => spec_WireJoin.l0 k xs acc (i : Int)) (jn xs (xs.drop i) i acc) := by
  induction d with
  | zero =>
    intro i acc hd hi hc
    obtain rfl : i = xs.length := by omega
    rw [List.drop_length]
    refine Ev.step (f := fun _ => some _) (fun k => ?_) (Ev.now _)
    simp only [spec_WireJoin.l0]; rw [if_neg (by omega)]; rfl
  | succ d ih =>
    intro i acc hd hi hc
    have hlt : i < xs.length := by omega
    have w : wrap64 ((i : Int) + 1) = ((i + 1 : Nat) : Int) := by unfold wrap64; omega
    have hg : rd_T36 xs (i : Int) = xs[i] := by unfold rd_T36; rw [Int.toNat_natCast, getD_lt xs _ i hlt]
    have hal := ha _ (List.getElem_mem hlt)
    have hr := ih (i + 1) (acc ++ (xs[i]).f4) (by omega) (by omega) (by rw [List.length_append]; omega)
    rw [List.drop_eq_getElem_cons hlt]
    generalize xs[i] = x at hg hal hr
    have nope : okw xs x i = false → jn xs (x :: xs.drop (i + 1)) i acc = ([], false) := fun h => by unfold jn; rw [h]; rfl
    by_cases c0 : x.f0 = 1
    · refine Ev.step (f := fun k => (spec_WireOk.f k x.f0 x.f1 x.f2 x.f3 x.f4).bind fun t => (if t = true then (if x.f1 = (rd_T36 xs 0).f1 then (if x.f2 = (xs.length : Int) then (if x.f3 = (i : Int) then (if acc.length + x.f4.length < 140737488355328 then (spec_WireJoin.l0 k xs (acc ++ x.f4) ((i + 1 : Nat) : Int)) else none) else (some ([], false))) else (some ([], false))) else (some ([], false))) else (some ([], false)))) (fun k => ?_) ?_
      · simp only [spec_WireJoin.l0]
        rw [if_pos (by omega), if_pos (by omega), hg, if_pos c0, if_pos (show 0 < (xs.length : Int) by omega), w]
      · refine Ev.bind (spec_WireOk_ev x.f0 x.f1 x.f2 x.f3 x.f4 (by omega)) ?_
        cases c1 : wok x.f0 x.f1 x.f2 x.f3 x.f4.length
        · rw [nope (by unfold okw; rw [c1]; simp)]
          exact Ev.now _
        · simp only [if_true]
          by_cases c2 : x.f1 = (rd_T36 xs 0).f1
          · simp only [if_pos c2]
            by_cases c3 : x.f2 = (xs.length : Int)
            · simp only [if_pos c3]
              by_cases c4 : x.f3 = (i : Int)
              · simp only [if_pos c4, if_pos (show acc.length + x.f4.length < 140737488355328 by omega)]
                have hk : jn xs (x :: xs.drop (i + 1)) i acc = jn xs (xs.drop (i + 1)) (i + 1) (acc ++ x.f4) := by
                  have ho : okw xs x i = true := by unfold okw; rw [c1, decide_eq_true c0, decide_eq_true c2, decide_eq_true c3, decide_eq_true c4]; rfl
                  rw [jn, if_pos ho]
                rw [hk]
                exact hr
              · simp only [if_neg c4]
                rw [nope (by unfold okw; rw [decide_eq_false c4]; simp)]
                exact Ev.now _
            · simp only [if_neg c3]
              rw [nope (by unfold okw; rw [decide_eq_false c3]; simp)]
              exact Ev.now _
          · simp only [if_neg c2]
            rw [nope (by unfold okw; rw [decide_eq_false c2]; simp)]
            exact Ev.now _
    · refine Ev.step (f := fun _ => some ([], false)) (fun k => ?_) ?_
      · simp only [spec_WireJoin.l0]
        rw [if_pos (by omega), if_pos (by omega), hg, if_neg c0]
      · rw [nope (by unfold okw; rw [decide_eq_false c0]; simp)]
        exact Ev.now _
theorem spec_WireJoin_ev (xs : List S36) (hl : xs.length ≤ 1048576) (ha : ∀ x ∈ xs, x.f4.length ≤ 1048576) : Ev (fun k => spec_WireJoin.f k xs) (jn xs xs 0 []) := by
  unfold spec_WireJoin.f
  exact spec_WireJoin_loop xs hl ha xs.length 0 [] (by omega) (by omega) (by simp)

theorem impl_WireJoin_loop (xs : List S36) (hl : xs.length ≤ 1048576) (ha : ∀ x ∈ xs, x.f4.length ≤ 1048576) (d : Nat) : ∀ (i : Nat) (acc : List Int), xs.length - i = d → i ≤ xs.length → acc.length ≤ 1048576 * i →
    Ev (fun k => impl_WireJoin.l0 k xs acc xs (xs.length : Int) (i : Int)) (jn xs (xs.drop i) i acc) := by
  induction d with
  | zero =>
    intro i acc hd hi hc
    obtain rfl : i = xs.length := by omega
    rw [List.drop_length]
    refine Ev.step (f := fun _ => some _) (fun k => ?_) (Ev.now _)
    simp only [impl_WireJoin.l0]; rw [if_neg (by omega), clone_eq acc (by omega)]; rfl
  | succ d ih =>
    intro i acc hd hi hc
    have hlt : i < xs.length := by omega
    have w : wrap64 ((i : Int) + 1) = ((i + 1 : Nat) : Int) := by unfold wrap64; omega
    have hg : rd_T36 xs (i : Int) = xs[i] := by unfold rd_T36; rw [Int.toNat_natCast, getD_lt xs _ i hlt]
    have hal := ha _ (List.getElem_mem hlt)
    have hr := ih (i + 1) (acc ++ (xs[i]).f4) (by omega) (by omega) (by rw [List.length_append]; omega)
    rw [List.drop_eq_getElem_cons hlt]
    generalize xs[i] = x at hg hal hr
    have nope : okw xs x i = false → jn xs (x :: xs.drop (i + 1)) i acc = ([], false) := fun h => by unfold jn; rw [h]; rfl
    by_cases c0 : x.f0 = 1
    · refine Ev.step (f := fun k => (impl_WireOk.f k x.f0 x.f1 x.f2 x.f3 x.f4).bind fun t => (if t = true then (if x.f1 = (rd_T36 xs 0).f1 then (if x.f2 = (xs.length : Int) then (if x.f3 = (i : Int) then (if acc.length + x.f4.length < 140737488355328 then (impl_WireJoin.l0 k xs (acc ++ x.f4) xs (xs.length : Int) ((i + 1 : Nat) : Int)) else none) else (some ([], false))) else (some ([], false))) else (some ([], false))) else (some ([], false)))) (fun k => ?_) ?_
      · simp only [impl_WireJoin.l0]
        rw [if_pos (by omega), if_pos (by omega), if_pos (by omega), hg, if_pos c0, if_pos (show 0 < (xs.length : Int) by omega), w]
      · refine Ev.bind (impl_WireOk_ev x.f0 x.f1 x.f2 x.f3 x.f4 (by omega)) ?_
        cases c1 : wok x.f0 x.f1 x.f2 x.f3 x.f4.length
        · rw [nope (by unfold okw; rw [c1]; simp)]
          exact Ev.now _
        · simp only [if_true]
          by_cases c2 : x.f1 = (rd_T36 xs 0).f1
          · simp only [if_pos c2]
            by_cases c3 : x.f2 = (xs.length : Int)
            · simp only [if_pos c3]
              by_cases c4 : x.f3 = (i : Int)
              · simp only [if_pos c4, if_pos (show acc.length + x.f4.length < 140737488355328 by omega)]
                have hk : jn xs (x :: xs.drop (i + 1)) i acc = jn xs (xs.drop (i + 1)) (i + 1) (acc ++ x.f4) := by
                  have ho : okw xs x i = true := by unfold okw; rw [c1, decide_eq_true c0, decide_eq_true c2, decide_eq_true c3, decide_eq_true c4]; rfl
                  rw [jn, if_pos ho]
                rw [hk]
                exact hr
              · simp only [if_neg c4]
                rw [nope (by unfold okw; rw [decide_eq_false c4]; simp)]
                exact Ev.now _
            · simp only [if_neg c3]
              rw [nope (by unfold okw; rw [decide_eq_false c3]; simp)]
              exact Ev.now _
          · simp only [if_neg c2]
            rw [nope (by unfold okw; rw [decide_eq_false c2]; simp)]
            exact Ev.now _
    · refine Ev.step (f := fun _ => some ([], false)) (fun k => ?_) ?_
      · simp only [impl_WireJoin.l0]
        rw [if_pos (by omega), if_pos (by omega), if_pos (by omega), hg, if_neg c0]
      · rw [nope (by unfold okw; rw [decide_eq_false c0]; simp)]
        exact Ev.now _
theorem impl_WireJoin_ev (xs : List S36) (hl : xs.length ≤ 1048576) (ha : ∀ x ∈ xs, x.f4.length ≤ 1048576) : Ev (fun k => impl_WireJoin.f k xs) (jn xs xs 0 []) := by
  unfold impl_WireJoin.f
  exact impl_WireJoin_loop xs hl ha xs.length 0 [] (by omega) (by omega) (by simp)

/-- Words that are joined are the pieces of what they are joined to. -/
theorem jn_true (xs : List S36) : ∀ (ys : List S36) (i : Nat) (acc d : List Int), jn xs ys i acc = (d, true) → (∀ (j : Nat) (h : j < ys.length), okw xs ys[j] (i + j) = true) ∧ d = acc ++ (ys.map (·.f4)).flatten ∧ 0 < xs.length
  | [], i, acc, d, h => by
    obtain ⟨h1, h2⟩ := Prod.mk.inj h
    exact ⟨fun j hj => by simp at hj, by simp [h1], by have := of_decide_eq_true h2; omega⟩
  | y :: ys, i, acc, d, h => by
    unfold jn at h
    by_cases c : okw xs y i = true
    · rw [if_pos c] at h
      obtain ⟨h1, h2, h3⟩ := jn_true xs ys (i + 1) _ d h
      refine ⟨fun j hj => ?_, by rw [h2]; simp, h3⟩
      cases j with
      | zero => exact c
      | succ j =>
        have := h1 j (by simpa using hj)
        rw [show i + 1 + j = i + (j + 1) by omega] at this
        exact this
    · rw [if_neg c] at h
      cases h
theorem jn_false (xs : List S36) : ∀ (ys : List S36) (i : Nat) (acc d : List Int), (xs = [] → ys = [] ∧ acc = []) → jn xs ys i acc = (d, false) → d = []
  | [], i, acc, d, h0, h => by
    obtain ⟨h1, h2⟩ := Prod.mk.inj h
    have : ¬ ((xs.length : Int) > 0) := of_decide_eq_false h2
    rw [← h1]
    exact (h0 (List.eq_nil_of_length_eq_zero (by omega))).2
  | y :: ys, i, acc, d, h0, h => by
    unfold jn at h
    by_cases c : okw xs y i = true
    · rw [if_pos c] at h
      exact jn_false xs ys (i + 1) _ d (fun e => by have := (h0 e).1; cases this) h
    · rw [if_neg c] at h
      exact (Prod.mk.inj h).1.symm
theorem chunks_flat : ∀ (l : List (List Int)), (∀ (j : Nat) (h : j < l.length), l[j].length ≤ 24 ∧ 0 < l[j].length ∧ (l[j].length = 24 ∨ j + 1 = l.length)) → (∀ (j : Nat) (h : j < l.length), chunk l.flatten j = l[j]) ∧ ofn l.flatten = l.length
  | [], _ => ⟨fun j h => by simp at h, rfl⟩
  | y :: ys, hy => by
    have h0 := hy 0 (by simp)
    simp only [List.getElem_cons_zero, List.length_cons, Nat.zero_add] at h0
    have ih := chunks_flat ys (fun j h => by
      have := hy (j + 1) (by simpa using h)
      simp only [List.getElem_cons_succ, List.length_cons] at this
      exact ⟨this.1, this.2.1, this.2.2.imp id (fun e => by omega)⟩)
    by_cases c : ys = []
    · subst c
      refine ⟨fun j h => ?_, ?_⟩
      · obtain rfl : j = 0 := by simpa using h
        unfold chunk
        simp only [List.flatten_cons, List.flatten_nil, List.append_nil, Nat.mul_zero, List.drop_zero, List.getElem_cons_zero]
        exact List.take_of_length_le h0.1
      · unfold ofn
        simp only [List.flatten_cons, List.flatten_nil, List.append_nil, List.length_cons, List.length_nil]
        omega
    · have hp : 0 < ys.length := List.length_pos_iff.2 c
      have h24 : y.length = 24 := h0.2.2.resolve_right (by omega)
      refine ⟨fun j h => ?_, ?_⟩
      · cases j with
        | zero =>
          unfold chunk
          simp only [List.flatten_cons, Nat.mul_zero, List.drop_zero, List.getElem_cons_zero]
          rw [List.take_append_of_le_length (by omega), List.take_of_length_le (by omega)]
        | succ j =>
          have h2 := ih.1 j (by simpa using h)
          rw [List.getElem_cons_succ, ← h2]
          unfold chunk
          rw [List.flatten_cons, List.drop_append, List.drop_eq_nil_of_le (by omega), List.nil_append, h24, show 24 * (j + 1) - 24 = 24 * j by omega]
      · have h2 := ih.2
        unfold ofn at h2 ⊢
        rw [List.flatten_cons, List.length_append, List.length_cons, h24]
        omega
theorem join_pieces (xs : List S36) (d : List Int) (h : jn xs xs 0 [] = (d, true)) : ∃ n, (∀ h0 : 0 < xs.length, xs[0].f1 = n) ∧ 0 < xs.length ∧ xs = pieces n d (ofn d) ∧ 1 ≤ d.length ∧ d.length ≤ 21600 ∧ 1 ≤ n ∧ n ≤ 1000000 ∧ ofn d = xs.length := by
  obtain ⟨h1, h2, h3⟩ := jn_true xs xs 0 [] d h
  rw [List.nil_append] at h2
  have hz : rd_T36 xs 0 = xs[0] := by unfold rd_T36; simp [List.getD_eq_getElem?_getD, h3]
  have hw : ∀ (j : Nat) (hj : j < xs.length), xs[j].f0 = 1 ∧ xs[j].f1 = xs[0].f1 ∧ xs[j].f2 = (xs.length : Int) ∧ xs[j].f3 = (j : Int) ∧ 1 ≤ xs[0].f1 ∧ xs[0].f1 ≤ 1000000 ∧ xs.length ≤ 900 ∧ xs[j].f4.length ≤ 24 ∧ 0 < xs[j].f4.length ∧ (xs[j].f4.length = 24 ∨ j + 1 = xs.length) := by
    intro j hj
    have h4 := h1 j hj
    rw [Nat.zero_add] at h4
    unfold okw at h4
    simp only [Bool.and_eq_true, decide_eq_true_eq] at h4
    obtain ⟨g0, gw, g1, g2, g3⟩ := h4
    rw [hz] at g1
    unfold wok at gw
    have gw := of_decide_eq_true gw
    obtain ⟨w1, w2, w3⟩ := gw
    rcases w3 with ⟨_, w4, w5, w6, w7, w8, w9⟩ | ⟨w4, _⟩
    · exact ⟨g0, g1, g2, g3, by omega, by omega, by omega, w8, by omega, by omega⟩
    · omega
  have hc := chunks_flat (xs.map (·.f4)) (fun j hj => by
    have hj2 : j < xs.length := by simpa using hj
    have := hw j hj2
    rw [List.getElem_map]
    exact ⟨this.2.2.2.2.2.2.2.1, this.2.2.2.2.2.2.2.2.1, this.2.2.2.2.2.2.2.2.2.imp id (fun e => by rw [List.length_map]; exact e)⟩)
  rw [← h2] at hc
  have h0 := hw 0 h3
  have h900 : xs.length ≤ 900 := h0.2.2.2.2.2.2.1
  have hof : ofn d = xs.length := by have := hc.2; rwa [List.length_map] at this
  refine ⟨xs[0].f1, fun _ => rfl, h3, ?_, ?_, ?_, h0.2.2.2.2.1, h0.2.2.2.2.2.1, hof⟩
  · apply List.ext_getElem
    · rw [pieces_length, hof]
    · intro j g1 g2
      have g := hw j g1
      have gc := hc.1 j (by simpa using g1)
      rw [List.getElem_map] at gc
      simp only [pieces, List.getElem_map, List.getElem_range, piece]
      rw [gc, hof, ← g.2.2.1, ← g.2.2.2.1, ← g.2.1, ← g.1]
  · unfold ofn at hof; omega
  · unfold ofn at hof; omega

end Go.Proofs.Ytongoeifppllnaa.BFnWireJoin
