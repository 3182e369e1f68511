/- What l19Get and l3Wrap tell, over numbers and lists alone. -/
import Derived.Test.YtdmjdcapkjnipaaQKept
namespace Go.Proofs.Ytdmjdcapkjnipaa.QBack
open Go Go.RowKit Go.Proofs.Ytdmjdcapkjnipaa.Tell Go.Proofs.Ytdmjdcapkjnipaa.F Go.Proofs.YtdmjdcapkjnipaaW Go.Proofs.YtdmjdcapkjnipaaW.PrintWords Go.Proofs.YtdmjdcapkjnipaaW.PrintLast Go.Proofs.YtdmjdcapkjnipaaW.PrintMore
set_option linter.unusedVariables false
set_option linter.unusedSimpArgs false
def gt (l : List Int) (a : Nat) : Nat → Int
  | 0 => 0
  | n + 1 => l.getD a 0 + 256 * gt l (a + 1) n
theorem byte_in {l : List Int} (hb : ∀ x ∈ l, 0 ≤ x ∧ x ≤ 255) (a : Nat) : 0 ≤ l.getD a 0 ∧ l.getD a 0 ≤ 255 := by
  rcases Nat.lt_or_ge a l.length with h | h
  · rw [List.getD_eq_getElem?_getD, List.getElem?_eq_getElem h]
    exact hb _ (List.getElem_mem h)
  · rw [List.getD_eq_getElem?_getD, List.getElem?_eq_none h]
    decide
theorem gt_small {l : List Int} (hb : ∀ x ∈ l, 0 ≤ x ∧ x ≤ 255) (a n : Nat) (hn : n ≤ 4) : 0 ≤ gt l a n ∧ gt l a n < 4294967296 ∧ (n ≤ 3 → gt l a n < 16777216) ∧ (n ≤ 2 → gt l a n < 65536) ∧ (n ≤ 1 → gt l a n < 256) := by
  have h0 := byte_in hb a
  have h1 := byte_in hb (a + 1)
  have h2 := byte_in hb (a + 1 + 1)
  have h3 := byte_in hb (a + 1 + 1 + 1)
  match n, hn with
  | 0, _ => simp only [gt]; omega
  | 1, _ => simp only [gt]; omega
  | 2, _ => simp only [gt]; omega
  | 3, _ => simp only [gt]; omega
  | 4, _ => simp only [gt]; omega
theorem get_loop {l : List Int} (hb : ∀ x ∈ l, 0 ≤ x ∧ x ≤ 255) (a n : Nat) (hn : n ≤ 4) (han : a + n ≤ l.length) (hl : l.length ≤ 1000000) : ∀ j : Nat, j ≤ n → Ev (fun k => spec_l19Get.l0 k l (a : Int) (gt l (a + j) (n - j)) ((j : Int) - 1)) (gt l a n) := by
  intro j
  induction j with
  | zero =>
    intro hj
    refine Ev.step (f := fun _ => some (gt l a n)) (fun k => ?_) (Ev.now _)
    simp only [spec_l19Get.l0]
    rw [if_neg (by omega)]
    rfl
  | succ j ih =>
    intro hj
    have h := ih (by omega)
    refine Ev.step (fun k => ?_) h
    simp only [spec_l19Get.l0]
    have w1 : wrap64 ((a : Int) + (((j + 1 : Nat) : Int) - 1)) = ((a + j : Nat) : Int) := by unfold wrap64; omega
    have w2 : wrap64 ((((j + 1 : Nat) : Int) - 1) - 1) = (j : Int) - 1 := by unfold wrap64; omega
    have b := byte_in hb (a + j)
    have g := gt_small hb (a + (j + 1)) (n - (j + 1)) (by omega)
    have g3 := g.2.2.1 (by omega)
    have er : rd l ((a + j : Nat) : Int) = l.getD (a + j) 0 := by unfold rd; rw [Int.toNat_natCast]
    have e1 : IntKind.u64.wrap (gt l (a + (j + 1)) (n - (j + 1)) * 256) = gt l (a + (j + 1)) (n - (j + 1)) * 256 := by rw [IntKind.wrap_u64]; omega
    have e2 : IntKind.u64.wrap (l.getD (a + j) 0) = l.getD (a + j) 0 := by rw [IntKind.wrap_u64]; omega
    have e3 : gt l (a + j) (n - j) = l.getD (a + j) 0 + 256 * gt l (a + (j + 1)) (n - (j + 1)) := by
      rw [show n - j = (n - (j + 1)) + 1 by omega]
      rfl
    have e4 : IntKind.u64.wrap (gt l (a + (j + 1)) (n - (j + 1)) * 256 + l.getD (a + j) 0) = gt l (a + j) (n - j) := by rw [IntKind.wrap_u64, e3]; omega
    rw [if_pos (by omega), w1, if_pos (by omega), if_pos (by omega), er, e1, e2, e4, w2]
theorem get_ev {l : List Int} (hb : ∀ x ∈ l, 0 ≤ x ∧ x ≤ 255) (a n : Nat) (hn : n ≤ 4) (han : a + n ≤ l.length) (hl : l.length ≤ 1000000) : ∃ k, spec_l19Get.f k l (a : Int) (n : Int) = some (gt l a n) := by
  have h := get_loop hb a n hn han hl n (Nat.le_refl _)
  have w : wrap64 ((n : Int) - 1) = (n : Int) - 1 := by unfold wrap64; omega
  rw [Nat.sub_self] at h
  have h2 : Ev (fun k => spec_l19Get.f k l (a : Int) (n : Int)) (gt l a n) := Ev.congr (fun k => by unfold spec_l19Get.f; rw [w]; rfl) h
  exact Ev.rounds h2
def w16 (x : Int) : Int := if x > 32767 then x - 65536 else x
theorem wrap_f (x : Int) (h0 : 0 ≤ x) (h1 : x < 65536) : spec_l3Wrap.f x = some (w16 x) := by
  have e : Int.tmod x 65536 = x := by rw [Int.tmod_eq_emod_of_nonneg h0]; omega
  unfold spec_l3Wrap.f w16
  rw [e, if_neg (by omega)]
  have w : ∀ y : Int, -32768 ≤ y → y < 32768 → IntKind.i16.wrap y = y := by
    intro y h2 h3
    simp [IntKind.wrap, IntKind.bits, IntKind.signed]
    omega
  by_cases h : x > 32767
  · have w64 : wrap64 (x - 65536) = x - 65536 := by unfold wrap64; omega
    rw [if_pos h, if_pos h, w64, w _ (by omega) (by omega)]
  · rw [if_neg h, if_neg h, w _ (by omega) (by omega)]
theorem le_gt {l : List Int} (hb : ∀ x ∈ l, 0 ≤ x ∧ x ≤ 255) (n : Nat) : ∀ a, a + n ≤ l.length → QKept.le n (gt l a n) = (l.drop a).take n := by
  induction n with
  | zero => intro a h; simp [QKept.le]
  | succ n ih =>
    intro a h
    have b := byte_in hb a
    have e : l.getD a 0 = l[a] := by rw [List.getD_eq_getElem?_getD, List.getElem?_eq_getElem (by omega)]; rfl
    rw [QKept.le_succ, show gt l a (n + 1) = l.getD a 0 + 256 * gt l (a + 1) n from rfl, show (l.getD a 0 + 256 * gt l (a + 1) n) % 256 = l.getD a 0 by omega, show (l.getD a 0 + 256 * gt l (a + 1) n) / 256 = gt l (a + 1) n by omega, ih (a + 1) (by omega)]
    rw [List.drop_eq_getElem_cons (i := a) (by omega), List.take_succ_cons, e]
end Go.Proofs.Ytdmjdcapkjnipaa.QBack
