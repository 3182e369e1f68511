/- Walks over the ladders' memory: what the functions of this seat answer. -/
import Derived.Test.YtdmjdcapkjnipaaProg
import Derived.Test.YtdmjdcapkjnipaaMW
import Derived.WalkKit
import Derived.Deep.LoopGhost
import Derived.Deep.DeepCutAuto
import Derived.BigFrame
import Derived.Deep.QuietTactic
import Derived.BigQuiet
import Derived.Test.YtdmjdcapkjnipaaKF
import Derived.Test.YtdmjdcapkjnipaaQBack
namespace Go.Proofs.Ytdmjdcapkjnipaa.K
open Go Go.RowKit Go.Proofs.YtdmjdcapkjnipaaW Go.Proofs.YtdmjdcapkjnipaaW.PrintWords Go.Proofs.Ytdmjdcapkjnipaa.MW
set_option linter.unusedVariables false
set_option linter.unusedSimpArgs false
set_option maxRecDepth 100000

open QKept QBack
def pm (l : List Int) : Mm := { zm with M := gt l 0 4 * 4294967296, S := gt l 4 2, T := fun k => (decide (l.getD (6 + 3 * k) 0 % 2 = 1), gt l (7 + 3 * k) 2), C := fun k => (decide (l.getD (54 + 3 * k) 0 % 2 = 1), decide (l.getD (54 + 3 * k) 0 / 2 % 2 = 1), gt l (55 + 3 * k) 2), D := fun i => if 16 ≤ i then w16 (gt l (102 + 2 * (i - 16)) 2) else 0 }
def okB (l : List Int) : Prop := ∀ k, k < 16 → l.getD (6 + 3 * k) 0 ≤ 1 ∧ l.getD (54 + 3 * k) 0 ≤ 3
section
variable {l : List Int} (hb : ∀ x ∈ l, 0 ≤ x ∧ x ≤ 255) (hl : l.length = 134)
include hb hl
omit hl in
theorem pm_wf : (pm l).wf := by
  have g2 := fun a => gt_small hb a 2 (by decide)
  have z : 0 ≤ (0 : Int) ∧ (0 : Int) < 4294967296 := by decide
  refine ⟨z, z, ?_, ?_, z, fun k _ => ?_, fun k _ => ?_, fun k _ => ?_, fun k _ => by show (0 : Nat) < 2 ^ 64; decide, z⟩
  · have := gt_small hb 0 4 (by decide)
    show 0 ≤ gt l 0 4 * 4294967296 ∧ gt l 0 4 * 4294967296 < 18446744073709551616
    omega
  · have := g2 4
    show 0 ≤ gt l 4 2 ∧ gt l 4 2 < 65536
    omega
  · have := g2 (7 + 3 * k)
    show 0 ≤ gt l (7 + 3 * k) 2 ∧ gt l (7 + 3 * k) 2 < 65536
    omega
  · have := g2 (55 + 3 * k)
    show 0 ≤ gt l (55 + 3 * k) 2 ∧ gt l (55 + 3 * k) 2 < 65536
    omega
  · have := g2 (102 + 2 * (k - 16))
    show -32768 ≤ (if 16 ≤ k then w16 (gt l (102 + 2 * (k - 16)) 2) else 0) ∧ (if 16 ≤ k then w16 (gt l (102 + 2 * (k - 16)) 2) else 0) < 32768
    by_cases h : 16 ≤ k
    · rw [if_pos h]; unfold w16; split <;> omega
    · rw [if_neg h]; decide
theorem hB_pm : hB (pm l) = l.take 6 := by
  have g := gt_small hb 0 4 (by decide)
  show le 4 (gt l 0 4 * 4294967296 / 4294967296) ++ le 2 (gt l 4 2) = l.take 6
  rw [show gt l 0 4 * 4294967296 / 4294967296 = gt l 0 4 by omega, le_gt hb 4 0 (by omega), le_gt hb 2 4 (by omega), List.drop_zero]
  exact (List.take_add (l := l) (i := 4) (j := 2)).symm
theorem dB_pm : ∀ k, k ≤ 16 → dB (pm l).D k = (l.drop 102).take (2 * k)
  | 0, _ => rfl
  | k + 1, h => by
    have ih := dB_pm k (by omega)
    have g := gt_small hb (102 + 2 * k) 2 (by decide)
    show dB (pm l).D k ++ le 2 (((pm l).D (16 + k) + 65536) % 65536) = _
    have e : (pm l).D (16 + k) = w16 (gt l (102 + 2 * k) 2) := by
      show (if 16 ≤ 16 + k then w16 (gt l (102 + 2 * (16 + k - 16)) 2) else 0) = _
      rw [if_pos (by omega), show 16 + k - 16 = k by omega]
    rw [ih, e, show (w16 (gt l (102 + 2 * k) 2) + 65536) % 65536 = gt l (102 + 2 * k) 2 by unfold w16; split <;> omega, le_gt hb 2 _ (by omega), show 2 * (k + 1) = 2 * k + 2 by omega, List.take_add, List.drop_drop]
theorem tB_pm (ok : okB l) : ∀ k, k ≤ 16 → tB (pm l).T k = (l.drop 6).take (3 * k)
  | 0, _ => rfl
  | k + 1, h => by
    have ih := tB_pm ok k (by omega)
    have o := (ok k (by omega)).1
    have b := byte_in hb (6 + 3 * k)
    show tB (pm l).T k ++ le 1 (flags (decide (l.getD (6 + 3 * k) 0 % 2 = 1)) false) ++ le 2 (gt l (7 + 3 * k) 2) = _
    have e : flags (decide (l.getD (6 + 3 * k) 0 % 2 = 1)) false = gt l (6 + 3 * k) 1 := by
      show _ = l.getD (6 + 3 * k) 0 + 256 * 0
      generalize l.getD (6 + 3 * k) 0 = x at *
      have : x = 0 ∨ x = 1 := by omega
      rcases this with rfl | rfl <;> decide
    rw [ih, e, le_gt hb 1 _ (by omega), le_gt hb 2 _ (by omega), show 3 * (k + 1) = 3 * k + (1 + 2) by omega, List.take_add, List.take_add, List.drop_drop, List.drop_drop, List.append_assoc, show 6 + 3 * k + 1 = 7 + 3 * k by omega]
theorem cB_pm (ok : okB l) : ∀ k, k ≤ 16 → cB (pm l).C k = (l.drop 54).take (3 * k)
  | 0, _ => rfl
  | k + 1, h => by
    have ih := cB_pm ok k (by omega)
    have o := (ok k (by omega)).2
    have b := byte_in hb (54 + 3 * k)
    show cB (pm l).C k ++ le 1 (flags (decide (l.getD (54 + 3 * k) 0 % 2 = 1)) (decide (l.getD (54 + 3 * k) 0 / 2 % 2 = 1))) ++ le 2 (gt l (55 + 3 * k) 2) = _
    have e : flags (decide (l.getD (54 + 3 * k) 0 % 2 = 1)) (decide (l.getD (54 + 3 * k) 0 / 2 % 2 = 1)) = gt l (54 + 3 * k) 1 := by
      show _ = l.getD (54 + 3 * k) 0 + 256 * 0
      generalize l.getD (54 + 3 * k) 0 = x at *
      have : x = 0 ∨ x = 1 ∨ x = 2 ∨ x = 3 := by omega
      rcases this with rfl | rfl | rfl | rfl <;> decide
    rw [ih, e, le_gt hb 1 _ (by omega), le_gt hb 2 _ (by omega), show 3 * (k + 1) = 3 * k + (1 + 2) by omega, List.take_add, List.take_add, List.drop_drop, List.drop_drop, List.append_assoc, show 54 + 3 * k + 1 = 55 + 3 * k by omega]
theorem back_ok (ok : okB l) : keptBytes (pm l) = l := by
  unfold keptBytes
  rw [hB_pm hb hl, tB_pm hb hl ok 16 (by decide), cB_pm hb hl ok 16 (by decide), dB_pm hb hl 16 (by decide)]
  have e1 : l.take 6 ++ (l.drop 6).take (3 * 16) = l.take 54 := (List.take_add (l := l) (i := 6) (j := 48)).symm
  have e2 : l.take 54 ++ (l.drop 54).take (3 * 16) = l.take 102 := (List.take_add (l := l) (i := 54) (j := 48)).symm
  have e3 : l.take 102 ++ (l.drop 102).take (2 * 16) = l.take 134 := (List.take_add (l := l) (i := 102) (j := 32)).symm
  rw [e1, e2, e3, List.take_of_length_le (by omega)]
end
theorem gdl (a b : List Int) (i : Nat) (h : i < a.length) : (a ++ b).getD i 0 = a.getD i 0 := by simp [List.getD_eq_getElem?_getD, List.getElem?_append_left h]
theorem gdr (a b : List Int) (i : Nat) (h : a.length ≤ i) : (a ++ b).getD i 0 = b.getD (i - a.length) 0 := by simp [List.getD_eq_getElem?_getD, List.getElem?_append_right h]
theorem flags_le (a : Bool) : flags a false ≤ 1 := by cases a <;> decide
theorem tB_get (T : Nat → Bool × Int) (k j : Nat) (h : j < k) : (tB T k).getD (3 * j) 0 = flags (T j).1 false := by
  induction k with
  | zero => omega
  | succ k ih =>
    simp only [tB, le1f]
    by_cases hj : j < k
    · rw [List.append_assoc, gdl _ _ _ (by rw [tB_length]; omega), ih hj]
    · obtain rfl : j = k := by omega
      rw [List.append_assoc, gdr _ _ _ (by rw [tB_length]; omega), tB_length, Nat.sub_self]
      rfl
theorem cB_get (C : Nat → Bool × Bool × Int) (k j : Nat) (h : j < k) : (cB C k).getD (3 * j) 0 = flags (C j).1 (C j).2.1 := by
  induction k with
  | zero => omega
  | succ k ih =>
    simp only [cB, le1f]
    by_cases hj : j < k
    · rw [List.append_assoc, gdl _ _ _ (by rw [cB_length]; omega), ih hj]
    · obtain rfl : j = k := by omega
      rw [List.append_assoc, gdr _ _ _ (by rw [cB_length]; omega), cB_length, Nat.sub_self]
      rfl
theorem back_bad {l : List Int} (m : Mm) (h : keptBytes m = l) : okB l := by
  intro k hk
  subst h
  unfold keptBytes
  constructor
  · rw [List.append_assoc, List.append_assoc, gdr _ _ _ (by rw [hB_length]; omega), hB_length, gdl _ _ _ (by rw [tB_length]; omega), show 6 + 3 * k - 6 = 3 * k by omega, tB_get _ _ _ hk]
    exact flags_le _
  · rw [List.append_assoc, List.append_assoc, gdr _ _ _ (by rw [hB_length]; omega), hB_length, gdr _ _ _ (by rw [tB_length]; omega), tB_length, gdl _ _ _ (by rw [cB_length]; omega), show 54 + 3 * k - 6 - 3 * 16 = 3 * k by omega, cB_get _ _ _ hk]
    have := (flags_range (m.C k).1 (m.C k).2.1).2
    omega

end Go.Proofs.Ytdmjdcapkjnipaa.K
