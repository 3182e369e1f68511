/- Functions of this seat as Lean functions, and that the Go code comes to their answers: laid by a program (the kit's printer over all laws of the seat at once, some walks turned by the session's own fix.py). -/
import Derived.Test.YtaegonmpjgdmgaaDoorFx4
import Derived.Test.YtaegonmpjgdmgaaDoorOzTab
import Derived.Test.YtaegonmpjgdmgaaDoorFx0
namespace Go.Proofs.YtaegonmpjgdmgaaDoor.F
open Go.RowKit Go.Proofs.YtaegonmpjgdmgaaDoorW.PrintWords Go.Proofs.YtaegonmpjgdmgaaDoorW.PrintLast Go.Proofs.YtaegonmpjgdmgaaDoorW.PrintMore
attribute [local go_sem] max2_int min2_int max_two min_two max_three min_three max_four min_four   -- for this text's walks alone
set_option linter.unusedVariables false
set_option linter.unusedSimpArgs false

/-! ### impl_DevSize: function 72 -/
mutual
def impl_DevSize.j0 : Nat → Int → Bool → Option (Int)
 | 0, _, _ => none
 | k + 1, x3, x4 => if x4 = true then (some 32) else (if x3 = 3 then (some 64) else (if x3 = 4 then (impl_DevSize.j1 k x3 (x3 == 4)) else (if x3 = 7 then (impl_DevSize.j1 k x3 (x3 == 7)) else (if x3 = 8 then (impl_DevSize.j1 k x3 (x3 == 8)) else (impl_DevSize.j1 k x3 (x3 == 10))))))
def impl_DevSize.j1 : Nat → Int → Bool → Option (Int)
 | 0, _, _ => none
 | k + 1, x3, x11 => if x11 = true then (some 16) else (if x3 = 6 then (some 5) else (some 0))
end
def impl_DevSize.f (k : Nat) (a0 : Int) : Option (Int) := if a0 = 1 then (impl_DevSize.j0 k a0 (a0 == 1)) else (if a0 = 2 then (impl_DevSize.j0 k a0 (a0 == 2)) else (if a0 = 5 then (impl_DevSize.j0 k a0 (a0 == 5)) else (impl_DevSize.j0 k a0 (a0 == 9))))
theorem impl_DevSize.tab {k : Nat} {a r : Int} (h : impl_DevSize.f k a = some r) : r = TB.devSize a := by
 have j1 : ∀ (k : Nat) (x : Bool), (x = true ↔ a = 4 ∨ a = 7 ∨ a = 8 ∨ a = 10) → (a ≠ 1 ∧ a ≠ 2 ∧ a ≠ 5 ∧ a ≠ 9 ∧ a ≠ 3) → impl_DevSize.j1 k a x = some r → r = TB.devSize a := by
  intro k x hx hn h
  cases k with
  | zero => simp [impl_DevSize.j1] at h
  | succ k =>
   simp only [impl_DevSize.j1, hx] at h
   split at h
   ·rename_i c
    obtain rfl := (Option.some.inj h).symm
    rcases c with rfl | rfl | rfl | rfl <;> rfl
   ·split at h
    ·rename_i c; obtain rfl := (Option.some.inj h).symm; subst c; rfl
    ·obtain rfl := (Option.some.inj h).symm
     unfold TB.devSize
     rw [if_neg (by omega)]
 have j0 : ∀ (k : Nat) (x : Bool), (x = true ↔ a = 1 ∨ a = 2 ∨ a = 5 ∨ a = 9) → impl_DevSize.j0 k a x = some r → r = TB.devSize a := by
  intro k x hx h
  cases k with
  | zero => simp [impl_DevSize.j0] at h
  | succ k =>
   simp only [impl_DevSize.j0, hx] at h
   split at h
   ·rename_i c
    obtain rfl := (Option.some.inj h).symm
    rcases c with rfl | rfl | rfl | rfl <;> rfl
   ·rename_i c0
    split at h
    ·rename_i c; obtain rfl := (Option.some.inj h).symm; subst c; rfl
    ·rename_i c3
     repeat' split at h
     all_goals exact j1 _ _ (by simp only [beq_iff_eq]; omega) (by omega) h
 unfold impl_DevSize.f at h
 repeat' split at h
 all_goals exact j0 _ _ (by simp only [beq_iff_eq]; omega) h
theorem impl_in.dec (a b c : Int) : impl_in.f a b c = some (decide (b ≤ a ∧ a ≤ c)) := by
 unfold impl_in.f
 by_cases h : a ≥ b
 ·rw [if_pos h]; congr 1; rw [decide_eq_decide]; omega
 ·rw [if_neg h]; congr 1; exact (decide_eq_false (by omega)).symm
set_option maxHeartbeats 8000000 in
set_option maxRecDepth 100000 in
theorem impl_DevSize.calls (k : Nat) (a0 : Int) (r : Int) (w : World) (ht : TB.Tab w) (h : impl_DevSize.f k a0 = some r) :
  Calls Tryd.prog 72 #[.int .i64 a0] w fun e w' => e = .returned (.int .i64 r) ∧ ∃ nd, w' = w.drewN nd := by
 obtain rfl := impl_DevSize.tab h
 clear h
 by_cases h : 1 ≤ a0 ∧ a0 ≤ 10
 ·have e_ : a0 = 1 ∨ a0 = 2 ∨ a0 = 3 ∨ a0 = 4 ∨ a0 = 5 ∨ a0 = 6 ∨ a0 = 7 ∨ a0 = 8 ∨ a0 = 9 ∨ a0 = 10 := by omega
  obtain ⟨⟨b, off, cap, h1, h2, h3, h4⟩, _⟩ := ht
  clear h
  have hc1 := h2 1 (by decide)
  have hc2 := h2 2 (by decide)
  have hc3 := h2 3 (by decide)
  have hc4 := h2 4 (by decide)
  have hc5 := h2 5 (by decide)
  have hc6 := h2 6 (by decide)
  have hc7 := h2 7 (by decide)
  have hc8 := h2 8 (by decide)
  have hc9 := h2 9 (by decide)
  have hc10 := h2 10 (by decide)
  clear h2 h3 h4
  rcases e_ with rfl | rfl | rfl | rfl | rfl | rfl | rfl | rfl | rfl | rfl
  all_goals
   go_enter Tryd.func72, Tryd.ntmps72
   go_wp2_with (first | (go_at_call 32; (with_reducible refine (impl_in.calls _ _ _ _ _ (impl_in.dec _ _ _)).mono ?_); rintro e w' ⟨rfl, ⟨nd, rfl⟩⟩))
   go_ret
   exact ⟨rfl, _, rfl⟩
 ·have hz : TB.devSize a0 = 0 := by unfold TB.devSize; rw [if_neg h]
  rw [hz]
  have hd : decide (1 ≤ a0 ∧ a0 ≤ 10) = false := decide_eq_false h
  clear h hz ht
  go_enter Tryd.func72, Tryd.ntmps72
  go_wp2_with (first | (go_at_call 32; (with_reducible refine (impl_in.calls _ _ _ _ _ (impl_in.dec _ _ _)).mono ?_); rintro e w' ⟨rfl, ⟨nd, rfl⟩⟩))
  go_ret
  exact ⟨rfl, _, rfl⟩


end Go.Proofs.YtaegonmpjgdmgaaDoor.F
