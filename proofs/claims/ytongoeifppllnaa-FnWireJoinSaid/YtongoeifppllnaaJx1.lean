/- Functions of this seat as Lean functions, and that the Go code comes to their answers: laid by a program (the kit's printer over all laws of the seat at once, some walks turned by the session's own fix.py). -/
import Derived.Test.YtongoeifppllnaaJx0
namespace Go.Proofs.Ytongoeifppllnaa.J
open Go.RowKit Go.Proofs.YtongoeifppllnaaW.PrintWords Go.Proofs.YtongoeifppllnaaW.PrintLast Go.Proofs.YtongoeifppllnaaW.PrintMore
attribute [local go_sem] max2_int min2_int max_two min_two max_three min_three max_four min_four   -- for this text's walks alone
set_option linter.unusedVariables false
set_option linter.unusedSimpArgs false

/-! ### impl_WireOf: function 18 -/
def impl_WireOf.f (l0 : List Int) : Option (Int) := if (wrap64 (Int.tdiv (wrap64 ((wrap64 ((l0.length : Int) + 24)) - 1)) 24)) > 900 then (some 0) else (some (wrap64 (Int.tdiv (wrap64 ((wrap64 ((l0.length : Int) + 24)) - 1)) 24)))
set_option maxHeartbeats 8000000 in
set_option maxRecDepth 100000 in
theorem impl_WireOf.calls (A0 : Option Addr) (c0 : Nat) (l0 : List Int) (r : Int) (w : World) (hr0 : Kd.C (Kd.int .u8) w A0 l0.length l0) (hc0 : l0.length ≤ c0) (h : impl_WireOf.f l0 = some r) :
    Calls Try.prog 18 #[.slice A0 l0.length c0] w fun e w' => e = .returned (.int .i64 r) ∧ Drawn0 w w' := by
  have HR0 := Aside0.mk hr0
  have HC0 := Aside0.mk hc0
  clear hr0 hc0
  have H : (if (wrap64 (Int.tdiv (wrap64 ((wrap64 ((l0.length : Int) + 24)) - 1)) 24)) > 900 then (some 0) else (some (wrap64 (Int.tdiv (wrap64 ((wrap64 ((l0.length : Int) + 24)) - 1)) 24)))) = some r := h
  clear h
  by_cases c2 : (wrap64 (Int.tdiv (wrap64 ((wrap64 ((l0.length : Int) + 24)) - 1)) 24)) > 900
  · rw [if_pos c2] at H
    have c2b0 : decide (900 < (wrap64 (Int.tdiv (wrap64 ((wrap64 ((l0.length : Int) + 24)) - 1)) 24))) = true := decide_eq_true c2
    clear c2
    obtain rfl := Option.some.inj H
    go_enter Try.func18, Try.ntmps18
    go_wp2
    go_ret
    exact ⟨by first | rfl | (simp; done) | (simp [*]; done), by repeat (first | exact Drawn0.refl _ | apply Drawn0.step)⟩
  · rw [if_neg c2] at H
    have c2b0 : decide (900 < (wrap64 (Int.tdiv (wrap64 ((wrap64 ((l0.length : Int) + 24)) - 1)) 24))) = false := decide_eq_false c2
    clear c2
    obtain rfl := Option.some.inj H
    go_enter Try.func18, Try.ntmps18
    go_wp2
    go_ret
    exact ⟨by first | rfl | (simp; done) | (simp [*]; done), by repeat (first | exact Drawn0.refl _ | apply Drawn0.step)⟩

/-! ### spec_WireOf: function 21 -/
def spec_WireOf.f (l0 : List Int) : Option (Int) := if (l0.length : Int) = 0 then (some 0) else (if (l0.length : Int) > 21600 then (some 0) else (some (wrap64 (Int.tdiv (wrap64 ((wrap64 ((l0.length : Int) + 24)) - 1)) 24))))
set_option maxHeartbeats 8000000 in
set_option maxRecDepth 100000 in
theorem spec_WireOf.calls (A0 : Option Addr) (c0 : Nat) (l0 : List Int) (r : Int) (w : World) (hr0 : Kd.C (Kd.int .u8) w A0 l0.length l0) (hc0 : l0.length ≤ c0) (h : spec_WireOf.f l0 = some r) :
    Calls Try.prog 21 #[.slice A0 l0.length c0] w fun e w' => e = .returned (.int .i64 r) ∧ Drawn0 w w' := by
  have HR0 := Aside0.mk hr0
  have HC0 := Aside0.mk hc0
  clear hr0 hc0
  have H : (if (l0.length : Int) = 0 then (some 0) else (if (l0.length : Int) > 21600 then (some 0) else (some (wrap64 (Int.tdiv (wrap64 ((wrap64 ((l0.length : Int) + 24)) - 1)) 24))))) = some r := h
  clear h
  by_cases c2 : (l0.length : Int) = 0
  · rw [if_pos c2] at H
    have c2b0 : ((l0.length : Int) == 0) = true := beq_iff_eq.mpr c2
    have c2b1 : ((l0.length : Int) != 0) = false := bne_eq_false_iff_eq.mpr c2
    clear c2
    obtain rfl := Option.some.inj H
    go_enter Try.func21, Try.ntmps21
    go_wp2
    go_ret
    exact ⟨by first | rfl | (simp; done) | (simp [*]; done), by repeat (first | exact Drawn0.refl _ | apply Drawn0.step)⟩
  · rw [if_neg c2] at H
    have c2b0 : ((l0.length : Int) == 0) = false := beq_eq_false_iff_ne.mpr c2
    have c2b1 : ((l0.length : Int) != 0) = true := bne_iff_ne.mpr c2
    have c2b2 : ¬ (l0 = []) := fun h_ => c2 (by rw [h_]; rfl)
    by_cases c3 : (l0.length : Int) > 21600
    · rw [if_pos c3] at H
      have c3b0 : decide (21600 < (l0.length : Int)) = true := decide_eq_true c3
      have c3b1 : decide (21600 < l0.length) = true := decide_eq_true (by omega)
      clear c3
      obtain rfl := Option.some.inj H
      go_enter Try.func21, Try.ntmps21
      go_wp2
      go_ret
      exact ⟨by first | rfl | (simp; done) | (simp [*]; done), by repeat (first | exact Drawn0.refl _ | apply Drawn0.step)⟩
    · rw [if_neg c3] at H
      have c3b0 : decide (21600 < (l0.length : Int)) = false := decide_eq_false c3
      have c3b1 : decide (21600 < l0.length) = false := decide_eq_false (by omega)
      clear c3
      obtain rfl := Option.some.inj H
      go_enter Try.func21, Try.ntmps21
      go_wp2
      go_ret
      exact ⟨by first | rfl | (simp; done) | (simp [*]; done), by repeat (first | exact Drawn0.refl _ | apply Drawn0.step)⟩

end Go.Proofs.Ytongoeifppllnaa.J
