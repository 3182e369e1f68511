/- Functions of this seat as Lean functions, and that the Go code comes to their answers: laid by a program (the kit's printer over all laws of the seat at once, some walks turned by the session's own fix.py). -/
import Derived.Test.YtkmfdlcmdgdepaaDoorUx0
namespace Go.Proofs.YtkmfdlcmdgdepaaDoor.U
open Go.RowKit Go.Proofs.YtkmfdlcmdgdepaaDoorW.PrintWords Go.Proofs.YtkmfdlcmdgdepaaDoorW.PrintLast Go.Proofs.YtkmfdlcmdgdepaaDoorW.PrintMore
attribute [local go_sem] max2_int min2_int max_two min_two max_three min_three max_four min_four   -- for this text's walks alone
set_option linter.unusedVariables false
set_option linter.unusedSimpArgs false

/-! ### spec_ElemArity: function 40 -/
mutual
def spec_ElemArity.j0 : Nat → Int → Int → Bool → Option (Int)
 | 0, _, _, _ => none
 | k + 1, x0, x3, x4 => if x4 = true then (some 1) else (if x3 = 31 then (spec_ElemArity.j1 k x0 (x3 == 31)) else (if x3 = 32 then (spec_ElemArity.j1 k x0 (x3 == 32)) else (if x3 = 33 then (spec_ElemArity.j1 k x0 (x3 == 33)) else (if x3 = 34 then (spec_ElemArity.j1 k x0 (x3 == 34)) else (spec_ElemArity.j1 k x0 (x3 == 35))))))
def spec_ElemArity.j1 : Nat → Int → Bool → Option (Int)
 | 0, _, _ => none
 | k + 1, x0, x11 => if x11 = true then (some 3) else (if x0 ≥ 1 then (if x0 ≤ 10 then (some 2) else (if x0 ≥ 21 then (if x0 ≤ 37 then (some 2) else (some 0)) else (some 0))) else (if x0 ≥ 21 then (if x0 ≤ 37 then (some 2) else (some 0)) else (some 0)))
end
def spec_ElemArity.f (k : Nat) (a0 : Int) : Option (Int) := if a0 = 1 then (spec_ElemArity.j0 k a0 a0 (a0 == 1)) else (if a0 = 2 then (spec_ElemArity.j0 k a0 a0 (a0 == 2)) else (if a0 = 21 then (spec_ElemArity.j0 k a0 a0 (a0 == 21)) else (if a0 = 22 then (spec_ElemArity.j0 k a0 a0 (a0 == 22)) else (if a0 = 23 then (spec_ElemArity.j0 k a0 a0 (a0 == 23)) else (spec_ElemArity.j0 k a0 a0 (a0 == 25))))))
set_option maxHeartbeats 8000000 in
set_option maxRecDepth 100000 in
theorem spec_ElemArity.calls (k : Nat) (a0 : Int) (r : Int) (w : World) (h : spec_ElemArity.f k a0 = some r) :
  Calls Tryd.prog 40 #[.int .i64 a0] w fun e w' => e = .returned (.int .i64 r) ∧ Drawn0 w w' := by
 have H : (if a0 = 1 then (spec_ElemArity.j0 k a0 a0 (a0 == 1)) else (if a0 = 2 then (spec_ElemArity.j0 k a0 a0 (a0 == 2)) else (if a0 = 21 then (spec_ElemArity.j0 k a0 a0 (a0 == 21)) else (if a0 = 22 then (spec_ElemArity.j0 k a0 a0 (a0 == 22)) else (if a0 = 23 then (spec_ElemArity.j0 k a0 a0 (a0 == 23)) else (spec_ElemArity.j0 k a0 a0 (a0 == 25))))))) = some r := h
 clear h
 have HC2 := Aside0.mk H
 clear H
 go_enter Tryd.func40, Tryd.ntmps40
 go_upto_if 4 with (fail)
 go_cut [4] (fun v4 wc => ∃ (kq : Nat) (x4_1 : Bool), v4 = .bool x4_1 ∧ Aside0 (spec_ElemArity.j0 kq a0 a0 x4_1 = some r) ∧ Aside0 (kq ≤ k) ∧ Drawn0 w wc)
 case first =>
  have H := HC2.out
  clear HC2
  by_cases c3 : a0 = 1
  ·rw [if_pos c3] at H
   have c3b0 : (a0 == 1) = true := beq_iff_eq.mpr c3
   have c3b1 : (a0 != 1) = false := bne_eq_false_iff_eq.mpr c3
   clear c3
   (first | rw [c3b0] | (simp only [i64_w, i32_w]; rw [c3b0]) | skip)
   have H' := Aside0.mk H
   clear H
   go_wp2
   go_meet
   case rel => exact ⟨_, ((a0 == 1)), (by first | rfl | (simp; done) | (simp [*]; done)), H', ⟨by first | omega | exact Nat.le_refl _⟩, by repeat (first | exact Drawn0.refl _ | apply Drawn0.step)⟩
  ·rw [if_neg c3] at H
   have c3b0 : (a0 == 1) = false := beq_eq_false_iff_ne.mpr c3
   have c3b1 : (a0 != 1) = true := bne_iff_ne.mpr c3
   (first | rw [c3b0] | (simp only [i64_w, i32_w]; rw [c3b0]) | skip)
   by_cases c4 : a0 = 2
   ·rw [if_pos c4] at H
    have c4b0 : (a0 == 2) = true := beq_iff_eq.mpr c4
    have c4b1 : (a0 != 2) = false := bne_eq_false_iff_eq.mpr c4
    clear c4
    have H' := Aside0.mk H
    clear H
    go_wp2
    go_meet
    case rel => exact ⟨_, ((a0 == 2)), (by first | rfl | (simp; done) | (simp [*]; done)), H', ⟨by first | omega | exact Nat.le_refl _⟩, by repeat (first | exact Drawn0.refl _ | apply Drawn0.step)⟩
   ·rw [if_neg c4] at H
    have c4b0 : (a0 == 2) = false := beq_eq_false_iff_ne.mpr c4
    have c4b1 : (a0 != 2) = true := bne_iff_ne.mpr c4
    by_cases c5 : a0 = 21
    ·rw [if_pos c5] at H
     have c5b0 : (a0 == 21) = true := beq_iff_eq.mpr c5
     have c5b1 : (a0 != 21) = false := bne_eq_false_iff_eq.mpr c5
     clear c5
     have H' := Aside0.mk H
     clear H
     go_wp2
     go_meet
     case rel => exact ⟨_, ((a0 == 21)), (by first | rfl | (simp; done) | (simp [*]; done)), H', ⟨by first | omega | exact Nat.le_refl _⟩, by repeat (first | exact Drawn0.refl _ | apply Drawn0.step)⟩
    ·rw [if_neg c5] at H
     have c5b0 : (a0 == 21) = false := beq_eq_false_iff_ne.mpr c5
     have c5b1 : (a0 != 21) = true := bne_iff_ne.mpr c5
     by_cases c6 : a0 = 22
     ·rw [if_pos c6] at H
      have c6b0 : (a0 == 22) = true := beq_iff_eq.mpr c6
      have c6b1 : (a0 != 22) = false := bne_eq_false_iff_eq.mpr c6
      clear c6
      have H' := Aside0.mk H
      clear H
      go_wp2
      go_meet
      case rel => exact ⟨_, ((a0 == 22)), (by first | rfl | (simp; done) | (simp [*]; done)), H', ⟨by first | omega | exact Nat.le_refl _⟩, by repeat (first | exact Drawn0.refl _ | apply Drawn0.step)⟩
     ·rw [if_neg c6] at H
      have c6b0 : (a0 == 22) = false := beq_eq_false_iff_ne.mpr c6
      have c6b1 : (a0 != 22) = true := bne_iff_ne.mpr c6
      by_cases c7 : a0 = 23
      ·rw [if_pos c7] at H
       have c7b0 : (a0 == 23) = true := beq_iff_eq.mpr c7
       have c7b1 : (a0 != 23) = false := bne_eq_false_iff_eq.mpr c7
       clear c7
       have H' := Aside0.mk H
       clear H
       go_wp2
       go_meet
       case rel => exact ⟨_, ((a0 == 23)), (by first | rfl | (simp; done) | (simp [*]; done)), H', ⟨by first | omega | exact Nat.le_refl _⟩, by repeat (first | exact Drawn0.refl _ | apply Drawn0.step)⟩
      ·rw [if_neg c7] at H
       have c7b0 : (a0 == 23) = false := beq_eq_false_iff_ne.mpr c7
       have c7b1 : (a0 != 23) = true := bne_iff_ne.mpr c7
       have H' := Aside0.mk H
       clear H
       go_wp2
       go_meet
       case rel => exact ⟨_, ((a0 == 25)), (by first | rfl | (simp; done) | (simp [*]; done)), H', ⟨by first | omega | exact Nat.le_refl _⟩, by repeat (first | exact Drawn0.refl _ | apply Drawn0.step)⟩
 case rest =>
  clear HC2
  obtain ⟨kq, x4_1, rfl, HA, HJ1, ⟨mc1, rfl⟩⟩ := hcut
  cases kq with
  | zero => exact absurd HA.out (by simp [spec_ElemArity.j0])
  | succ kj1 =>
   have H := HA.out
   clear HA
   simp only [spec_ElemArity.j0] at H
   by_cases c8 : x4_1 = true
   ·subst c8
    have H1 : (some 1) = some r := by rw [if_pos rfl] at H; exact H
    clear H
    have H := H1
    clear H1
    obtain rfl := Option.some.inj H
    go_wp2
    go_ret
    exact ⟨by first | rfl | (simp; done) | (simp [*]; done), by repeat (first | exact Drawn0.refl _ | apply Drawn0.step)⟩
   ·replace c8 := Bool.eq_false_iff.mpr c8
    subst c8
    have H1 : (if a0 = 31 then (spec_ElemArity.j1 kj1 a0 (a0 == 31)) else (if a0 = 32 then (spec_ElemArity.j1 kj1 a0 (a0 == 32)) else (if a0 = 33 then (spec_ElemArity.j1 kj1 a0 (a0 == 33)) else (if a0 = 34 then (spec_ElemArity.j1 kj1 a0 (a0 == 34)) else (spec_ElemArity.j1 kj1 a0 (a0 == 35)))))) = some r := by rw [if_neg (show ¬ (false = true) by decide)] at H; exact H
    clear H
    have H := H1
    clear H1
    have HC9 := Aside0.mk H
    clear H
    go_upto_if 11 with (fail)
    go_cut [11] (fun v11 wc => ∃ (kq : Nat) (x11_8 : Bool), v11 = .bool x11_8 ∧ Aside0 (spec_ElemArity.j1 kq a0 x11_8 = some r) ∧ Aside0 (kq ≤ kj1) ∧ Drawn0 w wc)
    case first =>
     have H := HC9.out
     clear HC9
     by_cases c10 : a0 = 31
     ·rw [if_pos c10] at H
      have c10b0 : (a0 == 31) = true := beq_iff_eq.mpr c10
      have c10b1 : (a0 != 31) = false := bne_eq_false_iff_eq.mpr c10
      clear c10
      (first | rw [c10b0] | (simp only [i64_w, i32_w]; rw [c10b0]) | skip)
      have H' := Aside0.mk H
      clear H
      go_wp2
      go_meet
      case rel => exact ⟨_, ((a0 == 31)), (by first | rfl | (simp; done) | (simp [*]; done)), H', ⟨by have := HJ1.out; first | omega | exact Nat.le_refl _⟩, by repeat (first | exact Drawn0.refl _ | apply Drawn0.step)⟩
     ·rw [if_neg c10] at H
      have c10b0 : (a0 == 31) = false := beq_eq_false_iff_ne.mpr c10
      have c10b1 : (a0 != 31) = true := bne_iff_ne.mpr c10
      (first | rw [c10b0] | (simp only [i64_w, i32_w]; rw [c10b0]) | skip)
      by_cases c11 : a0 = 32
      ·rw [if_pos c11] at H
       have c11b0 : (a0 == 32) = true := beq_iff_eq.mpr c11
       have c11b1 : (a0 != 32) = false := bne_eq_false_iff_eq.mpr c11
       clear c11
       have H' := Aside0.mk H
       clear H
       go_wp2
       go_meet
       case rel => exact ⟨_, ((a0 == 32)), (by first | rfl | (simp; done) | (simp [*]; done)), H', ⟨by have := HJ1.out; first | omega | exact Nat.le_refl _⟩, by repeat (first | exact Drawn0.refl _ | apply Drawn0.step)⟩
      ·rw [if_neg c11] at H
       have c11b0 : (a0 == 32) = false := beq_eq_false_iff_ne.mpr c11
       have c11b1 : (a0 != 32) = true := bne_iff_ne.mpr c11
       by_cases c12 : a0 = 33
       ·rw [if_pos c12] at H
        have c12b0 : (a0 == 33) = true := beq_iff_eq.mpr c12
        have c12b1 : (a0 != 33) = false := bne_eq_false_iff_eq.mpr c12
        clear c12
        have H' := Aside0.mk H
        clear H
        go_wp2
        go_meet
        case rel => exact ⟨_, ((a0 == 33)), (by first | rfl | (simp; done) | (simp [*]; done)), H', ⟨by have := HJ1.out; first | omega | exact Nat.le_refl _⟩, by repeat (first | exact Drawn0.refl _ | apply Drawn0.step)⟩
       ·rw [if_neg c12] at H
        have c12b0 : (a0 == 33) = false := beq_eq_false_iff_ne.mpr c12
        have c12b1 : (a0 != 33) = true := bne_iff_ne.mpr c12
        by_cases c13 : a0 = 34
        ·rw [if_pos c13] at H
         have c13b0 : (a0 == 34) = true := beq_iff_eq.mpr c13
         have c13b1 : (a0 != 34) = false := bne_eq_false_iff_eq.mpr c13
         clear c13
         have H' := Aside0.mk H
         clear H
         go_wp2
         go_meet
         case rel => exact ⟨_, ((a0 == 34)), (by first | rfl | (simp; done) | (simp [*]; done)), H', ⟨by have := HJ1.out; first | omega | exact Nat.le_refl _⟩, by repeat (first | exact Drawn0.refl _ | apply Drawn0.step)⟩
        ·rw [if_neg c13] at H
         have c13b0 : (a0 == 34) = false := beq_eq_false_iff_ne.mpr c13
         have c13b1 : (a0 != 34) = true := bne_iff_ne.mpr c13
         have H' := Aside0.mk H
         clear H
         go_wp2
         go_meet
         case rel => exact ⟨_, ((a0 == 35)), (by first | rfl | (simp; done) | (simp [*]; done)), H', ⟨by have := HJ1.out; first | omega | exact Nat.le_refl _⟩, by repeat (first | exact Drawn0.refl _ | apply Drawn0.step)⟩
    case rest =>
     clear HC9
     obtain ⟨kq, x11_8, rfl, HA, HJ8, ⟨mc8, rfl⟩⟩ := hcut
     cases kq with
     | zero => exact absurd HA.out (by simp [spec_ElemArity.j1])
     | succ kj8 =>
      have H := HA.out
      clear HA
      simp only [spec_ElemArity.j1] at H
      by_cases c14 : x11_8 = true
      ·subst c14
       have H1 : (some 3) = some r := by rw [if_pos rfl] at H; exact H
       clear H
       have H := H1
       clear H1
       obtain rfl := Option.some.inj H
       go_wp2
       go_ret
       exact ⟨by first | rfl | (simp; done) | (simp [*]; done), by repeat (first | exact Drawn0.refl _ | apply Drawn0.step)⟩
      ·replace c14 := Bool.eq_false_iff.mpr c14
       subst c14
       have H1 : (if a0 ≥ 1 then (if a0 ≤ 10 then (some 2) else (if a0 ≥ 21 then (if a0 ≤ 37 then (some 2) else (some 0)) else (some 0))) else (if a0 ≥ 21 then (if a0 ≤ 37 then (some 2) else (some 0)) else (some 0))) = some r := by rw [if_neg (show ¬ (false = true) by decide)] at H; exact H
       clear H
       have H := H1
       clear H1
       by_cases c15 : a0 ≥ 1
       ·rw [if_pos c15] at H
        have c15b0 : decide (1 ≤ a0) = true := decide_eq_true c15
        clear c15
        by_cases c16 : a0 ≤ 10
        ·rw [if_pos c16] at H
         have c16b0 : decide (a0 ≤ 10) = true := decide_eq_true c16
         clear c16
         obtain rfl := Option.some.inj H
         go_wp2
         go_ret
         exact ⟨by first | rfl | (simp; done) | (simp [*]; done), by repeat (first | exact Drawn0.refl _ | apply Drawn0.step)⟩
        ·rw [if_neg c16] at H
         have c16b0 : decide (a0 ≤ 10) = false := decide_eq_false c16
         clear c16
         by_cases c17 : a0 ≥ 21
         ·rw [if_pos c17] at H
          have c17b0 : decide (21 ≤ a0) = true := decide_eq_true c17
          clear c17
          by_cases c18 : a0 ≤ 37
          ·rw [if_pos c18] at H
           have c18b0 : decide (a0 ≤ 37) = true := decide_eq_true c18
           clear c18
           obtain rfl := Option.some.inj H
           go_wp2
           go_ret
           exact ⟨by first | rfl | (simp; done) | (simp [*]; done), by repeat (first | exact Drawn0.refl _ | apply Drawn0.step)⟩
          ·rw [if_neg c18] at H
           have c18b0 : decide (a0 ≤ 37) = false := decide_eq_false c18
           clear c18
           obtain rfl := Option.some.inj H
           go_wp2
           go_ret
           exact ⟨by first | rfl | (simp; done) | (simp [*]; done), by repeat (first | exact Drawn0.refl _ | apply Drawn0.step)⟩
         ·rw [if_neg c17] at H
          have c17b0 : decide (21 ≤ a0) = false := decide_eq_false c17
          clear c17
          obtain rfl := Option.some.inj H
          go_wp2
          go_ret
          exact ⟨by first | rfl | (simp; done) | (simp [*]; done), by repeat (first | exact Drawn0.refl _ | apply Drawn0.step)⟩
       ·rw [if_neg c15] at H
        have c15b0 : decide (1 ≤ a0) = false := decide_eq_false c15
        clear c15
        by_cases c19 : a0 ≥ 21
        ·rw [if_pos c19] at H
         have c19b0 : decide (21 ≤ a0) = true := decide_eq_true c19
         clear c19
         by_cases c20 : a0 ≤ 37
         ·rw [if_pos c20] at H
          have c20b0 : decide (a0 ≤ 37) = true := decide_eq_true c20
          clear c20
          obtain rfl := Option.some.inj H
          go_wp2
          go_ret
          exact ⟨by first | rfl | (simp; done) | (simp [*]; done), by repeat (first | exact Drawn0.refl _ | apply Drawn0.step)⟩
         ·rw [if_neg c20] at H
          have c20b0 : decide (a0 ≤ 37) = false := decide_eq_false c20
          clear c20
          obtain rfl := Option.some.inj H
          go_wp2
          go_ret
          exact ⟨by first | rfl | (simp; done) | (simp [*]; done), by repeat (first | exact Drawn0.refl _ | apply Drawn0.step)⟩
        ·rw [if_neg c19] at H
         have c19b0 : decide (21 ≤ a0) = false := decide_eq_false c19
         clear c19
         obtain rfl := Option.some.inj H
         go_wp2
         go_ret
         exact ⟨by first | rfl | (simp; done) | (simp [*]; done), by repeat (first | exact Drawn0.refl _ | apply Drawn0.step)⟩

end Go.Proofs.YtkmfdlcmdgdepaaDoor.U
