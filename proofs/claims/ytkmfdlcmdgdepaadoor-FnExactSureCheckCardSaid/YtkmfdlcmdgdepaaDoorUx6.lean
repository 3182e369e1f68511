/- Functions of this seat as Lean functions, and that the Go code comes to their answers: laid by a program (the kit's printer over all laws of the seat at once, some walks turned by the session's own fix.py). -/
import Derived.Test.YtkmfdlcmdgdepaaDoorUx0
import Derived.Test.YtkmfdlcmdgdepaaDoorUx3
import Derived.Test.YtkmfdlcmdgdepaaDoorUx4
import Derived.Test.YtkmfdlcmdgdepaaDoorUx5
namespace Go.Proofs.YtkmfdlcmdgdepaaDoor.U
open Go.RowKit Go.Proofs.YtkmfdlcmdgdepaaDoorW.PrintWords Go.Proofs.YtkmfdlcmdgdepaaDoorW.PrintLast Go.Proofs.YtkmfdlcmdgdepaaDoorW.PrintMore
attribute [local go_sem] max2_int min2_int max_two min_two max_three min_three max_four min_four   -- for this text's walks alone
set_option linter.unusedVariables false
set_option linter.unusedSimpArgs false

/-! ### spec_ElemIsContact: function 23 -/
def spec_ElemIsContact.j0 : Nat → Bool → Int → List (S55) → Option (Bool)
 | 0, _, _, _ => none
 | k + 1, x19, x116000, x116001 => if x19 = true then (some false) else (if x116000 ≤ 2 then (if 0 < (x116001.length : Int) then ((spec_DevIsBit.f k ((rd_T55 x116001 0).f0) ((rd_T55 x116001 0).f1) ((rd_T55 x116001 0).f2)).bind fun t118 => (some t118)) else (none)) else (if x116000 ≤ 4 then (if 0 < (x116001.length : Int) then ((spec_DevIsBit.f k ((rd_T55 x116001 0).f0) ((rd_T55 x116001 0).f1) ((rd_T55 x116001 0).f2)).bind fun t120 => (if t120 = true then (if 1 < (x116001.length : Int) then ((spec_DevOk.f k ((rd_T55 x116001 1).f0) ((rd_T55 x116001 1).f1) ((rd_T55 x116001 1).f2)).bind fun t122 => (if t122 = true then (some (((rd_T55 x116001 1).f0) == 5)) else (some false))) else (none)) else (some false))) else (none)) else (if 0 < (x116001.length : Int) then ((spec_DevIsWhole.f k ((rd_T55 x116001 0).f0) ((rd_T55 x116001 0).f1) ((rd_T55 x116001 0).f2)).bind fun t125 => (if t125 = true then (if 1 < (x116001.length : Int) then ((spec_DevIsWhole.f k ((rd_T55 x116001 1).f0) ((rd_T55 x116001 1).f1) ((rd_T55 x116001 1).f2)).bind fun t127 => (if t127 = true then (some true) else ((spec_DevIsReal.f k ((rd_T55 x116001 0).f0) ((rd_T55 x116001 0).f1) ((rd_T55 x116001 0).f2)).bind fun t129 => (if t129 = true then ((spec_DevIsReal.f k ((rd_T55 x116001 1).f0) ((rd_T55 x116001 1).f1) ((rd_T55 x116001 1).f2)).bind fun t131 => (some t131)) else (some false))))) else (none)) else ((spec_DevIsReal.f k ((rd_T55 x116001 0).f0) ((rd_T55 x116001 0).f1) ((rd_T55 x116001 0).f2)).bind fun t133 => (if t133 = true then (if 1 < (x116001.length : Int) then ((spec_DevIsReal.f k ((rd_T55 x116001 1).f0) ((rd_T55 x116001 1).f1) ((rd_T55 x116001 1).f2)).bind fun t135 => (some t135)) else (none)) else (some false))))) else (none))))
def spec_ElemIsContact.f (k : Nat) (a0_0 : Int) (l0_1 : List (S55)) : Option (Bool) := if a0_0 < 1 then (spec_ElemIsContact.j0 k true a0_0 l0_1) else (if a0_0 > 10 then (spec_ElemIsContact.j0 k true a0_0 l0_1) else ((spec_ElemArity.f k a0_0).bind fun t116 => (spec_ElemIsContact.j0 k ((l0_1.length : Int) != t116) a0_0 l0_1)))
set_option maxHeartbeats 8000000 in
set_option maxRecDepth 100000 in
theorem spec_ElemIsContact.calls (k : Nat) (a0_0 : Int) (A0_1 : Option Addr) (c0_1 : Nat) (l0_1 : List (S55)) (r : Bool) (w : World) (hr0_1 : Kd.C k55 w A0_1 l0_1.length l0_1) (hc0_1 : l0_1.length ≤ c0_1) (h : spec_ElemIsContact.f k a0_0 l0_1 = some r) :
  Calls Tryd.prog 23 #[.agg #[.int .i64 a0_0, .slice A0_1 l0_1.length c0_1]] w fun e w' => e = .returned (.bool r) ∧ Below w.heap.size w w' := by
 have hu29 := Tryd.underlying29
 have hu55 := Tryd.underlying55
 have HR0_1 := Aside0.mk hr0_1
 have HC0_1 := Aside0.mk hc0_1
 clear hr0_1 hc0_1
 have HB := Aside0.mk (Below.refl w.heap.size w)
 have H : (if a0_0 < 1 then (spec_ElemIsContact.j0 k true a0_0 l0_1) else (if a0_0 > 10 then (spec_ElemIsContact.j0 k true a0_0 l0_1) else ((spec_ElemArity.f k a0_0).bind fun t116 => (spec_ElemIsContact.j0 k ((l0_1.length : Int) != t116) a0_0 l0_1)))) = some r := h
 clear h
 have HC2 := Aside0.mk H
 clear H
 go_enter Tryd.func23, Tryd.ntmps23
 go_upto_region 1 with (first | ((with_reducible refine gate_dst (N := 1) rfl ?_); (try (refine gate_guard (by rfl) ?_; dsimp only)); refine box_event ?hg (N := 1) ?hd (cs := #[.int .i64 a0_0, .slice A0_1 l0_1.length c0_1]) (t := 29) ?hr ?_; (case hd => rfl); (case hg => rfl); (case hr => first | (go_simp; done) | (go_simp; rfl)); intro gb115 hg w3 hbox hb; obtain ⟨n0_, n2_⟩ := two_ (by with_reducible repeat first | exact HB.out | apply bA | apply bN | apply bD) hb hg; have n1_ := Aside0.mk hbox; have n3_ := n2_; clear HB; have HB := n0_; have BK115 := n1_; have GE115 := n3_; clear n0_ n1_ n2_ n3_; clear hb hbox hg))
 (try simp only [Act.put, List.setIfInBounds_toArray, List.set_cons_zero, List.set_cons_succ])
 go_cut [19] (fun v19 wc => ∃ (kq : Nat) (x19_1 : Bool), v19 = .bool x19_1 ∧ Aside0 (spec_ElemIsContact.j0 kq x19_1 a0_0 l0_1 = some r) ∧ Aside0 (kq ≤ k) ∧ Aside0 (wc.heap[gb115]? = some (.cells #[.int .i64 a0_0, (.slice A0_1 l0_1.length c0_1)] 29 (0, 0))) ∧ Aside0 (Below w.heap.size w wc))
 case first =>
  have H := HC2.out
  clear HC2
  by_cases c4 : a0_0 < 1
  ·rw [if_pos c4] at H
   have c4b0 : decide (a0_0 < 1) = true := decide_eq_true c4
   clear c4
   (first | rw [c4b0] | (simp only [i64_w, i32_w]; rw [c4b0]) | skip)
   have H' := Aside0.mk H
   clear H
   obtain ⟨hcz5_0, hcz5_1, hfz5_0, hfz5_1⟩ := cz2 BK115.out
   go_wp2
   repeat (go_quiet (fail); try go_wp2)
   go_meet
   case rel => exact ⟨_, (true), (by first | rfl | (simp; done) | (simp [*]; done)), H', ⟨by first | omega | exact Nat.le_refl _⟩, ⟨by (with_reducible repeat first | apply kN | apply kD | apply kA); exact BK115.out⟩, ⟨by repeat (first | (with_reducible first | exact HB.out | apply below_alloc | apply pw_below_drewN | apply below_drew1 | refine below_set ?_ GE115.out) | exact HB.out)⟩⟩
  ·rw [if_neg c4] at H
   have c4b0 : decide (a0_0 < 1) = false := decide_eq_false c4
   clear c4
   (first | rw [c4b0] | (simp only [i64_w, i32_w]; rw [c4b0]) | skip)
   by_cases c6 : a0_0 > 10
   ·rw [if_pos c6] at H
    have c6b0 : decide (10 < a0_0) = true := decide_eq_true c6
    clear c6
    have H' := Aside0.mk H
    clear H
    obtain ⟨hcz7_0, hcz7_1, hfz7_0, hfz7_1⟩ := cz2 BK115.out
    go_wp2
    repeat (go_quiet (fail); try go_wp2)
    go_meet
    case rel => exact ⟨_, (true), (by first | rfl | (simp; done) | (simp [*]; done)), H', ⟨by first | omega | exact Nat.le_refl _⟩, ⟨by (with_reducible repeat first | apply kN | apply kD | apply kA); exact BK115.out⟩, ⟨by repeat (first | (with_reducible first | exact HB.out | apply below_alloc | apply pw_below_drewN | apply below_drew1 | refine below_set ?_ GE115.out) | exact HB.out)⟩⟩
   ·rw [if_neg c6] at H
    have c6b0 : decide (10 < a0_0) = false := decide_eq_false c6
    clear c6
    replace H := Option.bind_eq_some_iff.mp H
    obtain ⟨t116, A80, H⟩ := H
    replace H : (spec_ElemIsContact.j0 k ((l0_1.length : Int) != t116) a0_0 l0_1) = some r := H
    have A8 := Aside0.mk A80
    clear A80
    have H' := Aside0.mk H
    clear H
    obtain ⟨hcz9_0, hcz9_1, hfz9_0, hfz9_1⟩ := cz2 BK115.out
    go_wp2_with (first | (go_at_call 40; (with_reducible refine (spec_ElemArity.calls k a0_0 t116 _ A8.out).mono ?_); rintro e w' ⟨rfl, ⟨nd, rfl⟩⟩; (try first | exact ⟨rfl, _, World.drewN_drewN _ _ _⟩ | exact ⟨rfl, _, Eq.trans (World.drewN_drewN _ _ _) (congrArg (World.drewN _) (Nat.add_assoc _ _ _))⟩)))
    repeat (go_quiet (first | (go_at_call 40; (with_reducible refine (spec_ElemArity.calls k a0_0 t116 _ A8.out).mono ?_); rintro e w' ⟨rfl, ⟨nd, rfl⟩⟩; (try first | exact ⟨rfl, _, World.drewN_drewN _ _ _⟩ | exact ⟨rfl, _, Eq.trans (World.drewN_drewN _ _ _) (congrArg (World.drewN _) (Nat.add_assoc _ _ _))⟩))); try go_wp2_with (first | (go_at_call 40; (with_reducible refine (spec_ElemArity.calls k a0_0 t116 _ A8.out).mono ?_); rintro e w' ⟨rfl, ⟨nd, rfl⟩⟩; (try first | exact ⟨rfl, _, World.drewN_drewN _ _ _⟩ | exact ⟨rfl, _, Eq.trans (World.drewN_drewN _ _ _) (congrArg (World.drewN _) (Nat.add_assoc _ _ _))⟩))))
    go_meet
    case rel => exact ⟨_, (((l0_1.length : Int) != t116)), (by first | rfl | (simp; done) | (simp [*]; done)), H', ⟨by first | omega | exact Nat.le_refl _⟩, ⟨by (with_reducible repeat first | apply kN | apply kD | apply kA); exact BK115.out⟩, ⟨by repeat (first | (with_reducible first | exact HB.out | apply below_alloc | apply pw_below_drewN | apply below_drew1 | refine below_set ?_ GE115.out) | exact HB.out)⟩⟩
 case rest =>
  clear HC2
  try clear c2
  try clear p2
  try clear c4
  try clear c4b0
  try clear c6
  try clear c6b0
  try clear hcz5_0
  try clear hcz5_1
  try clear hcz7_0
  try clear hcz7_1
  try clear hcz9_0
  try clear hcz9_1
  try clear hfz5_0
  try clear hfz5_1
  try clear hfz7_0
  try clear hfz7_1
  try clear hfz9_0
  try clear hfz9_1
  obtain ⟨kq, x19_1, rfl, HA, HJ1, BK115, HB⟩ := hcut
  cases kq with
  | zero => exact absurd HA.out (by simp [spec_ElemIsContact.j0])
  | succ kj1 =>
   have H := HA.out
   clear HA
   simp only [spec_ElemIsContact.j0] at H
   by_cases c10 : x19_1 = true
   ·subst c10
    have H1 : (some false) = some r := by rw [if_pos rfl] at H; exact H
    clear H
    have H := H1
    clear H1
    obtain rfl := Option.some.inj H
    go_wp2
    go_ret
    exact ⟨by first | rfl | (simp [errW_none, errW_some] <;> rfl) | (simp [*, errW_none, errW_some] <;> rfl), by repeat (first | (with_reducible first | exact HB.out | apply below_alloc | apply pw_below_drewN | apply below_drew1 | refine below_set ?_ GE115.out) | exact HB.out)⟩
   ·replace c10 := Bool.eq_false_iff.mpr c10
    subst c10
    have H1 : (if a0_0 ≤ 2 then (if 0 < (l0_1.length : Int) then ((spec_DevIsBit.f kj1 ((rd_T55 l0_1 0).f0) ((rd_T55 l0_1 0).f1) ((rd_T55 l0_1 0).f2)).bind fun t118 => (some t118)) else (none)) else (if a0_0 ≤ 4 then (if 0 < (l0_1.length : Int) then ((spec_DevIsBit.f kj1 ((rd_T55 l0_1 0).f0) ((rd_T55 l0_1 0).f1) ((rd_T55 l0_1 0).f2)).bind fun t120 => (if t120 = true then (if 1 < (l0_1.length : Int) then ((spec_DevOk.f kj1 ((rd_T55 l0_1 1).f0) ((rd_T55 l0_1 1).f1) ((rd_T55 l0_1 1).f2)).bind fun t122 => (if t122 = true then (some (((rd_T55 l0_1 1).f0) == 5)) else (some false))) else (none)) else (some false))) else (none)) else (if 0 < (l0_1.length : Int) then ((spec_DevIsWhole.f kj1 ((rd_T55 l0_1 0).f0) ((rd_T55 l0_1 0).f1) ((rd_T55 l0_1 0).f2)).bind fun t125 => (if t125 = true then (if 1 < (l0_1.length : Int) then ((spec_DevIsWhole.f kj1 ((rd_T55 l0_1 1).f0) ((rd_T55 l0_1 1).f1) ((rd_T55 l0_1 1).f2)).bind fun t127 => (if t127 = true then (some true) else ((spec_DevIsReal.f kj1 ((rd_T55 l0_1 0).f0) ((rd_T55 l0_1 0).f1) ((rd_T55 l0_1 0).f2)).bind fun t129 => (if t129 = true then ((spec_DevIsReal.f kj1 ((rd_T55 l0_1 1).f0) ((rd_T55 l0_1 1).f1) ((rd_T55 l0_1 1).f2)).bind fun t131 => (some t131)) else (some false))))) else (none)) else ((spec_DevIsReal.f kj1 ((rd_T55 l0_1 0).f0) ((rd_T55 l0_1 0).f1) ((rd_T55 l0_1 0).f2)).bind fun t133 => (if t133 = true then (if 1 < (l0_1.length : Int) then ((spec_DevIsReal.f kj1 ((rd_T55 l0_1 1).f0) ((rd_T55 l0_1 1).f1) ((rd_T55 l0_1 1).f2)).bind fun t135 => (some t135)) else (none)) else (some false))))) else (none)))) = some r := by rw [if_neg (show ¬ (false = true) by decide)] at H; exact H
    clear H
    have H := H1
    clear H1
    by_cases c11 : a0_0 ≤ 2
    ·rw [if_pos c11] at H
     have c11b0 : decide (a0_0 ≤ 2) = true := decide_eq_true c11
     clear c11
     by_cases c12 : 0 < (l0_1.length : Int)
     ·rw [if_pos c12] at H
      have c12b0 : decide (0 < (l0_1.length : Int)) = true := decide_eq_true c12
      have c12b1 : decide (0 < l0_1.length) = true := decide_eq_true (by omega)
      clear c12
      replace H := Option.bind_eq_some_iff.mp H
      obtain ⟨t118, A130, H⟩ := H
      replace H : (some t118) = some r := H
      have A13 := Aside0.mk A130
      clear A130
      obtain rfl := Option.some.inj H
      obtain ⟨hcz14_0, hcz14_1, hfz14_0, hfz14_1⟩ := cz2 BK115.out
      have p117 : 0 ≤ (0 : Int) := (by omega)
      have q117 : 0 < (l0_1.length : Int) := of_decide_eq_true (by first | (with_reducible assumption) | assumption)
      obtain ⟨ad117, e117, hx117_0, hx117_1, hx117_2⟩ := at_T55 HR0_1.out 0 p117 q117
      cases e117
      have qi117 : (0 < l0_1.length) = True := eq_true (by omega)
      (try rw [show ((0 : Int)).toNat = 0 from rfl] at hx117_0)
      (try rw [show 0 * 3 = 0 from rfl] at hx117_0)
      (try rw [Addr.add_zero'] at hx117_0)
      (try rw [show ((0 : Int)).toNat = 0 from rfl] at hx117_1)
      (try rw [show 0 * 3 = 0 from rfl] at hx117_1)
      (try rw [Addr.add_zero'] at hx117_1)
      (try rw [show ((0 : Int)).toNat = 0 from rfl] at hx117_2)
      (try rw [show 0 * 3 = 0 from rfl] at hx117_2)
      (try rw [Addr.add_zero'] at hx117_2)
      replace hx117_0 := (HB.out.cell (World.block_lt_of_cell? w _ hx117_0)).trans hx117_0
      replace hx117_1 := (HB.out.cell (World.block_lt_of_cell? w _ hx117_1)).trans hx117_1
      replace hx117_2 := (HB.out.cell (World.block_lt_of_cell? w _ hx117_2)).trans hx117_2
      replace p117 := eq_true p117
      replace q117 := eq_true q117
      go_wp2_with (first | (go_at_call 41; (with_reducible refine (spec_DevIsBit.calls kj1 ((rd_T55 l0_1 0).f0) ((rd_T55 l0_1 0).f1) ((rd_T55 l0_1 0).f2) t118 _ A13.out).mono ?_); rintro e w15 ⟨rfl, hb⟩; have n0_ := Aside0.mk (blk_below (g := gb115) (o := .cells #[.int .i64 a0_0, .slice (some ad117) l0_1.length c0_1] 29 (0, 0)) (by (with_reducible repeat first | apply kN | apply kD | apply kA); exact BK115.out) hb); have n1_ := Aside0.mk (below_step (by with_reducible repeat first | exact HB.out | apply bA | apply bN | apply bD | refine bS ?_ GE115.out) hb); clear BK115; clear HB; have BK115 := n0_; have HB := n1_; clear n0_ n1_; (try clear hb); (try clear hb2); (try clear hk); (try clear hi)))
      go_ret
      exact ⟨by first | rfl | (simp [errW_none, errW_some] <;> rfl) | (simp [*, errW_none, errW_some] <;> rfl), by repeat (first | (with_reducible first | exact HB.out | apply below_alloc | apply pw_below_drewN | apply below_drew1 | refine below_set ?_ GE115.out) | exact HB.out)⟩
     ·rw [if_neg c12] at H
      exact absurd H (by simp)
    ·rw [if_neg c11] at H
     have c11b0 : decide (a0_0 ≤ 2) = false := decide_eq_false c11
     clear c11
     by_cases c16 : a0_0 ≤ 4
     ·rw [if_pos c16] at H
      have c16b0 : decide (a0_0 ≤ 4) = true := decide_eq_true c16
      clear c16
      by_cases c17 : 0 < (l0_1.length : Int)
      ·rw [if_pos c17] at H
       have c17b0 : decide (0 < (l0_1.length : Int)) = true := decide_eq_true c17
       have c17b1 : decide (0 < l0_1.length) = true := decide_eq_true (by omega)
       clear c17
       replace H := Option.bind_eq_some_iff.mp H
       obtain ⟨t120, A180, H⟩ := H
       replace H : (if t120 = true then (if 1 < (l0_1.length : Int) then ((spec_DevOk.f kj1 ((rd_T55 l0_1 1).f0) ((rd_T55 l0_1 1).f1) ((rd_T55 l0_1 1).f2)).bind fun t122 => (if t122 = true then (some (((rd_T55 l0_1 1).f0) == 5)) else (some false))) else (none)) else (some false)) = some r := H
       have A18 := Aside0.mk A180
       clear A180
       by_cases c19 : t120 = true
       ·subst c19
        have H1 : (if 1 < (l0_1.length : Int) then ((spec_DevOk.f kj1 ((rd_T55 l0_1 1).f0) ((rd_T55 l0_1 1).f1) ((rd_T55 l0_1 1).f2)).bind fun t122 => (if t122 = true then (some (((rd_T55 l0_1 1).f0) == 5)) else (some false))) else (none)) = some r := by rw [if_pos rfl] at H; exact H
        clear H
        have H := H1
        clear H1
        by_cases c20 : 1 < (l0_1.length : Int)
        ·rw [if_pos c20] at H
         have c20b0 : decide (1 < (l0_1.length : Int)) = true := decide_eq_true c20
         have c20b1 : decide (1 < l0_1.length) = true := decide_eq_true (by omega)
         clear c20
         replace H := Option.bind_eq_some_iff.mp H
         obtain ⟨t122, A210, H⟩ := H
         replace H : (if t122 = true then (some (((rd_T55 l0_1 1).f0) == 5)) else (some false)) = some r := H
         have A21 := Aside0.mk A210
         clear A210
         by_cases c22 : t122 = true
         ·subst c22
          have H1 : (some (((rd_T55 l0_1 1).f0) == 5)) = some r := by rw [if_pos rfl] at H; exact H
          clear H
          have H := H1
          clear H1
          obtain rfl := Option.some.inj H
          obtain ⟨hcz23_0, hcz23_1, hfz23_0, hfz23_1⟩ := cz2 BK115.out
          have p119 : 0 ≤ (0 : Int) := (by omega)
          have q119 : 0 < (l0_1.length : Int) := of_decide_eq_true (by first | (with_reducible assumption) | assumption)
          obtain ⟨ad119, e119, hx119_0, hx119_1, hx119_2⟩ := at_T55 HR0_1.out 0 p119 q119
          cases e119
          have qi119 : (0 < l0_1.length) = True := eq_true (by omega)
          (try rw [show ((0 : Int)).toNat = 0 from rfl] at hx119_0)
          (try rw [show 0 * 3 = 0 from rfl] at hx119_0)
          (try rw [Addr.add_zero'] at hx119_0)
          (try rw [show ((0 : Int)).toNat = 0 from rfl] at hx119_1)
          (try rw [show 0 * 3 = 0 from rfl] at hx119_1)
          (try rw [Addr.add_zero'] at hx119_1)
          (try rw [show ((0 : Int)).toNat = 0 from rfl] at hx119_2)
          (try rw [show 0 * 3 = 0 from rfl] at hx119_2)
          (try rw [Addr.add_zero'] at hx119_2)
          replace hx119_0 := (HB.out.cell (World.block_lt_of_cell? w _ hx119_0)).trans hx119_0
          replace hx119_1 := (HB.out.cell (World.block_lt_of_cell? w _ hx119_1)).trans hx119_1
          replace hx119_2 := (HB.out.cell (World.block_lt_of_cell? w _ hx119_2)).trans hx119_2
          replace p119 := eq_true p119
          replace q119 := eq_true q119
          go_wp2_with (first | (go_at_call 41; (with_reducible refine (spec_DevIsBit.calls kj1 ((rd_T55 l0_1 0).f0) ((rd_T55 l0_1 0).f1) ((rd_T55 l0_1 0).f2) true _ A18.out).mono ?_); rintro e w24 ⟨rfl, hb⟩; have n0_ := Aside0.mk (blk_below (g := gb115) (o := .cells #[.int .i64 a0_0, .slice (some ad119) l0_1.length c0_1] 29 (0, 0)) (by (with_reducible repeat first | apply kN | apply kD | apply kA); exact BK115.out) hb); have n1_ := Aside0.mk (below_step (by with_reducible repeat first | exact HB.out | apply bA | apply bN | apply bD | refine bS ?_ GE115.out) hb); clear BK115; clear HB; have BK115 := n0_; have HB := n1_; clear n0_ n1_; (try clear hb); (try clear hb2); (try clear hk); (try clear hi); obtain ⟨hcz25_0, hcz25_1, hfz25_0, hfz25_1⟩ := cz2 BK115.out; have p121 : 0 ≤ (1 : Int) := (by omega); have q121 : 1 < (l0_1.length : Int) := of_decide_eq_true (by first | (with_reducible assumption) | assumption); obtain ⟨ad121, e121, hx121_0, hx121_1, hx121_2⟩ := at_T55 HR0_1.out 1 p121 q121; obtain rfl : ad119 = ad121 := (by injection e121); (try simp only [show (1 : Int).toNat = 1 from rfl, Nat.reduceMul, Nat.reduceEqDiff, Go.Addr.add, ↓reduceIte] at hx121_0); (try simp only [show (1 : Int).toNat = 1 from rfl, Nat.reduceMul, Nat.reduceEqDiff, Go.Addr.add, ↓reduceIte] at hx121_1); (try simp only [show (1 : Int).toNat = 1 from rfl, Nat.reduceMul, Nat.reduceEqDiff, Go.Addr.add, ↓reduceIte] at hx121_2); have qi121 : (1 < l0_1.length) = True := eq_true (by omega); (try rw [show ((1 : Int)).toNat = 1 from rfl] at hx121_0); (try rw [show 1 * 3 = 3 from rfl] at hx121_0); (try rw [show ((1 : Int)).toNat = 1 from rfl] at hx121_1); (try rw [show 1 * 3 = 3 from rfl] at hx121_1); (try rw [show ((1 : Int)).toNat = 1 from rfl] at hx121_2); (try rw [show 1 * 3 = 3 from rfl] at hx121_2); replace hx121_0 := (HB.out.cell (World.block_lt_of_cell? w _ hx121_0)).trans hx121_0; replace hx121_1 := (HB.out.cell (World.block_lt_of_cell? w _ hx121_1)).trans hx121_1; replace hx121_2 := (HB.out.cell (World.block_lt_of_cell? w _ hx121_2)).trans hx121_2; replace p121 := eq_true p121; replace q121 := eq_true q121) | (go_at_call 42; (with_reducible refine (spec_DevOk.calls kj1 ((rd_T55 l0_1 1).f0) ((rd_T55 l0_1 1).f1) ((rd_T55 l0_1 1).f2) true _ A21.out).mono ?_); rintro e w26 ⟨rfl, hb⟩; have n0_ := Aside0.mk (blk_below (g := gb115) (o := .cells #[.int .i64 a0_0, .slice (some ad119) l0_1.length c0_1] 29 (0, 0)) (by (with_reducible repeat first | apply kN | apply kD | apply kA); exact BK115.out) hb); have n1_ := Aside0.mk (below_step (by with_reducible repeat first | exact HB.out | apply bA | apply bN | apply bD | refine bS ?_ GE115.out) hb); clear BK115; clear HB; have BK115 := n0_; have HB := n1_; clear n0_ n1_; (try clear hb); (try clear hb2); (try clear hk); (try clear hi); obtain ⟨hcz27_0, hcz27_1, hfz27_0, hfz27_1⟩ := cz2 BK115.out; have p123 : 0 ≤ (1 : Int) := (by omega); have q123 : 1 < (l0_1.length : Int) := of_decide_eq_true (by first | (with_reducible assumption) | assumption); obtain ⟨ad123, e123, hx123_0, hx123_1, hx123_2⟩ := at_T55 HR0_1.out 1 p123 q123; obtain rfl : ad119 = ad123 := (by injection e123); (try simp only [show (1 : Int).toNat = 1 from rfl, Nat.reduceMul, Nat.reduceEqDiff, Go.Addr.add, ↓reduceIte] at hx123_0); (try simp only [show (1 : Int).toNat = 1 from rfl, Nat.reduceMul, Nat.reduceEqDiff, Go.Addr.add, ↓reduceIte] at hx123_1); (try simp only [show (1 : Int).toNat = 1 from rfl, Nat.reduceMul, Nat.reduceEqDiff, Go.Addr.add, ↓reduceIte] at hx123_2); have qi123 : (1 < l0_1.length) = True := eq_true (by omega); (try rw [show ((1 : Int)).toNat = 1 from rfl] at hx123_0); (try rw [show 1 * 3 = 3 from rfl] at hx123_0); (try rw [show ((1 : Int)).toNat = 1 from rfl] at hx123_1); (try rw [show 1 * 3 = 3 from rfl] at hx123_1); (try rw [show ((1 : Int)).toNat = 1 from rfl] at hx123_2); (try rw [show 1 * 3 = 3 from rfl] at hx123_2); replace hx123_0 := (HB.out.cell (World.block_lt_of_cell? w _ hx123_0)).trans hx123_0; replace hx123_1 := (HB.out.cell (World.block_lt_of_cell? w _ hx123_1)).trans hx123_1; replace hx123_2 := (HB.out.cell (World.block_lt_of_cell? w _ hx123_2)).trans hx123_2; replace p123 := eq_true p123; replace q123 := eq_true q123))
          go_ret
          exact ⟨by first | rfl | (simp [errW_none, errW_some] <;> rfl) | (simp [*, errW_none, errW_some] <;> rfl), by repeat (first | (with_reducible first | exact HB.out | apply below_alloc | apply pw_below_drewN | apply below_drew1 | refine below_set ?_ GE115.out) | exact HB.out)⟩
         ·replace c22 := Bool.eq_false_iff.mpr c22
          subst c22
          have H1 : (some false) = some r := by rw [if_neg (show ¬ (false = true) by decide)] at H; exact H
          clear H
          have H := H1
          clear H1
          obtain rfl := Option.some.inj H
          obtain ⟨hcz28_0, hcz28_1, hfz28_0, hfz28_1⟩ := cz2 BK115.out
          have p119 : 0 ≤ (0 : Int) := (by omega)
          have q119 : 0 < (l0_1.length : Int) := of_decide_eq_true (by first | (with_reducible assumption) | assumption)
          obtain ⟨ad119, e119, hx119_0, hx119_1, hx119_2⟩ := at_T55 HR0_1.out 0 p119 q119
          cases e119
          have qi119 : (0 < l0_1.length) = True := eq_true (by omega)
          (try rw [show ((0 : Int)).toNat = 0 from rfl] at hx119_0)
          (try rw [show 0 * 3 = 0 from rfl] at hx119_0)
          (try rw [Addr.add_zero'] at hx119_0)
          (try rw [show ((0 : Int)).toNat = 0 from rfl] at hx119_1)
          (try rw [show 0 * 3 = 0 from rfl] at hx119_1)
          (try rw [Addr.add_zero'] at hx119_1)
          (try rw [show ((0 : Int)).toNat = 0 from rfl] at hx119_2)
          (try rw [show 0 * 3 = 0 from rfl] at hx119_2)
          (try rw [Addr.add_zero'] at hx119_2)
          replace hx119_0 := (HB.out.cell (World.block_lt_of_cell? w _ hx119_0)).trans hx119_0
          replace hx119_1 := (HB.out.cell (World.block_lt_of_cell? w _ hx119_1)).trans hx119_1
          replace hx119_2 := (HB.out.cell (World.block_lt_of_cell? w _ hx119_2)).trans hx119_2
          replace p119 := eq_true p119
          replace q119 := eq_true q119
          go_wp2_with (first | (go_at_call 41; (with_reducible refine (spec_DevIsBit.calls kj1 ((rd_T55 l0_1 0).f0) ((rd_T55 l0_1 0).f1) ((rd_T55 l0_1 0).f2) true _ A18.out).mono ?_); rintro e w29 ⟨rfl, hb⟩; have n0_ := Aside0.mk (blk_below (g := gb115) (o := .cells #[.int .i64 a0_0, .slice (some ad119) l0_1.length c0_1] 29 (0, 0)) (by (with_reducible repeat first | apply kN | apply kD | apply kA); exact BK115.out) hb); have n1_ := Aside0.mk (below_step (by with_reducible repeat first | exact HB.out | apply bA | apply bN | apply bD | refine bS ?_ GE115.out) hb); clear BK115; clear HB; have BK115 := n0_; have HB := n1_; clear n0_ n1_; (try clear hb); (try clear hb2); (try clear hk); (try clear hi); obtain ⟨hcz30_0, hcz30_1, hfz30_0, hfz30_1⟩ := cz2 BK115.out; have p121 : 0 ≤ (1 : Int) := (by omega); have q121 : 1 < (l0_1.length : Int) := of_decide_eq_true (by first | (with_reducible assumption) | assumption); obtain ⟨ad121, e121, hx121_0, hx121_1, hx121_2⟩ := at_T55 HR0_1.out 1 p121 q121; obtain rfl : ad119 = ad121 := (by injection e121); (try simp only [show (1 : Int).toNat = 1 from rfl, Nat.reduceMul, Nat.reduceEqDiff, Go.Addr.add, ↓reduceIte] at hx121_0); (try simp only [show (1 : Int).toNat = 1 from rfl, Nat.reduceMul, Nat.reduceEqDiff, Go.Addr.add, ↓reduceIte] at hx121_1); (try simp only [show (1 : Int).toNat = 1 from rfl, Nat.reduceMul, Nat.reduceEqDiff, Go.Addr.add, ↓reduceIte] at hx121_2); have qi121 : (1 < l0_1.length) = True := eq_true (by omega); (try rw [show ((1 : Int)).toNat = 1 from rfl] at hx121_0); (try rw [show 1 * 3 = 3 from rfl] at hx121_0); (try rw [show ((1 : Int)).toNat = 1 from rfl] at hx121_1); (try rw [show 1 * 3 = 3 from rfl] at hx121_1); (try rw [show ((1 : Int)).toNat = 1 from rfl] at hx121_2); (try rw [show 1 * 3 = 3 from rfl] at hx121_2); replace hx121_0 := (HB.out.cell (World.block_lt_of_cell? w _ hx121_0)).trans hx121_0; replace hx121_1 := (HB.out.cell (World.block_lt_of_cell? w _ hx121_1)).trans hx121_1; replace hx121_2 := (HB.out.cell (World.block_lt_of_cell? w _ hx121_2)).trans hx121_2; replace p121 := eq_true p121; replace q121 := eq_true q121) | (go_at_call 42; (with_reducible refine (spec_DevOk.calls kj1 ((rd_T55 l0_1 1).f0) ((rd_T55 l0_1 1).f1) ((rd_T55 l0_1 1).f2) false _ A21.out).mono ?_); rintro e w31 ⟨rfl, hb⟩; have n0_ := Aside0.mk (blk_below (g := gb115) (o := .cells #[.int .i64 a0_0, .slice (some ad119) l0_1.length c0_1] 29 (0, 0)) (by (with_reducible repeat first | apply kN | apply kD | apply kA); exact BK115.out) hb); have n1_ := Aside0.mk (below_step (by with_reducible repeat first | exact HB.out | apply bA | apply bN | apply bD | refine bS ?_ GE115.out) hb); clear BK115; clear HB; have BK115 := n0_; have HB := n1_; clear n0_ n1_; (try clear hb); (try clear hb2); (try clear hk); (try clear hi)))
          go_ret
          exact ⟨by first | rfl | (simp [errW_none, errW_some] <;> rfl) | (simp [*, errW_none, errW_some] <;> rfl), by repeat (first | (with_reducible first | exact HB.out | apply below_alloc | apply pw_below_drewN | apply below_drew1 | refine below_set ?_ GE115.out) | exact HB.out)⟩
        ·rw [if_neg c20] at H
         exact absurd H (by simp)
       ·replace c19 := Bool.eq_false_iff.mpr c19
        subst c19
        have H1 : (some false) = some r := by rw [if_neg (show ¬ (false = true) by decide)] at H; exact H
        clear H
        have H := H1
        clear H1
        obtain rfl := Option.some.inj H
        obtain ⟨hcz32_0, hcz32_1, hfz32_0, hfz32_1⟩ := cz2 BK115.out
        have p119 : 0 ≤ (0 : Int) := (by omega)
        have q119 : 0 < (l0_1.length : Int) := of_decide_eq_true (by first | (with_reducible assumption) | assumption)
        obtain ⟨ad119, e119, hx119_0, hx119_1, hx119_2⟩ := at_T55 HR0_1.out 0 p119 q119
        cases e119
        have qi119 : (0 < l0_1.length) = True := eq_true (by omega)
        (try rw [show ((0 : Int)).toNat = 0 from rfl] at hx119_0)
        (try rw [show 0 * 3 = 0 from rfl] at hx119_0)
        (try rw [Addr.add_zero'] at hx119_0)
        (try rw [show ((0 : Int)).toNat = 0 from rfl] at hx119_1)
        (try rw [show 0 * 3 = 0 from rfl] at hx119_1)
        (try rw [Addr.add_zero'] at hx119_1)
        (try rw [show ((0 : Int)).toNat = 0 from rfl] at hx119_2)
        (try rw [show 0 * 3 = 0 from rfl] at hx119_2)
        (try rw [Addr.add_zero'] at hx119_2)
        replace hx119_0 := (HB.out.cell (World.block_lt_of_cell? w _ hx119_0)).trans hx119_0
        replace hx119_1 := (HB.out.cell (World.block_lt_of_cell? w _ hx119_1)).trans hx119_1
        replace hx119_2 := (HB.out.cell (World.block_lt_of_cell? w _ hx119_2)).trans hx119_2
        replace p119 := eq_true p119
        replace q119 := eq_true q119
        go_wp2_with (first | (go_at_call 41; (with_reducible refine (spec_DevIsBit.calls kj1 ((rd_T55 l0_1 0).f0) ((rd_T55 l0_1 0).f1) ((rd_T55 l0_1 0).f2) false _ A18.out).mono ?_); rintro e w33 ⟨rfl, hb⟩; have n0_ := Aside0.mk (blk_below (g := gb115) (o := .cells #[.int .i64 a0_0, .slice (some ad119) l0_1.length c0_1] 29 (0, 0)) (by (with_reducible repeat first | apply kN | apply kD | apply kA); exact BK115.out) hb); have n1_ := Aside0.mk (below_step (by with_reducible repeat first | exact HB.out | apply bA | apply bN | apply bD | refine bS ?_ GE115.out) hb); clear BK115; clear HB; have BK115 := n0_; have HB := n1_; clear n0_ n1_; (try clear hb); (try clear hb2); (try clear hk); (try clear hi)))
        go_ret
        exact ⟨by first | rfl | (simp [errW_none, errW_some] <;> rfl) | (simp [*, errW_none, errW_some] <;> rfl), by repeat (first | (with_reducible first | exact HB.out | apply below_alloc | apply pw_below_drewN | apply below_drew1 | refine below_set ?_ GE115.out) | exact HB.out)⟩
      ·rw [if_neg c17] at H
       exact absurd H (by simp)
     ·rw [if_neg c16] at H
      have c16b0 : decide (a0_0 ≤ 4) = false := decide_eq_false c16
      clear c16
      by_cases c34 : 0 < (l0_1.length : Int)
      ·rw [if_pos c34] at H
       have c34b0 : decide (0 < (l0_1.length : Int)) = true := decide_eq_true c34
       have c34b1 : decide (0 < l0_1.length) = true := decide_eq_true (by omega)
       clear c34
       replace H := Option.bind_eq_some_iff.mp H
       obtain ⟨t125, A350, H⟩ := H
       replace H : (if t125 = true then (if 1 < (l0_1.length : Int) then ((spec_DevIsWhole.f kj1 ((rd_T55 l0_1 1).f0) ((rd_T55 l0_1 1).f1) ((rd_T55 l0_1 1).f2)).bind fun t127 => (if t127 = true then (some true) else ((spec_DevIsReal.f kj1 ((rd_T55 l0_1 0).f0) ((rd_T55 l0_1 0).f1) ((rd_T55 l0_1 0).f2)).bind fun t129 => (if t129 = true then ((spec_DevIsReal.f kj1 ((rd_T55 l0_1 1).f0) ((rd_T55 l0_1 1).f1) ((rd_T55 l0_1 1).f2)).bind fun t131 => (some t131)) else (some false))))) else (none)) else ((spec_DevIsReal.f kj1 ((rd_T55 l0_1 0).f0) ((rd_T55 l0_1 0).f1) ((rd_T55 l0_1 0).f2)).bind fun t133 => (if t133 = true then (if 1 < (l0_1.length : Int) then ((spec_DevIsReal.f kj1 ((rd_T55 l0_1 1).f0) ((rd_T55 l0_1 1).f1) ((rd_T55 l0_1 1).f2)).bind fun t135 => (some t135)) else (none)) else (some false)))) = some r := H
       have A35 := Aside0.mk A350
       clear A350
       by_cases c36 : t125 = true
       ·subst c36
        have H1 : (if 1 < (l0_1.length : Int) then ((spec_DevIsWhole.f kj1 ((rd_T55 l0_1 1).f0) ((rd_T55 l0_1 1).f1) ((rd_T55 l0_1 1).f2)).bind fun t127 => (if t127 = true then (some true) else ((spec_DevIsReal.f kj1 ((rd_T55 l0_1 0).f0) ((rd_T55 l0_1 0).f1) ((rd_T55 l0_1 0).f2)).bind fun t129 => (if t129 = true then ((spec_DevIsReal.f kj1 ((rd_T55 l0_1 1).f0) ((rd_T55 l0_1 1).f1) ((rd_T55 l0_1 1).f2)).bind fun t131 => (some t131)) else (some false))))) else (none)) = some r := by rw [if_pos rfl] at H; exact H
        clear H
        have H := H1
        clear H1
        by_cases c37 : 1 < (l0_1.length : Int)
        ·rw [if_pos c37] at H
         have c37b0 : decide (1 < (l0_1.length : Int)) = true := decide_eq_true c37
         have c37b1 : decide (1 < l0_1.length) = true := decide_eq_true (by omega)
         clear c37
         replace H := Option.bind_eq_some_iff.mp H
         obtain ⟨t127, A380, H⟩ := H
         replace H : (if t127 = true then (some true) else ((spec_DevIsReal.f kj1 ((rd_T55 l0_1 0).f0) ((rd_T55 l0_1 0).f1) ((rd_T55 l0_1 0).f2)).bind fun t129 => (if t129 = true then ((spec_DevIsReal.f kj1 ((rd_T55 l0_1 1).f0) ((rd_T55 l0_1 1).f1) ((rd_T55 l0_1 1).f2)).bind fun t131 => (some t131)) else (some false)))) = some r := H
         have A38 := Aside0.mk A380
         clear A380
         by_cases c39 : t127 = true
         ·subst c39
          have H1 : (some true) = some r := by rw [if_pos rfl] at H; exact H
          clear H
          have H := H1
          clear H1
          obtain rfl := Option.some.inj H
          obtain ⟨hcz40_0, hcz40_1, hfz40_0, hfz40_1⟩ := cz2 BK115.out
          have p124 : 0 ≤ (0 : Int) := (by omega)
          have q124 : 0 < (l0_1.length : Int) := of_decide_eq_true (by first | (with_reducible assumption) | assumption)
          obtain ⟨ad124, e124, hx124_0, hx124_1, hx124_2⟩ := at_T55 HR0_1.out 0 p124 q124
          cases e124
          have qi124 : (0 < l0_1.length) = True := eq_true (by omega)
          (try rw [show ((0 : Int)).toNat = 0 from rfl] at hx124_0)
          (try rw [show 0 * 3 = 0 from rfl] at hx124_0)
          (try rw [Addr.add_zero'] at hx124_0)
          (try rw [show ((0 : Int)).toNat = 0 from rfl] at hx124_1)
          (try rw [show 0 * 3 = 0 from rfl] at hx124_1)
          (try rw [Addr.add_zero'] at hx124_1)
          (try rw [show ((0 : Int)).toNat = 0 from rfl] at hx124_2)
          (try rw [show 0 * 3 = 0 from rfl] at hx124_2)
          (try rw [Addr.add_zero'] at hx124_2)
          replace hx124_0 := (HB.out.cell (World.block_lt_of_cell? w _ hx124_0)).trans hx124_0
          replace hx124_1 := (HB.out.cell (World.block_lt_of_cell? w _ hx124_1)).trans hx124_1
          replace hx124_2 := (HB.out.cell (World.block_lt_of_cell? w _ hx124_2)).trans hx124_2
          replace p124 := eq_true p124
          replace q124 := eq_true q124
          go_wp2_with (first | (go_at_call 24; (with_reducible refine (spec_DevIsWhole.calls kj1 ((rd_T55 l0_1 0).f0) ((rd_T55 l0_1 0).f1) ((rd_T55 l0_1 0).f2) true _ A35.out).mono ?_); rintro e w41 ⟨rfl, hb⟩; have n0_ := Aside0.mk (blk_below (g := gb115) (o := .cells #[.int .i64 a0_0, .slice (some ad124) l0_1.length c0_1] 29 (0, 0)) (by (with_reducible repeat first | apply kN | apply kD | apply kA); exact BK115.out) hb); have n1_ := Aside0.mk (below_step (by with_reducible repeat first | exact HB.out | apply bA | apply bN | apply bD | refine bS ?_ GE115.out) hb); clear BK115; clear HB; have BK115 := n0_; have HB := n1_; clear n0_ n1_; (try clear hb); (try clear hb2); (try clear hk); (try clear hi); obtain ⟨hcz42_0, hcz42_1, hfz42_0, hfz42_1⟩ := cz2 BK115.out; have p126 : 0 ≤ (1 : Int) := (by omega); have q126 : 1 < (l0_1.length : Int) := of_decide_eq_true (by first | (with_reducible assumption) | assumption); obtain ⟨ad126, e126, hx126_0, hx126_1, hx126_2⟩ := at_T55 HR0_1.out 1 p126 q126; obtain rfl : ad124 = ad126 := (by injection e126); (try simp only [show (1 : Int).toNat = 1 from rfl, Nat.reduceMul, Nat.reduceEqDiff, Go.Addr.add, ↓reduceIte] at hx126_0); (try simp only [show (1 : Int).toNat = 1 from rfl, Nat.reduceMul, Nat.reduceEqDiff, Go.Addr.add, ↓reduceIte] at hx126_1); (try simp only [show (1 : Int).toNat = 1 from rfl, Nat.reduceMul, Nat.reduceEqDiff, Go.Addr.add, ↓reduceIte] at hx126_2); have qi126 : (1 < l0_1.length) = True := eq_true (by omega); (try rw [show ((1 : Int)).toNat = 1 from rfl] at hx126_0); (try rw [show 1 * 3 = 3 from rfl] at hx126_0); (try rw [show ((1 : Int)).toNat = 1 from rfl] at hx126_1); (try rw [show 1 * 3 = 3 from rfl] at hx126_1); (try rw [show ((1 : Int)).toNat = 1 from rfl] at hx126_2); (try rw [show 1 * 3 = 3 from rfl] at hx126_2); replace hx126_0 := (HB.out.cell (World.block_lt_of_cell? w _ hx126_0)).trans hx126_0; replace hx126_1 := (HB.out.cell (World.block_lt_of_cell? w _ hx126_1)).trans hx126_1; replace hx126_2 := (HB.out.cell (World.block_lt_of_cell? w _ hx126_2)).trans hx126_2; replace p126 := eq_true p126; replace q126 := eq_true q126) | (go_at_call 24; (with_reducible refine (spec_DevIsWhole.calls kj1 ((rd_T55 l0_1 1).f0) ((rd_T55 l0_1 1).f1) ((rd_T55 l0_1 1).f2) true _ A38.out).mono ?_); rintro e w43 ⟨rfl, hb⟩; have n0_ := Aside0.mk (blk_below (g := gb115) (o := .cells #[.int .i64 a0_0, .slice (some ad124) l0_1.length c0_1] 29 (0, 0)) (by (with_reducible repeat first | apply kN | apply kD | apply kA); exact BK115.out) hb); have n1_ := Aside0.mk (below_step (by with_reducible repeat first | exact HB.out | apply bA | apply bN | apply bD | refine bS ?_ GE115.out) hb); clear BK115; clear HB; have BK115 := n0_; have HB := n1_; clear n0_ n1_; (try clear hb); (try clear hb2); (try clear hk); (try clear hi)))
          go_ret
          exact ⟨by first | rfl | (simp [errW_none, errW_some] <;> rfl) | (simp [*, errW_none, errW_some] <;> rfl), by repeat (first | (with_reducible first | exact HB.out | apply below_alloc | apply pw_below_drewN | apply below_drew1 | refine below_set ?_ GE115.out) | exact HB.out)⟩
         ·replace c39 := Bool.eq_false_iff.mpr c39
          subst c39
          have H1 : ((spec_DevIsReal.f kj1 ((rd_T55 l0_1 0).f0) ((rd_T55 l0_1 0).f1) ((rd_T55 l0_1 0).f2)).bind fun t129 => (if t129 = true then ((spec_DevIsReal.f kj1 ((rd_T55 l0_1 1).f0) ((rd_T55 l0_1 1).f1) ((rd_T55 l0_1 1).f2)).bind fun t131 => (some t131)) else (some false))) = some r := by rw [if_neg (show ¬ (false = true) by decide)] at H; exact H
          clear H
          have H := H1
          clear H1
          replace H := Option.bind_eq_some_iff.mp H
          obtain ⟨t129, A440, H⟩ := H
          replace H : (if t129 = true then ((spec_DevIsReal.f kj1 ((rd_T55 l0_1 1).f0) ((rd_T55 l0_1 1).f1) ((rd_T55 l0_1 1).f2)).bind fun t131 => (some t131)) else (some false)) = some r := H
          have A44 := Aside0.mk A440
          clear A440
          by_cases c45 : t129 = true
          ·subst c45
           have H1 : ((spec_DevIsReal.f kj1 ((rd_T55 l0_1 1).f0) ((rd_T55 l0_1 1).f1) ((rd_T55 l0_1 1).f2)).bind fun t131 => (some t131)) = some r := by rw [if_pos rfl] at H; exact H
           clear H
           have H := H1
           clear H1
           replace H := Option.bind_eq_some_iff.mp H
           obtain ⟨t131, A460, H⟩ := H
           replace H : (some t131) = some r := H
           have A46 := Aside0.mk A460
           clear A460
           obtain rfl := Option.some.inj H
           obtain ⟨hcz47_0, hcz47_1, hfz47_0, hfz47_1⟩ := cz2 BK115.out
           have p124 : 0 ≤ (0 : Int) := (by omega)
           have q124 : 0 < (l0_1.length : Int) := of_decide_eq_true (by first | (with_reducible assumption) | assumption)
           obtain ⟨ad124, e124, hx124_0, hx124_1, hx124_2⟩ := at_T55 HR0_1.out 0 p124 q124
           cases e124
           have qi124 : (0 < l0_1.length) = True := eq_true (by omega)
           (try rw [show ((0 : Int)).toNat = 0 from rfl] at hx124_0)
           (try rw [show 0 * 3 = 0 from rfl] at hx124_0)
           (try rw [Addr.add_zero'] at hx124_0)
           (try rw [show ((0 : Int)).toNat = 0 from rfl] at hx124_1)
           (try rw [show 0 * 3 = 0 from rfl] at hx124_1)
           (try rw [Addr.add_zero'] at hx124_1)
           (try rw [show ((0 : Int)).toNat = 0 from rfl] at hx124_2)
           (try rw [show 0 * 3 = 0 from rfl] at hx124_2)
           (try rw [Addr.add_zero'] at hx124_2)
           replace hx124_0 := (HB.out.cell (World.block_lt_of_cell? w _ hx124_0)).trans hx124_0
           replace hx124_1 := (HB.out.cell (World.block_lt_of_cell? w _ hx124_1)).trans hx124_1
           replace hx124_2 := (HB.out.cell (World.block_lt_of_cell? w _ hx124_2)).trans hx124_2
           replace p124 := eq_true p124
           replace q124 := eq_true q124
           go_wp2_with (first | (go_at_call 24; (with_reducible refine (spec_DevIsWhole.calls kj1 ((rd_T55 l0_1 0).f0) ((rd_T55 l0_1 0).f1) ((rd_T55 l0_1 0).f2) true _ A35.out).mono ?_); rintro e w48 ⟨rfl, hb⟩; have n0_ := Aside0.mk (blk_below (g := gb115) (o := .cells #[.int .i64 a0_0, .slice (some ad124) l0_1.length c0_1] 29 (0, 0)) (by (with_reducible repeat first | apply kN | apply kD | apply kA); exact BK115.out) hb); have n1_ := Aside0.mk (below_step (by with_reducible repeat first | exact HB.out | apply bA | apply bN | apply bD | refine bS ?_ GE115.out) hb); clear BK115; clear HB; have BK115 := n0_; have HB := n1_; clear n0_ n1_; (try clear hb); (try clear hb2); (try clear hk); (try clear hi); obtain ⟨hcz49_0, hcz49_1, hfz49_0, hfz49_1⟩ := cz2 BK115.out; have p126 : 0 ≤ (1 : Int) := (by omega); have q126 : 1 < (l0_1.length : Int) := of_decide_eq_true (by first | (with_reducible assumption) | assumption); obtain ⟨ad126, e126, hx126_0, hx126_1, hx126_2⟩ := at_T55 HR0_1.out 1 p126 q126; obtain rfl : ad124 = ad126 := (by injection e126); (try simp only [show (1 : Int).toNat = 1 from rfl, Nat.reduceMul, Nat.reduceEqDiff, Go.Addr.add, ↓reduceIte] at hx126_0); (try simp only [show (1 : Int).toNat = 1 from rfl, Nat.reduceMul, Nat.reduceEqDiff, Go.Addr.add, ↓reduceIte] at hx126_1); (try simp only [show (1 : Int).toNat = 1 from rfl, Nat.reduceMul, Nat.reduceEqDiff, Go.Addr.add, ↓reduceIte] at hx126_2); have qi126 : (1 < l0_1.length) = True := eq_true (by omega); (try rw [show ((1 : Int)).toNat = 1 from rfl] at hx126_0); (try rw [show 1 * 3 = 3 from rfl] at hx126_0); (try rw [show ((1 : Int)).toNat = 1 from rfl] at hx126_1); (try rw [show 1 * 3 = 3 from rfl] at hx126_1); (try rw [show ((1 : Int)).toNat = 1 from rfl] at hx126_2); (try rw [show 1 * 3 = 3 from rfl] at hx126_2); replace hx126_0 := (HB.out.cell (World.block_lt_of_cell? w _ hx126_0)).trans hx126_0; replace hx126_1 := (HB.out.cell (World.block_lt_of_cell? w _ hx126_1)).trans hx126_1; replace hx126_2 := (HB.out.cell (World.block_lt_of_cell? w _ hx126_2)).trans hx126_2; replace p126 := eq_true p126; replace q126 := eq_true q126) | (go_at_call 24; (with_reducible refine (spec_DevIsWhole.calls kj1 ((rd_T55 l0_1 1).f0) ((rd_T55 l0_1 1).f1) ((rd_T55 l0_1 1).f2) false _ A38.out).mono ?_); rintro e w50 ⟨rfl, hb⟩; have n0_ := Aside0.mk (blk_below (g := gb115) (o := .cells #[.int .i64 a0_0, .slice (some ad124) l0_1.length c0_1] 29 (0, 0)) (by (with_reducible repeat first | apply kN | apply kD | apply kA); exact BK115.out) hb); have n1_ := Aside0.mk (below_step (by with_reducible repeat first | exact HB.out | apply bA | apply bN | apply bD | refine bS ?_ GE115.out) hb); clear BK115; clear HB; have BK115 := n0_; have HB := n1_; clear n0_ n1_; (try clear hb); (try clear hb2); (try clear hk); (try clear hi); obtain ⟨hcz51_0, hcz51_1, hfz51_0, hfz51_1⟩ := cz2 BK115.out; have p128 : 0 ≤ (0 : Int) := (by omega); have q128 : 0 < (l0_1.length : Int) := of_decide_eq_true (by first | (with_reducible assumption) | assumption); obtain ⟨ad128, e128, hx128_0, hx128_1, hx128_2⟩ := at_T55 HR0_1.out 0 p128 q128; obtain rfl : ad124 = ad128 := (by injection e128); have qi128 : (0 < l0_1.length) = True := eq_true (by omega); (try rw [show ((0 : Int)).toNat = 0 from rfl] at hx128_0); (try rw [show 0 * 3 = 0 from rfl] at hx128_0); (try rw [Addr.add_zero'] at hx128_0); (try rw [show ((0 : Int)).toNat = 0 from rfl] at hx128_1); (try rw [show 0 * 3 = 0 from rfl] at hx128_1); (try rw [Addr.add_zero'] at hx128_1); (try rw [show ((0 : Int)).toNat = 0 from rfl] at hx128_2); (try rw [show 0 * 3 = 0 from rfl] at hx128_2); (try rw [Addr.add_zero'] at hx128_2); replace hx128_0 := (HB.out.cell (World.block_lt_of_cell? w _ hx128_0)).trans hx128_0; replace hx128_1 := (HB.out.cell (World.block_lt_of_cell? w _ hx128_1)).trans hx128_1; replace hx128_2 := (HB.out.cell (World.block_lt_of_cell? w _ hx128_2)).trans hx128_2; replace p128 := eq_true p128; replace q128 := eq_true q128) | (go_at_call 43; (with_reducible refine (spec_DevIsReal.calls kj1 ((rd_T55 l0_1 0).f0) ((rd_T55 l0_1 0).f1) ((rd_T55 l0_1 0).f2) true _ A44.out).mono ?_); rintro e w52 ⟨rfl, hb⟩; have n0_ := Aside0.mk (blk_below (g := gb115) (o := .cells #[.int .i64 a0_0, .slice (some ad124) l0_1.length c0_1] 29 (0, 0)) (by (with_reducible repeat first | apply kN | apply kD | apply kA); exact BK115.out) hb); have n1_ := Aside0.mk (below_step (by with_reducible repeat first | exact HB.out | apply bA | apply bN | apply bD | refine bS ?_ GE115.out) hb); clear BK115; clear HB; have BK115 := n0_; have HB := n1_; clear n0_ n1_; (try clear hb); (try clear hb2); (try clear hk); (try clear hi); obtain ⟨hcz53_0, hcz53_1, hfz53_0, hfz53_1⟩ := cz2 BK115.out; have p130 : 0 ≤ (1 : Int) := (by omega); have q130 : 1 < (l0_1.length : Int) := of_decide_eq_true (by first | (with_reducible assumption) | assumption); obtain ⟨ad130, e130, hx130_0, hx130_1, hx130_2⟩ := at_T55 HR0_1.out 1 p130 q130; obtain rfl : ad124 = ad130 := (by injection e130); (try simp only [show (1 : Int).toNat = 1 from rfl, Nat.reduceMul, Nat.reduceEqDiff, Go.Addr.add, ↓reduceIte] at hx130_0); (try simp only [show (1 : Int).toNat = 1 from rfl, Nat.reduceMul, Nat.reduceEqDiff, Go.Addr.add, ↓reduceIte] at hx130_1); (try simp only [show (1 : Int).toNat = 1 from rfl, Nat.reduceMul, Nat.reduceEqDiff, Go.Addr.add, ↓reduceIte] at hx130_2); have qi130 : (1 < l0_1.length) = True := eq_true (by omega); (try rw [show ((1 : Int)).toNat = 1 from rfl] at hx130_0); (try rw [show 1 * 3 = 3 from rfl] at hx130_0); (try rw [show ((1 : Int)).toNat = 1 from rfl] at hx130_1); (try rw [show 1 * 3 = 3 from rfl] at hx130_1); (try rw [show ((1 : Int)).toNat = 1 from rfl] at hx130_2); (try rw [show 1 * 3 = 3 from rfl] at hx130_2); replace hx130_0 := (HB.out.cell (World.block_lt_of_cell? w _ hx130_0)).trans hx130_0; replace hx130_1 := (HB.out.cell (World.block_lt_of_cell? w _ hx130_1)).trans hx130_1; replace hx130_2 := (HB.out.cell (World.block_lt_of_cell? w _ hx130_2)).trans hx130_2; replace p130 := eq_true p130; replace q130 := eq_true q130) | (go_at_call 43; (with_reducible refine (spec_DevIsReal.calls kj1 ((rd_T55 l0_1 1).f0) ((rd_T55 l0_1 1).f1) ((rd_T55 l0_1 1).f2) t131 _ A46.out).mono ?_); rintro e w54 ⟨rfl, hb⟩; have n0_ := Aside0.mk (blk_below (g := gb115) (o := .cells #[.int .i64 a0_0, .slice (some ad124) l0_1.length c0_1] 29 (0, 0)) (by (with_reducible repeat first | apply kN | apply kD | apply kA); exact BK115.out) hb); have n1_ := Aside0.mk (below_step (by with_reducible repeat first | exact HB.out | apply bA | apply bN | apply bD | refine bS ?_ GE115.out) hb); clear BK115; clear HB; have BK115 := n0_; have HB := n1_; clear n0_ n1_; (try clear hb); (try clear hb2); (try clear hk); (try clear hi)))
           go_ret
           exact ⟨by first | rfl | (simp [errW_none, errW_some] <;> rfl) | (simp [*, errW_none, errW_some] <;> rfl), by repeat (first | (with_reducible first | exact HB.out | apply below_alloc | apply pw_below_drewN | apply below_drew1 | refine below_set ?_ GE115.out) | exact HB.out)⟩
          ·replace c45 := Bool.eq_false_iff.mpr c45
           subst c45
           have H1 : (some false) = some r := by rw [if_neg (show ¬ (false = true) by decide)] at H; exact H
           clear H
           have H := H1
           clear H1
           obtain rfl := Option.some.inj H
           obtain ⟨hcz55_0, hcz55_1, hfz55_0, hfz55_1⟩ := cz2 BK115.out
           have p124 : 0 ≤ (0 : Int) := (by omega)
           have q124 : 0 < (l0_1.length : Int) := of_decide_eq_true (by first | (with_reducible assumption) | assumption)
           obtain ⟨ad124, e124, hx124_0, hx124_1, hx124_2⟩ := at_T55 HR0_1.out 0 p124 q124
           cases e124
           have qi124 : (0 < l0_1.length) = True := eq_true (by omega)
           (try rw [show ((0 : Int)).toNat = 0 from rfl] at hx124_0)
           (try rw [show 0 * 3 = 0 from rfl] at hx124_0)
           (try rw [Addr.add_zero'] at hx124_0)
           (try rw [show ((0 : Int)).toNat = 0 from rfl] at hx124_1)
           (try rw [show 0 * 3 = 0 from rfl] at hx124_1)
           (try rw [Addr.add_zero'] at hx124_1)
           (try rw [show ((0 : Int)).toNat = 0 from rfl] at hx124_2)
           (try rw [show 0 * 3 = 0 from rfl] at hx124_2)
           (try rw [Addr.add_zero'] at hx124_2)
           replace hx124_0 := (HB.out.cell (World.block_lt_of_cell? w _ hx124_0)).trans hx124_0
           replace hx124_1 := (HB.out.cell (World.block_lt_of_cell? w _ hx124_1)).trans hx124_1
           replace hx124_2 := (HB.out.cell (World.block_lt_of_cell? w _ hx124_2)).trans hx124_2
           replace p124 := eq_true p124
           replace q124 := eq_true q124
           go_wp2_with (first | (go_at_call 24; (with_reducible refine (spec_DevIsWhole.calls kj1 ((rd_T55 l0_1 0).f0) ((rd_T55 l0_1 0).f1) ((rd_T55 l0_1 0).f2) true _ A35.out).mono ?_); rintro e w56 ⟨rfl, hb⟩; have n0_ := Aside0.mk (blk_below (g := gb115) (o := .cells #[.int .i64 a0_0, .slice (some ad124) l0_1.length c0_1] 29 (0, 0)) (by (with_reducible repeat first | apply kN | apply kD | apply kA); exact BK115.out) hb); have n1_ := Aside0.mk (below_step (by with_reducible repeat first | exact HB.out | apply bA | apply bN | apply bD | refine bS ?_ GE115.out) hb); clear BK115; clear HB; have BK115 := n0_; have HB := n1_; clear n0_ n1_; (try clear hb); (try clear hb2); (try clear hk); (try clear hi); obtain ⟨hcz57_0, hcz57_1, hfz57_0, hfz57_1⟩ := cz2 BK115.out; have p126 : 0 ≤ (1 : Int) := (by omega); have q126 : 1 < (l0_1.length : Int) := of_decide_eq_true (by first | (with_reducible assumption) | assumption); obtain ⟨ad126, e126, hx126_0, hx126_1, hx126_2⟩ := at_T55 HR0_1.out 1 p126 q126; obtain rfl : ad124 = ad126 := (by injection e126); (try simp only [show (1 : Int).toNat = 1 from rfl, Nat.reduceMul, Nat.reduceEqDiff, Go.Addr.add, ↓reduceIte] at hx126_0); (try simp only [show (1 : Int).toNat = 1 from rfl, Nat.reduceMul, Nat.reduceEqDiff, Go.Addr.add, ↓reduceIte] at hx126_1); (try simp only [show (1 : Int).toNat = 1 from rfl, Nat.reduceMul, Nat.reduceEqDiff, Go.Addr.add, ↓reduceIte] at hx126_2); have qi126 : (1 < l0_1.length) = True := eq_true (by omega); (try rw [show ((1 : Int)).toNat = 1 from rfl] at hx126_0); (try rw [show 1 * 3 = 3 from rfl] at hx126_0); (try rw [show ((1 : Int)).toNat = 1 from rfl] at hx126_1); (try rw [show 1 * 3 = 3 from rfl] at hx126_1); (try rw [show ((1 : Int)).toNat = 1 from rfl] at hx126_2); (try rw [show 1 * 3 = 3 from rfl] at hx126_2); replace hx126_0 := (HB.out.cell (World.block_lt_of_cell? w _ hx126_0)).trans hx126_0; replace hx126_1 := (HB.out.cell (World.block_lt_of_cell? w _ hx126_1)).trans hx126_1; replace hx126_2 := (HB.out.cell (World.block_lt_of_cell? w _ hx126_2)).trans hx126_2; replace p126 := eq_true p126; replace q126 := eq_true q126) | (go_at_call 24; (with_reducible refine (spec_DevIsWhole.calls kj1 ((rd_T55 l0_1 1).f0) ((rd_T55 l0_1 1).f1) ((rd_T55 l0_1 1).f2) false _ A38.out).mono ?_); rintro e w58 ⟨rfl, hb⟩; have n0_ := Aside0.mk (blk_below (g := gb115) (o := .cells #[.int .i64 a0_0, .slice (some ad124) l0_1.length c0_1] 29 (0, 0)) (by (with_reducible repeat first | apply kN | apply kD | apply kA); exact BK115.out) hb); have n1_ := Aside0.mk (below_step (by with_reducible repeat first | exact HB.out | apply bA | apply bN | apply bD | refine bS ?_ GE115.out) hb); clear BK115; clear HB; have BK115 := n0_; have HB := n1_; clear n0_ n1_; (try clear hb); (try clear hb2); (try clear hk); (try clear hi); obtain ⟨hcz59_0, hcz59_1, hfz59_0, hfz59_1⟩ := cz2 BK115.out; have p128 : 0 ≤ (0 : Int) := (by omega); have q128 : 0 < (l0_1.length : Int) := of_decide_eq_true (by first | (with_reducible assumption) | assumption); obtain ⟨ad128, e128, hx128_0, hx128_1, hx128_2⟩ := at_T55 HR0_1.out 0 p128 q128; obtain rfl : ad124 = ad128 := (by injection e128); have qi128 : (0 < l0_1.length) = True := eq_true (by omega); (try rw [show ((0 : Int)).toNat = 0 from rfl] at hx128_0); (try rw [show 0 * 3 = 0 from rfl] at hx128_0); (try rw [Addr.add_zero'] at hx128_0); (try rw [show ((0 : Int)).toNat = 0 from rfl] at hx128_1); (try rw [show 0 * 3 = 0 from rfl] at hx128_1); (try rw [Addr.add_zero'] at hx128_1); (try rw [show ((0 : Int)).toNat = 0 from rfl] at hx128_2); (try rw [show 0 * 3 = 0 from rfl] at hx128_2); (try rw [Addr.add_zero'] at hx128_2); replace hx128_0 := (HB.out.cell (World.block_lt_of_cell? w _ hx128_0)).trans hx128_0; replace hx128_1 := (HB.out.cell (World.block_lt_of_cell? w _ hx128_1)).trans hx128_1; replace hx128_2 := (HB.out.cell (World.block_lt_of_cell? w _ hx128_2)).trans hx128_2; replace p128 := eq_true p128; replace q128 := eq_true q128) | (go_at_call 43; (with_reducible refine (spec_DevIsReal.calls kj1 ((rd_T55 l0_1 0).f0) ((rd_T55 l0_1 0).f1) ((rd_T55 l0_1 0).f2) false _ A44.out).mono ?_); rintro e w60 ⟨rfl, hb⟩; have n0_ := Aside0.mk (blk_below (g := gb115) (o := .cells #[.int .i64 a0_0, .slice (some ad124) l0_1.length c0_1] 29 (0, 0)) (by (with_reducible repeat first | apply kN | apply kD | apply kA); exact BK115.out) hb); have n1_ := Aside0.mk (below_step (by with_reducible repeat first | exact HB.out | apply bA | apply bN | apply bD | refine bS ?_ GE115.out) hb); clear BK115; clear HB; have BK115 := n0_; have HB := n1_; clear n0_ n1_; (try clear hb); (try clear hb2); (try clear hk); (try clear hi)))
           go_ret
           exact ⟨by first | rfl | (simp [errW_none, errW_some] <;> rfl) | (simp [*, errW_none, errW_some] <;> rfl), by repeat (first | (with_reducible first | exact HB.out | apply below_alloc | apply pw_below_drewN | apply below_drew1 | refine below_set ?_ GE115.out) | exact HB.out)⟩
        ·rw [if_neg c37] at H
         exact absurd H (by simp)
       ·replace c36 := Bool.eq_false_iff.mpr c36
        subst c36
        have H1 : ((spec_DevIsReal.f kj1 ((rd_T55 l0_1 0).f0) ((rd_T55 l0_1 0).f1) ((rd_T55 l0_1 0).f2)).bind fun t133 => (if t133 = true then (if 1 < (l0_1.length : Int) then ((spec_DevIsReal.f kj1 ((rd_T55 l0_1 1).f0) ((rd_T55 l0_1 1).f1) ((rd_T55 l0_1 1).f2)).bind fun t135 => (some t135)) else (none)) else (some false))) = some r := by rw [if_neg (show ¬ (false = true) by decide)] at H; exact H
        clear H
        have H := H1
        clear H1
        replace H := Option.bind_eq_some_iff.mp H
        obtain ⟨t133, A610, H⟩ := H
        replace H : (if t133 = true then (if 1 < (l0_1.length : Int) then ((spec_DevIsReal.f kj1 ((rd_T55 l0_1 1).f0) ((rd_T55 l0_1 1).f1) ((rd_T55 l0_1 1).f2)).bind fun t135 => (some t135)) else (none)) else (some false)) = some r := H
        have A61 := Aside0.mk A610
        clear A610
        by_cases c62 : t133 = true
        ·subst c62
         have H1 : (if 1 < (l0_1.length : Int) then ((spec_DevIsReal.f kj1 ((rd_T55 l0_1 1).f0) ((rd_T55 l0_1 1).f1) ((rd_T55 l0_1 1).f2)).bind fun t135 => (some t135)) else (none)) = some r := by rw [if_pos rfl] at H; exact H
         clear H
         have H := H1
         clear H1
         by_cases c63 : 1 < (l0_1.length : Int)
         ·rw [if_pos c63] at H
          have c63b0 : decide (1 < (l0_1.length : Int)) = true := decide_eq_true c63
          have c63b1 : decide (1 < l0_1.length) = true := decide_eq_true (by omega)
          clear c63
          replace H := Option.bind_eq_some_iff.mp H
          obtain ⟨t135, A640, H⟩ := H
          replace H : (some t135) = some r := H
          have A64 := Aside0.mk A640
          clear A640
          obtain rfl := Option.some.inj H
          obtain ⟨hcz65_0, hcz65_1, hfz65_0, hfz65_1⟩ := cz2 BK115.out
          have p124 : 0 ≤ (0 : Int) := (by omega)
          have q124 : 0 < (l0_1.length : Int) := of_decide_eq_true (by first | (with_reducible assumption) | assumption)
          obtain ⟨ad124, e124, hx124_0, hx124_1, hx124_2⟩ := at_T55 HR0_1.out 0 p124 q124
          cases e124
          have qi124 : (0 < l0_1.length) = True := eq_true (by omega)
          (try rw [show ((0 : Int)).toNat = 0 from rfl] at hx124_0)
          (try rw [show 0 * 3 = 0 from rfl] at hx124_0)
          (try rw [Addr.add_zero'] at hx124_0)
          (try rw [show ((0 : Int)).toNat = 0 from rfl] at hx124_1)
          (try rw [show 0 * 3 = 0 from rfl] at hx124_1)
          (try rw [Addr.add_zero'] at hx124_1)
          (try rw [show ((0 : Int)).toNat = 0 from rfl] at hx124_2)
          (try rw [show 0 * 3 = 0 from rfl] at hx124_2)
          (try rw [Addr.add_zero'] at hx124_2)
          replace hx124_0 := (HB.out.cell (World.block_lt_of_cell? w _ hx124_0)).trans hx124_0
          replace hx124_1 := (HB.out.cell (World.block_lt_of_cell? w _ hx124_1)).trans hx124_1
          replace hx124_2 := (HB.out.cell (World.block_lt_of_cell? w _ hx124_2)).trans hx124_2
          replace p124 := eq_true p124
          replace q124 := eq_true q124
          go_wp2_with (first | (go_at_call 24; (with_reducible refine (spec_DevIsWhole.calls kj1 ((rd_T55 l0_1 0).f0) ((rd_T55 l0_1 0).f1) ((rd_T55 l0_1 0).f2) false _ A35.out).mono ?_); rintro e w66 ⟨rfl, hb⟩; have n0_ := Aside0.mk (blk_below (g := gb115) (o := .cells #[.int .i64 a0_0, .slice (some ad124) l0_1.length c0_1] 29 (0, 0)) (by (with_reducible repeat first | apply kN | apply kD | apply kA); exact BK115.out) hb); have n1_ := Aside0.mk (below_step (by with_reducible repeat first | exact HB.out | apply bA | apply bN | apply bD | refine bS ?_ GE115.out) hb); clear BK115; clear HB; have BK115 := n0_; have HB := n1_; clear n0_ n1_; (try clear hb); (try clear hb2); (try clear hk); (try clear hi); obtain ⟨hcz67_0, hcz67_1, hfz67_0, hfz67_1⟩ := cz2 BK115.out; have p132 : 0 ≤ (0 : Int) := (by omega); have q132 : 0 < (l0_1.length : Int) := of_decide_eq_true (by first | (with_reducible assumption) | assumption); obtain ⟨ad132, e132, hx132_0, hx132_1, hx132_2⟩ := at_T55 HR0_1.out 0 p132 q132; obtain rfl : ad124 = ad132 := (by injection e132); have qi132 : (0 < l0_1.length) = True := eq_true (by omega); (try rw [show ((0 : Int)).toNat = 0 from rfl] at hx132_0); (try rw [show 0 * 3 = 0 from rfl] at hx132_0); (try rw [Addr.add_zero'] at hx132_0); (try rw [show ((0 : Int)).toNat = 0 from rfl] at hx132_1); (try rw [show 0 * 3 = 0 from rfl] at hx132_1); (try rw [Addr.add_zero'] at hx132_1); (try rw [show ((0 : Int)).toNat = 0 from rfl] at hx132_2); (try rw [show 0 * 3 = 0 from rfl] at hx132_2); (try rw [Addr.add_zero'] at hx132_2); replace hx132_0 := (HB.out.cell (World.block_lt_of_cell? w _ hx132_0)).trans hx132_0; replace hx132_1 := (HB.out.cell (World.block_lt_of_cell? w _ hx132_1)).trans hx132_1; replace hx132_2 := (HB.out.cell (World.block_lt_of_cell? w _ hx132_2)).trans hx132_2; replace p132 := eq_true p132; replace q132 := eq_true q132) | (go_at_call 43; (with_reducible refine (spec_DevIsReal.calls kj1 ((rd_T55 l0_1 0).f0) ((rd_T55 l0_1 0).f1) ((rd_T55 l0_1 0).f2) true _ A61.out).mono ?_); rintro e w68 ⟨rfl, hb⟩; have n0_ := Aside0.mk (blk_below (g := gb115) (o := .cells #[.int .i64 a0_0, .slice (some ad124) l0_1.length c0_1] 29 (0, 0)) (by (with_reducible repeat first | apply kN | apply kD | apply kA); exact BK115.out) hb); have n1_ := Aside0.mk (below_step (by with_reducible repeat first | exact HB.out | apply bA | apply bN | apply bD | refine bS ?_ GE115.out) hb); clear BK115; clear HB; have BK115 := n0_; have HB := n1_; clear n0_ n1_; (try clear hb); (try clear hb2); (try clear hk); (try clear hi); obtain ⟨hcz69_0, hcz69_1, hfz69_0, hfz69_1⟩ := cz2 BK115.out; have p134 : 0 ≤ (1 : Int) := (by omega); have q134 : 1 < (l0_1.length : Int) := of_decide_eq_true (by first | (with_reducible assumption) | assumption); obtain ⟨ad134, e134, hx134_0, hx134_1, hx134_2⟩ := at_T55 HR0_1.out 1 p134 q134; obtain rfl : ad124 = ad134 := (by injection e134); (try simp only [show (1 : Int).toNat = 1 from rfl, Nat.reduceMul, Nat.reduceEqDiff, Go.Addr.add, ↓reduceIte] at hx134_0); (try simp only [show (1 : Int).toNat = 1 from rfl, Nat.reduceMul, Nat.reduceEqDiff, Go.Addr.add, ↓reduceIte] at hx134_1); (try simp only [show (1 : Int).toNat = 1 from rfl, Nat.reduceMul, Nat.reduceEqDiff, Go.Addr.add, ↓reduceIte] at hx134_2); have qi134 : (1 < l0_1.length) = True := eq_true (by omega); (try rw [show ((1 : Int)).toNat = 1 from rfl] at hx134_0); (try rw [show 1 * 3 = 3 from rfl] at hx134_0); (try rw [show ((1 : Int)).toNat = 1 from rfl] at hx134_1); (try rw [show 1 * 3 = 3 from rfl] at hx134_1); (try rw [show ((1 : Int)).toNat = 1 from rfl] at hx134_2); (try rw [show 1 * 3 = 3 from rfl] at hx134_2); replace hx134_0 := (HB.out.cell (World.block_lt_of_cell? w _ hx134_0)).trans hx134_0; replace hx134_1 := (HB.out.cell (World.block_lt_of_cell? w _ hx134_1)).trans hx134_1; replace hx134_2 := (HB.out.cell (World.block_lt_of_cell? w _ hx134_2)).trans hx134_2; replace p134 := eq_true p134; replace q134 := eq_true q134) | (go_at_call 43; (with_reducible refine (spec_DevIsReal.calls kj1 ((rd_T55 l0_1 1).f0) ((rd_T55 l0_1 1).f1) ((rd_T55 l0_1 1).f2) t135 _ A64.out).mono ?_); rintro e w70 ⟨rfl, hb⟩; have n0_ := Aside0.mk (blk_below (g := gb115) (o := .cells #[.int .i64 a0_0, .slice (some ad124) l0_1.length c0_1] 29 (0, 0)) (by (with_reducible repeat first | apply kN | apply kD | apply kA); exact BK115.out) hb); have n1_ := Aside0.mk (below_step (by with_reducible repeat first | exact HB.out | apply bA | apply bN | apply bD | refine bS ?_ GE115.out) hb); clear BK115; clear HB; have BK115 := n0_; have HB := n1_; clear n0_ n1_; (try clear hb); (try clear hb2); (try clear hk); (try clear hi)))
          go_ret
          exact ⟨by first | rfl | (simp [errW_none, errW_some] <;> rfl) | (simp [*, errW_none, errW_some] <;> rfl), by repeat (first | (with_reducible first | exact HB.out | apply below_alloc | apply pw_below_drewN | apply below_drew1 | refine below_set ?_ GE115.out) | exact HB.out)⟩
         ·rw [if_neg c63] at H
          exact absurd H (by simp)
        ·replace c62 := Bool.eq_false_iff.mpr c62
         subst c62
         have H1 : (some false) = some r := by rw [if_neg (show ¬ (false = true) by decide)] at H; exact H
         clear H
         have H := H1
         clear H1
         obtain rfl := Option.some.inj H
         obtain ⟨hcz71_0, hcz71_1, hfz71_0, hfz71_1⟩ := cz2 BK115.out
         have p124 : 0 ≤ (0 : Int) := (by omega)
         have q124 : 0 < (l0_1.length : Int) := of_decide_eq_true (by first | (with_reducible assumption) | assumption)
         obtain ⟨ad124, e124, hx124_0, hx124_1, hx124_2⟩ := at_T55 HR0_1.out 0 p124 q124
         cases e124
         have qi124 : (0 < l0_1.length) = True := eq_true (by omega)
         (try rw [show ((0 : Int)).toNat = 0 from rfl] at hx124_0)
         (try rw [show 0 * 3 = 0 from rfl] at hx124_0)
         (try rw [Addr.add_zero'] at hx124_0)
         (try rw [show ((0 : Int)).toNat = 0 from rfl] at hx124_1)
         (try rw [show 0 * 3 = 0 from rfl] at hx124_1)
         (try rw [Addr.add_zero'] at hx124_1)
         (try rw [show ((0 : Int)).toNat = 0 from rfl] at hx124_2)
         (try rw [show 0 * 3 = 0 from rfl] at hx124_2)
         (try rw [Addr.add_zero'] at hx124_2)
         replace hx124_0 := (HB.out.cell (World.block_lt_of_cell? w _ hx124_0)).trans hx124_0
         replace hx124_1 := (HB.out.cell (World.block_lt_of_cell? w _ hx124_1)).trans hx124_1
         replace hx124_2 := (HB.out.cell (World.block_lt_of_cell? w _ hx124_2)).trans hx124_2
         replace p124 := eq_true p124
         replace q124 := eq_true q124
         go_wp2_with (first | (go_at_call 24; (with_reducible refine (spec_DevIsWhole.calls kj1 ((rd_T55 l0_1 0).f0) ((rd_T55 l0_1 0).f1) ((rd_T55 l0_1 0).f2) false _ A35.out).mono ?_); rintro e w72 ⟨rfl, hb⟩; have n0_ := Aside0.mk (blk_below (g := gb115) (o := .cells #[.int .i64 a0_0, .slice (some ad124) l0_1.length c0_1] 29 (0, 0)) (by (with_reducible repeat first | apply kN | apply kD | apply kA); exact BK115.out) hb); have n1_ := Aside0.mk (below_step (by with_reducible repeat first | exact HB.out | apply bA | apply bN | apply bD | refine bS ?_ GE115.out) hb); clear BK115; clear HB; have BK115 := n0_; have HB := n1_; clear n0_ n1_; (try clear hb); (try clear hb2); (try clear hk); (try clear hi); obtain ⟨hcz73_0, hcz73_1, hfz73_0, hfz73_1⟩ := cz2 BK115.out; have p132 : 0 ≤ (0 : Int) := (by omega); have q132 : 0 < (l0_1.length : Int) := of_decide_eq_true (by first | (with_reducible assumption) | assumption); obtain ⟨ad132, e132, hx132_0, hx132_1, hx132_2⟩ := at_T55 HR0_1.out 0 p132 q132; obtain rfl : ad124 = ad132 := (by injection e132); have qi132 : (0 < l0_1.length) = True := eq_true (by omega); (try rw [show ((0 : Int)).toNat = 0 from rfl] at hx132_0); (try rw [show 0 * 3 = 0 from rfl] at hx132_0); (try rw [Addr.add_zero'] at hx132_0); (try rw [show ((0 : Int)).toNat = 0 from rfl] at hx132_1); (try rw [show 0 * 3 = 0 from rfl] at hx132_1); (try rw [Addr.add_zero'] at hx132_1); (try rw [show ((0 : Int)).toNat = 0 from rfl] at hx132_2); (try rw [show 0 * 3 = 0 from rfl] at hx132_2); (try rw [Addr.add_zero'] at hx132_2); replace hx132_0 := (HB.out.cell (World.block_lt_of_cell? w _ hx132_0)).trans hx132_0; replace hx132_1 := (HB.out.cell (World.block_lt_of_cell? w _ hx132_1)).trans hx132_1; replace hx132_2 := (HB.out.cell (World.block_lt_of_cell? w _ hx132_2)).trans hx132_2; replace p132 := eq_true p132; replace q132 := eq_true q132) | (go_at_call 43; (with_reducible refine (spec_DevIsReal.calls kj1 ((rd_T55 l0_1 0).f0) ((rd_T55 l0_1 0).f1) ((rd_T55 l0_1 0).f2) false _ A61.out).mono ?_); rintro e w74 ⟨rfl, hb⟩; have n0_ := Aside0.mk (blk_below (g := gb115) (o := .cells #[.int .i64 a0_0, .slice (some ad124) l0_1.length c0_1] 29 (0, 0)) (by (with_reducible repeat first | apply kN | apply kD | apply kA); exact BK115.out) hb); have n1_ := Aside0.mk (below_step (by with_reducible repeat first | exact HB.out | apply bA | apply bN | apply bD | refine bS ?_ GE115.out) hb); clear BK115; clear HB; have BK115 := n0_; have HB := n1_; clear n0_ n1_; (try clear hb); (try clear hb2); (try clear hk); (try clear hi)))
         go_ret
         exact ⟨by first | rfl | (simp [errW_none, errW_some] <;> rfl) | (simp [*, errW_none, errW_some] <;> rfl), by repeat (first | (with_reducible first | exact HB.out | apply below_alloc | apply pw_below_drewN | apply below_drew1 | refine below_set ?_ GE115.out) | exact HB.out)⟩
      ·rw [if_neg c34] at H
       exact absurd H (by simp)

end Go.Proofs.YtkmfdlcmdgdepaaDoor.U
