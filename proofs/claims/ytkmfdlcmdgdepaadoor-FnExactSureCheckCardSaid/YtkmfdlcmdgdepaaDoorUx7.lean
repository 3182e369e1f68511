/- Functions of this seat as Lean functions, and that the Go code comes to their answers: laid by a program (the kit's printer over all laws of the seat at once, some walks turned by the session's own fix.py). -/
import Derived.Test.YtkmfdlcmdgdepaaDoorUx0
import Derived.Test.YtkmfdlcmdgdepaaDoorUx3
import Derived.Test.YtkmfdlcmdgdepaaDoorUx5
namespace Go.Proofs.YtkmfdlcmdgdepaaDoor.U
open Go.RowKit Go.Proofs.YtkmfdlcmdgdepaaDoorW.PrintWords Go.Proofs.YtkmfdlcmdgdepaaDoorW.PrintLast Go.Proofs.YtkmfdlcmdgdepaaDoorW.PrintMore
attribute [local go_sem] max2_int min2_int max_two min_two max_three min_three max_four min_four   -- for this text's walks alone
set_option linter.unusedVariables false
set_option linter.unusedSimpArgs false

/-! ### spec_l4Kind: function 53 -/
def spec_l4Kind.f (k : Nat) (a0_0 : Int) (a0_1 : Int) (a0_2 : Int) (a1 : Int) (a2 : Int) : Option (Bool) := (spec_DevOk.f k a0_0 a0_1 a0_2).bind fun t137 => (if t137 = true then (if a0_0 = a1 then (some true) else (some (a0_0 == a2))) else (some false))
set_option maxHeartbeats 8000000 in
set_option maxRecDepth 100000 in
theorem spec_l4Kind.calls (k : Nat) (a0_0 : Int) (a0_1 : Int) (a0_2 : Int) (a1 : Int) (a2 : Int) (r : Bool) (w : World) (h : spec_l4Kind.f k a0_0 a0_1 a0_2 a1 a2 = some r) :
  Calls Tryd.prog 53 #[.agg #[.int .i64 a0_0, .int .i64 a0_1, .int .i64 a0_2], .int .i64 a1, .int .i64 a2] w fun e w' => e = .returned (.bool r) ∧ Below w.heap.size w w' := by
 have hu55 := Tryd.underlying55
 have HB := Aside0.mk (Below.refl w.heap.size w)
 have H : ((spec_DevOk.f k a0_0 a0_1 a0_2).bind fun t137 => (if t137 = true then (if a0_0 = a1 then (some true) else (some (a0_0 == a2))) else (some false))) = some r := h
 clear h
 replace H := Option.bind_eq_some_iff.mp H
 obtain ⟨t137, A40, H⟩ := H
 replace H : (if t137 = true then (if a0_0 = a1 then (some true) else (some (a0_0 == a2))) else (some false)) = some r := H
 have A4 := Aside0.mk A40
 clear A40
 by_cases c5 : t137 = true
 ·subst c5
  have H1 : (if a0_0 = a1 then (some true) else (some (a0_0 == a2))) = some r := by rw [if_pos rfl] at H; exact H
  clear H
  have H := H1
  clear H1
  by_cases c6 : a0_0 = a1
  ·rw [if_pos c6] at H
   have c6b0 : (a0_0 == a1) = true := beq_iff_eq.mpr c6
   have c6b1 : (a0_0 != a1) = false := bne_eq_false_iff_eq.mpr c6
   clear c6
   obtain rfl := Option.some.inj H
   go_enter Tryd.func53, Tryd.ntmps53
   go_wp2_with (first | ((with_reducible refine gate_dst (N := 3) rfl ?_); refine box_event ?hg (N := 3) ?hd (cs := #[.int .i64 a0_0, .int .i64 a0_1, .int .i64 a0_2]) (t := 55) ?hr ?_; (case hd => rfl); (case hg => rfl); (case hr => first | (go_simp; done) | (go_simp; rfl)); intro gb136 hg w7 hbox hb; obtain ⟨n0_, n2_⟩ := two_ (by with_reducible repeat first | exact HB.out | apply bA | apply bN | apply bD) hb hg; have n1_ := Aside0.mk hbox; have n3_ := n2_; clear HB; have HB := n0_; have BK136 := n1_; have GE136 := n3_; clear n0_ n1_ n2_ n3_; clear hb hbox hg; obtain ⟨hcz8_0, hcz8_1, hcz8_2, hfz8_0, hfz8_1, hfz8_2⟩ := cz3 BK136.out) | ((with_reducible refine gate_callee (f := 42) rfl ?_); refine goesL_ (some 8) rfl rfl Tryd.func42 (by kernel_rfl) rfl #[.agg #[.int .i64 a0_0, .int .i64 a0_1, .int .i64 a0_2]] rfl (by (try simp only [List.map_toArray, List.map_cons, List.map_nil]); first | done | rfl | (simp only [List.length_drop, List.length_take]; rfl)) ?_; (with_reducible refine (spec_DevOk.calls k a0_0 a0_1 a0_2 true _ A4.out).mono ?_); rintro e w9 ⟨rfl, hb⟩; refine ⟨_, rfl, ?_⟩; have n0_ := Aside0.mk (blk_below (g := gb136) (o := .cells #[.int .i64 a0_0, .int .i64 a0_1, .int .i64 a0_2] 55 (0, 0)) (by (with_reducible repeat first | apply kN | apply kD | apply kA); exact BK136.out) hb); have n1_ := Aside0.mk (below_step (by with_reducible repeat first | exact HB.out | apply bA | apply bN | apply bD | refine bS ?_ GE136.out) hb); clear BK136; clear HB; have BK136 := n0_; have HB := n1_; clear n0_ n1_; (try clear hb); (try clear hb2); (try clear hk); (try clear hi); obtain ⟨hcz10_0, hcz10_1, hcz10_2, hfz10_0, hfz10_1, hfz10_2⟩ := cz3 BK136.out))
   go_ret
   exact ⟨by first | rfl | (simp [errW_none, errW_some] <;> rfl) | (simp [*, errW_none, errW_some] <;> rfl), by repeat (first | (with_reducible first | exact HB.out | apply below_alloc | apply pw_below_drewN | apply below_drew1 | refine below_set ?_ GE136.out) | exact HB.out)⟩
  ·rw [if_neg c6] at H
   have c6b0 : (a0_0 == a1) = false := beq_eq_false_iff_ne.mpr c6
   have c6b1 : (a0_0 != a1) = true := bne_iff_ne.mpr c6
   obtain rfl := Option.some.inj H
   go_enter Tryd.func53, Tryd.ntmps53
   go_wp2_with (first | ((with_reducible refine gate_dst (N := 3) rfl ?_); refine box_event ?hg (N := 3) ?hd (cs := #[.int .i64 a0_0, .int .i64 a0_1, .int .i64 a0_2]) (t := 55) ?hr ?_; (case hd => rfl); (case hg => rfl); (case hr => first | (go_simp; done) | (go_simp; rfl)); intro gb136 hg w11 hbox hb; obtain ⟨n0_, n2_⟩ := two_ (by with_reducible repeat first | exact HB.out | apply bA | apply bN | apply bD) hb hg; have n1_ := Aside0.mk hbox; have n3_ := n2_; clear HB; have HB := n0_; have BK136 := n1_; have GE136 := n3_; clear n0_ n1_ n2_ n3_; clear hb hbox hg; obtain ⟨hcz12_0, hcz12_1, hcz12_2, hfz12_0, hfz12_1, hfz12_2⟩ := cz3 BK136.out) | ((with_reducible refine gate_callee (f := 42) rfl ?_); refine goesL_ (some 8) rfl rfl Tryd.func42 (by kernel_rfl) rfl #[.agg #[.int .i64 a0_0, .int .i64 a0_1, .int .i64 a0_2]] rfl (by (try simp only [List.map_toArray, List.map_cons, List.map_nil]); first | done | rfl | (simp only [List.length_drop, List.length_take]; rfl)) ?_; (with_reducible refine (spec_DevOk.calls k a0_0 a0_1 a0_2 true _ A4.out).mono ?_); rintro e w13 ⟨rfl, hb⟩; refine ⟨_, rfl, ?_⟩; have n0_ := Aside0.mk (blk_below (g := gb136) (o := .cells #[.int .i64 a0_0, .int .i64 a0_1, .int .i64 a0_2] 55 (0, 0)) (by (with_reducible repeat first | apply kN | apply kD | apply kA); exact BK136.out) hb); have n1_ := Aside0.mk (below_step (by with_reducible repeat first | exact HB.out | apply bA | apply bN | apply bD | refine bS ?_ GE136.out) hb); clear BK136; clear HB; have BK136 := n0_; have HB := n1_; clear n0_ n1_; (try clear hb); (try clear hb2); (try clear hk); (try clear hi); obtain ⟨hcz14_0, hcz14_1, hcz14_2, hfz14_0, hfz14_1, hfz14_2⟩ := cz3 BK136.out))
   go_ret
   exact ⟨by first | rfl | (simp [errW_none, errW_some] <;> rfl) | (simp [*, errW_none, errW_some] <;> rfl), by repeat (first | (with_reducible first | exact HB.out | apply below_alloc | apply pw_below_drewN | apply below_drew1 | refine below_set ?_ GE136.out) | exact HB.out)⟩
 ·replace c5 := Bool.eq_false_iff.mpr c5
  subst c5
  have H1 : (some false) = some r := by rw [if_neg (show ¬ (false = true) by decide)] at H; exact H
  clear H
  have H := H1
  clear H1
  obtain rfl := Option.some.inj H
  go_enter Tryd.func53, Tryd.ntmps53
  go_wp2_with (first | ((with_reducible refine gate_dst (N := 3) rfl ?_); refine box_event ?hg (N := 3) ?hd (cs := #[.int .i64 a0_0, .int .i64 a0_1, .int .i64 a0_2]) (t := 55) ?hr ?_; (case hd => rfl); (case hg => rfl); (case hr => first | (go_simp; done) | (go_simp; rfl)); intro gb136 hg w15 hbox hb; obtain ⟨n0_, n2_⟩ := two_ (by with_reducible repeat first | exact HB.out | apply bA | apply bN | apply bD) hb hg; have n1_ := Aside0.mk hbox; have n3_ := n2_; clear HB; have HB := n0_; have BK136 := n1_; have GE136 := n3_; clear n0_ n1_ n2_ n3_; clear hb hbox hg; obtain ⟨hcz16_0, hcz16_1, hcz16_2, hfz16_0, hfz16_1, hfz16_2⟩ := cz3 BK136.out) | ((with_reducible refine gate_callee (f := 42) rfl ?_); refine goesL_ (some 8) rfl rfl Tryd.func42 (by kernel_rfl) rfl #[.agg #[.int .i64 a0_0, .int .i64 a0_1, .int .i64 a0_2]] rfl (by (try simp only [List.map_toArray, List.map_cons, List.map_nil]); first | done | rfl | (simp only [List.length_drop, List.length_take]; rfl)) ?_; (with_reducible refine (spec_DevOk.calls k a0_0 a0_1 a0_2 false _ A4.out).mono ?_); rintro e w17 ⟨rfl, hb⟩; refine ⟨_, rfl, ?_⟩; have n0_ := Aside0.mk (blk_below (g := gb136) (o := .cells #[.int .i64 a0_0, .int .i64 a0_1, .int .i64 a0_2] 55 (0, 0)) (by (with_reducible repeat first | apply kN | apply kD | apply kA); exact BK136.out) hb); have n1_ := Aside0.mk (below_step (by with_reducible repeat first | exact HB.out | apply bA | apply bN | apply bD | refine bS ?_ GE136.out) hb); clear BK136; clear HB; have BK136 := n0_; have HB := n1_; clear n0_ n1_; (try clear hb); (try clear hb2); (try clear hk); (try clear hi)))
  go_ret
  exact ⟨by first | rfl | (simp [errW_none, errW_some] <;> rfl) | (simp [*, errW_none, errW_some] <;> rfl), by repeat (first | (with_reducible first | exact HB.out | apply below_alloc | apply pw_below_drewN | apply below_drew1 | refine below_set ?_ GE136.out) | exact HB.out)⟩

/-! ### spec_l4Calc: function 54 -/
def spec_l4Calc.l0 : Nat → Bool → Int → Int → List (S55) → Option (Bool)
 | 0, _, _, _, _ => none
 | k + 1, x3, x4, x139000, x139001 => if x4 < (x139001.length : Int) then (if x3 = true then (if 0 ≤ x4 then ((spec_DevIsWhole.f k ((rd_T55 x139001 x4).f0) ((rd_T55 x139001 x4).f1) ((rd_T55 x139001 x4).f2)).bind fun t143 => (if t143 = true then (spec_l4Calc.l0 k x3 (wrap64 (x4 + 1)) x139000 x139001) else (some false))) else (none)) else (if 0 ≤ x4 then ((spec_DevIsReal.f k ((rd_T55 x139001 x4).f0) ((rd_T55 x139001 x4).f1) ((rd_T55 x139001 x4).f2)).bind fun t145 => (if t145 = true then (spec_l4Calc.l0 k x3 (wrap64 (x4 + 1)) x139000 x139001) else (some false))) else (none))) else (if x3 = true then (some true) else (some (x139000 != 35)))
def spec_l4Calc.f (k : Nat) (a0_0 : Int) (l0_1 : List (S55)) : Option (Bool) := if 0 < (l0_1.length : Int) then ((spec_l4Kind.f k ((rd_T55 l0_1 0).f0) ((rd_T55 l0_1 0).f1) ((rd_T55 l0_1 0).f2) 9 10).bind fun t140 => (if t140 = true then (spec_l4Calc.l0 k (((rd_T55 l0_1 0).f0) == 9) 1 a0_0 l0_1) else (some false))) else (none)
set_option maxHeartbeats 8000000 in
set_option maxRecDepth 100000 in
theorem spec_l4Calc.calls (k : Nat) (a0_0 : Int) (A0_1 : Option Addr) (c0_1 : Nat) (l0_1 : List (S55)) (r : Bool) (w : World) (hr0_1 : Kd.C k55 w A0_1 l0_1.length l0_1) (hc0_1 : l0_1.length ≤ c0_1) (h : spec_l4Calc.f k a0_0 l0_1 = some r) :
  Calls Tryd.prog 54 #[.agg #[.int .i64 a0_0, .slice A0_1 l0_1.length c0_1]] w fun e w' => e = .returned (.bool r) ∧ Below w.heap.size w w' := by
 have hu29 := Tryd.underlying29
 have hu55 := Tryd.underlying55
 have HR0_1 := Aside0.mk hr0_1
 have HC0_1 := Aside0.mk hc0_1
 clear hr0_1 hc0_1
 have HB := Aside0.mk (Below.refl w.heap.size w)
 have H : (if 0 < (l0_1.length : Int) then ((spec_l4Kind.f k ((rd_T55 l0_1 0).f0) ((rd_T55 l0_1 0).f1) ((rd_T55 l0_1 0).f2) 9 10).bind fun t140 => (if t140 = true then (spec_l4Calc.l0 k (((rd_T55 l0_1 0).f0) == 9) 1 a0_0 l0_1) else (some false))) else (none)) = some r := h
 clear h
 by_cases c2 : 0 < (l0_1.length : Int)
 ·rw [if_pos c2] at H
  have c2b0 : decide (0 < (l0_1.length : Int)) = true := decide_eq_true c2
  have c2b1 : decide (0 < l0_1.length) = true := decide_eq_true (by omega)
  clear c2
  replace H := Option.bind_eq_some_iff.mp H
  obtain ⟨t140, A30, H⟩ := H
  replace H : (if t140 = true then (spec_l4Calc.l0 k (((rd_T55 l0_1 0).f0) == 9) 1 a0_0 l0_1) else (some false)) = some r := H
  have A3 := Aside0.mk A30
  clear A30
  by_cases c4 : t140 = true
  ·subst c4
   have H1 : (spec_l4Calc.l0 k (((rd_T55 l0_1 0).f0) == 9) 1 a0_0 l0_1) = some r := by rw [if_pos rfl] at H; exact H
   clear H
   have H := H1
   clear H1
   have H' := Aside0.mk H
   clear H
   go_enter Tryd.func54, Tryd.ntmps54
   go_wp2_with (first | ((with_reducible refine gate_dst (N := 1) rfl ?_); refine box_event ?hg (N := 1) ?hd (cs := #[.int .i64 a0_0, .slice A0_1 l0_1.length c0_1]) (t := 29) ?hr ?_; (case hd => rfl); (case hg => rfl); (case hr => first | (go_simp; done) | (go_simp; rfl)); intro gb138 hg w5 hbox hb; obtain ⟨n0_, n2_⟩ := two_ (by with_reducible repeat first | exact HB.out | apply bA | apply bN | apply bD) hb hg; have n1_ := Aside0.mk hbox; have n3_ := n2_; clear HB; have HB := n0_; have BK138 := n1_; have GE138 := n3_; clear n0_ n1_ n2_ n3_; clear hb hbox hg; obtain ⟨hcz6_0, hcz6_1, hfz6_0, hfz6_1⟩ := cz2 BK138.out; have p139 : 0 ≤ (0 : Int) := (by omega); have q139 : 0 < (l0_1.length : Int) := of_decide_eq_true (by first | (with_reducible assumption) | assumption); obtain ⟨ad139, e139, hx139_0, hx139_1, hx139_2⟩ := at_T55 HR0_1.out 0 p139 q139; cases e139; have qi139 : (0 < l0_1.length) = True := eq_true (by omega); (try rw [show ((0 : Int)).toNat = 0 from rfl] at hx139_0); (try rw [show 0 * 3 = 0 from rfl] at hx139_0); (try rw [Addr.add_zero'] at hx139_0); (try rw [show ((0 : Int)).toNat = 0 from rfl] at hx139_1); (try rw [show 0 * 3 = 0 from rfl] at hx139_1); (try rw [Addr.add_zero'] at hx139_1); (try rw [show ((0 : Int)).toNat = 0 from rfl] at hx139_2); (try rw [show 0 * 3 = 0 from rfl] at hx139_2); (try rw [Addr.add_zero'] at hx139_2); replace hx139_0 := (HB.out.cell (World.block_lt_of_cell? w _ hx139_0)).trans hx139_0; replace hx139_1 := (HB.out.cell (World.block_lt_of_cell? w _ hx139_1)).trans hx139_1; replace hx139_2 := (HB.out.cell (World.block_lt_of_cell? w _ hx139_2)).trans hx139_2; replace p139 := eq_true p139; replace q139 := eq_true q139) | ((with_reducible refine gate_callee (f := 53) rfl ?_); refine goesL_ (some 9) rfl rfl Tryd.func53 (by kernel_rfl) rfl #[.agg #[.int .i64 ((rd_T55 l0_1 0).f0), .int .i64 ((rd_T55 l0_1 0).f1), .int .i64 ((rd_T55 l0_1 0).f2)], .int .i64 9, .int .i64 10] rfl (by (try simp only [List.map_toArray, List.map_cons, List.map_nil]); first | done | rfl | (simp only [List.length_drop, List.length_take]; rfl)) ?_; (with_reducible refine (spec_l4Kind.calls k ((rd_T55 l0_1 0).f0) ((rd_T55 l0_1 0).f1) ((rd_T55 l0_1 0).f2) 9 10 true _ A3.out).mono ?_); rintro e w7 ⟨rfl, hb⟩; refine ⟨_, rfl, ?_⟩; have n0_ := Aside0.mk (blk_below (g := gb138) (o := .cells #[.int .i64 a0_0, .slice (some ad139) l0_1.length c0_1] 29 (0, 0)) (by (with_reducible repeat first | apply kN | apply kD | apply kA); exact BK138.out) hb); have n1_ := Aside0.mk (below_step (by with_reducible repeat first | exact HB.out | apply bA | apply bN | apply bD | refine bS ?_ GE138.out) hb); clear BK138; clear HB; have BK138 := n0_; have HB := n1_; clear n0_ n1_; (try clear hb); (try clear hb2); (try clear hk); (try clear hi); obtain ⟨hcz8_0, hcz8_1, hfz8_0, hfz8_1⟩ := cz2 BK138.out; have p141 : 0 ≤ (0 : Int) := (by omega); have q141 : 0 < (l0_1.length : Int) := of_decide_eq_true (by first | (with_reducible assumption) | assumption); obtain ⟨ad141, e141, hx141_0, hx141_1, hx141_2⟩ := at_T55 HR0_1.out 0 p141 q141; obtain rfl : ad139 = ad141 := (by injection e141); have qi141 : (0 < l0_1.length) = True := eq_true (by omega); (try rw [show ((0 : Int)).toNat = 0 from rfl] at hx141_0); (try rw [show 0 * 3 = 0 from rfl] at hx141_0); (try rw [Addr.add_zero'] at hx141_0); (try rw [show ((0 : Int)).toNat = 0 from rfl] at hx141_1); (try rw [show 0 * 3 = 0 from rfl] at hx141_1); (try rw [Addr.add_zero'] at hx141_1); (try rw [show ((0 : Int)).toNat = 0 from rfl] at hx141_2); (try rw [show 0 * 3 = 0 from rfl] at hx141_2); (try rw [Addr.add_zero'] at hx141_2); replace hx141_0 := (HB.out.cell (World.block_lt_of_cell? w _ hx141_0)).trans hx141_0; replace hx141_1 := (HB.out.cell (World.block_lt_of_cell? w _ hx141_1)).trans hx141_1; replace hx141_2 := (HB.out.cell (World.block_lt_of_cell? w _ hx141_2)).trans hx141_2; replace p141 := eq_true p141; replace q141 := eq_true q141))
   generalize hbw_ : ((rd_T55 l0_1 0).f0 == 9) = bw at H' ⊢
   clear hbw_
   go_loopg [4] k (fun kq v4 w' => ∃ (x4_1 : Int), v4 = .int .i64 x4_1 ∧ Aside0 (spec_l4Calc.l0 kq bw x4_1 a0_0 l0_1 = some r) ∧ Aside0 (kq ≤ k) ∧ Aside0 (w'.heap[gb138]? = some (.cells #[.int .i64 a0_0, (.slice (some ad139) l0_1.length c0_1)] 29 (0, 0))) ∧ Aside0 (Below w.heap.size w w'))
   case atStart => exact ⟨(1), (by first | rfl | (simp; done) | (simp [*]; done)), H', ⟨Nat.le_refl _⟩, ⟨by (with_reducible repeat first | apply kN | apply kD | apply kA); exact BK138.out⟩, ⟨by repeat (first | (with_reducible first | exact HB.out | apply below_alloc | apply pw_below_drewN | apply below_drew1 | refine below_set ?_ GE138.out) | exact HB.out)⟩⟩
   case round =>
    clear H'
    clear c2b0 c2b1 hcz6_0 hcz6_1 hcz8_0 hcz8_1 hfz6_0 hfz6_1 hfz8_0 hfz8_1 hx139_0 hx139_1 hx139_2 hx141_0 hx141_1 hx141_2 p139 p141 q139 q141
    obtain ⟨x4_1, rfl, HA, HK1, BK138, HB⟩ := hrel
    cases gk with
    | zero => exact absurd HA.out (by simp [spec_l4Calc.l0])
    | succ k1 =>
     have H := HA.out
     clear HA
     simp only [spec_l4Calc.l0] at H
     by_cases c9 : x4_1 < (l0_1.length : Int)
     ·rw [if_pos c9] at H
      have c9b0 : decide (x4_1 < (l0_1.length : Int)) = true := decide_eq_true c9
      clear c9
      by_cases c10 : bw = true
      ·subst c10
       rw [if_pos (by decide)] at H
       by_cases c11 : 0 ≤ x4_1
       ·rw [if_pos c11] at H
        have c11b0 : decide (0 ≤ x4_1) = true := decide_eq_true c11
        clear c11
        replace H := Option.bind_eq_some_iff.mp H
        obtain ⟨t143, A120, H⟩ := H
        replace H : (if t143 = true then (spec_l4Calc.l0 k1 true (wrap64 (x4_1 + 1)) a0_0 l0_1) else (some false)) = some r := H
        have A12 := Aside0.mk A120
        clear A120
        by_cases c13 : t143 = true
        ·subst c13
         have H1 : (spec_l4Calc.l0 k1 true (wrap64 (x4_1 + 1)) a0_0 l0_1) = some r := by rw [if_pos rfl] at H; exact H
         clear H
         have H := H1
         clear H1
         have H' := Aside0.mk H
         clear H
         obtain ⟨hcz14_0, hcz14_1, hfz14_0, hfz14_1⟩ := cz2 BK138.out
         have p142 : 0 ≤ (x4_1 : Int) := of_decide_eq_true (by first | (with_reducible assumption) | assumption)
         have q142 : x4_1 < (l0_1.length : Int) := of_decide_eq_true (by first | (with_reducible assumption) | assumption)
         obtain ⟨ad142, e142, hx142_0, hx142_1, hx142_2⟩ := at_T55 HR0_1.out x4_1 p142 q142
         obtain rfl : ad139 = ad142 := (by injection e142)
         replace hx142_0 := (HB.out.cell (World.block_lt_of_cell? w _ hx142_0)).trans hx142_0
         replace hx142_1 := (HB.out.cell (World.block_lt_of_cell? w _ hx142_1)).trans hx142_1
         replace hx142_2 := (HB.out.cell (World.block_lt_of_cell? w _ hx142_2)).trans hx142_2
         replace p142 := eq_true p142
         replace q142 := eq_true q142
         go_wp2_with (first | (go_at_call 24; (with_reducible refine (spec_DevIsWhole.calls k1 ((rd_T55 l0_1 x4_1).f0) ((rd_T55 l0_1 x4_1).f1) ((rd_T55 l0_1 x4_1).f2) true _ A12.out).mono ?_); rintro e w15 ⟨rfl, hb⟩; have n0_ := Aside0.mk (blk_below (g := gb138) (o := .cells #[.int .i64 a0_0, .slice (some ad139) l0_1.length c0_1] 29 (0, 0)) (by (with_reducible repeat first | apply kN | apply kD | apply kA); exact BK138.out) hb); have n1_ := Aside0.mk (below_step (by with_reducible repeat first | exact HB.out | apply bA | apply bN | apply bD | refine bS ?_ GE138.out) hb); clear BK138; clear HB; have BK138 := n0_; have HB := n1_; clear n0_ n1_; (try clear hb); (try clear hb2); (try clear hk); (try clear hi)))
         go_roundg k1
         case measure => have := HK1.out; omega
         case rel => exact ⟨(wrap64 (x4_1 + 1)), (by first | rfl | (simp; done) | (simp [*]; done)), H', ⟨by have := HK1.out; omega⟩, ⟨by (with_reducible repeat first | apply kN | apply kD | apply kA); exact BK138.out⟩, ⟨by repeat (first | (with_reducible first | exact HB.out | apply below_alloc | apply pw_below_drewN | apply below_drew1 | refine below_set ?_ GE138.out) | exact HB.out)⟩⟩
        ·replace c13 := Bool.eq_false_iff.mpr c13
         subst c13
         have H1 : (some false) = some r := by rw [if_neg (show ¬ (false = true) by decide)] at H; exact H
         clear H
         have H := H1
         clear H1
         obtain rfl := Option.some.inj H
         obtain ⟨hcz16_0, hcz16_1, hfz16_0, hfz16_1⟩ := cz2 BK138.out
         have p142 : 0 ≤ (x4_1 : Int) := of_decide_eq_true (by first | (with_reducible assumption) | assumption)
         have q142 : x4_1 < (l0_1.length : Int) := of_decide_eq_true (by first | (with_reducible assumption) | assumption)
         obtain ⟨ad142, e142, hx142_0, hx142_1, hx142_2⟩ := at_T55 HR0_1.out x4_1 p142 q142
         obtain rfl : ad139 = ad142 := (by injection e142)
         replace hx142_0 := (HB.out.cell (World.block_lt_of_cell? w _ hx142_0)).trans hx142_0
         replace hx142_1 := (HB.out.cell (World.block_lt_of_cell? w _ hx142_1)).trans hx142_1
         replace hx142_2 := (HB.out.cell (World.block_lt_of_cell? w _ hx142_2)).trans hx142_2
         replace p142 := eq_true p142
         replace q142 := eq_true q142
         go_wp2_with (first | (go_at_call 24; (with_reducible refine (spec_DevIsWhole.calls k1 ((rd_T55 l0_1 x4_1).f0) ((rd_T55 l0_1 x4_1).f1) ((rd_T55 l0_1 x4_1).f2) false _ A12.out).mono ?_); rintro e w17 ⟨rfl, hb⟩; have n0_ := Aside0.mk (blk_below (g := gb138) (o := .cells #[.int .i64 a0_0, .slice (some ad139) l0_1.length c0_1] 29 (0, 0)) (by (with_reducible repeat first | apply kN | apply kD | apply kA); exact BK138.out) hb); have n1_ := Aside0.mk (below_step (by with_reducible repeat first | exact HB.out | apply bA | apply bN | apply bD | refine bS ?_ GE138.out) hb); clear BK138; clear HB; have BK138 := n0_; have HB := n1_; clear n0_ n1_; (try clear hb); (try clear hb2); (try clear hk); (try clear hi)))
         go_ret
         exact ⟨by first | rfl | (simp [errW_none, errW_some] <;> rfl) | (simp [*, errW_none, errW_some] <;> rfl), by repeat (first | (with_reducible first | exact HB.out | apply below_alloc | apply pw_below_drewN | apply below_drew1 | refine below_set ?_ GE138.out) | exact HB.out)⟩
       ·rw [if_neg c11] at H
        exact absurd H (by simp)
      ·replace c10 := Bool.eq_false_iff.mpr c10
       subst c10
       rw [if_neg (by decide)] at H
       by_cases c18 : 0 ≤ x4_1
       ·rw [if_pos c18] at H
        have c18b0 : decide (0 ≤ x4_1) = true := decide_eq_true c18
        clear c18
        replace H := Option.bind_eq_some_iff.mp H
        obtain ⟨t145, A190, H⟩ := H
        replace H : (if t145 = true then (spec_l4Calc.l0 k1 false (wrap64 (x4_1 + 1)) a0_0 l0_1) else (some false)) = some r := H
        have A19 := Aside0.mk A190
        clear A190
        by_cases c20 : t145 = true
        ·subst c20
         have H1 : (spec_l4Calc.l0 k1 false (wrap64 (x4_1 + 1)) a0_0 l0_1) = some r := by rw [if_pos rfl] at H; exact H
         clear H
         have H := H1
         clear H1
         have H' := Aside0.mk H
         clear H
         obtain ⟨hcz21_0, hcz21_1, hfz21_0, hfz21_1⟩ := cz2 BK138.out
         have p144 : 0 ≤ (x4_1 : Int) := of_decide_eq_true (by first | (with_reducible assumption) | assumption)
         have q144 : x4_1 < (l0_1.length : Int) := of_decide_eq_true (by first | (with_reducible assumption) | assumption)
         obtain ⟨ad144, e144, hx144_0, hx144_1, hx144_2⟩ := at_T55 HR0_1.out x4_1 p144 q144
         obtain rfl : ad139 = ad144 := (by injection e144)
         replace hx144_0 := (HB.out.cell (World.block_lt_of_cell? w _ hx144_0)).trans hx144_0
         replace hx144_1 := (HB.out.cell (World.block_lt_of_cell? w _ hx144_1)).trans hx144_1
         replace hx144_2 := (HB.out.cell (World.block_lt_of_cell? w _ hx144_2)).trans hx144_2
         replace p144 := eq_true p144
         replace q144 := eq_true q144
         go_wp2_with (first | (go_at_call 43; (with_reducible refine (spec_DevIsReal.calls k1 ((rd_T55 l0_1 x4_1).f0) ((rd_T55 l0_1 x4_1).f1) ((rd_T55 l0_1 x4_1).f2) true _ A19.out).mono ?_); rintro e w22 ⟨rfl, hb⟩; have n0_ := Aside0.mk (blk_below (g := gb138) (o := .cells #[.int .i64 a0_0, .slice (some ad139) l0_1.length c0_1] 29 (0, 0)) (by (with_reducible repeat first | apply kN | apply kD | apply kA); exact BK138.out) hb); have n1_ := Aside0.mk (below_step (by with_reducible repeat first | exact HB.out | apply bA | apply bN | apply bD | refine bS ?_ GE138.out) hb); clear BK138; clear HB; have BK138 := n0_; have HB := n1_; clear n0_ n1_; (try clear hb); (try clear hb2); (try clear hk); (try clear hi)))
         go_roundg k1
         case measure => have := HK1.out; omega
         case rel => exact ⟨(wrap64 (x4_1 + 1)), (by first | rfl | (simp; done) | (simp [*]; done)), H', ⟨by have := HK1.out; omega⟩, ⟨by (with_reducible repeat first | apply kN | apply kD | apply kA); exact BK138.out⟩, ⟨by repeat (first | (with_reducible first | exact HB.out | apply below_alloc | apply pw_below_drewN | apply below_drew1 | refine below_set ?_ GE138.out) | exact HB.out)⟩⟩
        ·replace c20 := Bool.eq_false_iff.mpr c20
         subst c20
         have H1 : (some false) = some r := by rw [if_neg (show ¬ (false = true) by decide)] at H; exact H
         clear H
         have H := H1
         clear H1
         obtain rfl := Option.some.inj H
         obtain ⟨hcz23_0, hcz23_1, hfz23_0, hfz23_1⟩ := cz2 BK138.out
         have p144 : 0 ≤ (x4_1 : Int) := of_decide_eq_true (by first | (with_reducible assumption) | assumption)
         have q144 : x4_1 < (l0_1.length : Int) := of_decide_eq_true (by first | (with_reducible assumption) | assumption)
         obtain ⟨ad144, e144, hx144_0, hx144_1, hx144_2⟩ := at_T55 HR0_1.out x4_1 p144 q144
         obtain rfl : ad139 = ad144 := (by injection e144)
         replace hx144_0 := (HB.out.cell (World.block_lt_of_cell? w _ hx144_0)).trans hx144_0
         replace hx144_1 := (HB.out.cell (World.block_lt_of_cell? w _ hx144_1)).trans hx144_1
         replace hx144_2 := (HB.out.cell (World.block_lt_of_cell? w _ hx144_2)).trans hx144_2
         replace p144 := eq_true p144
         replace q144 := eq_true q144
         go_wp2_with (first | (go_at_call 43; (with_reducible refine (spec_DevIsReal.calls k1 ((rd_T55 l0_1 x4_1).f0) ((rd_T55 l0_1 x4_1).f1) ((rd_T55 l0_1 x4_1).f2) false _ A19.out).mono ?_); rintro e w24 ⟨rfl, hb⟩; have n0_ := Aside0.mk (blk_below (g := gb138) (o := .cells #[.int .i64 a0_0, .slice (some ad139) l0_1.length c0_1] 29 (0, 0)) (by (with_reducible repeat first | apply kN | apply kD | apply kA); exact BK138.out) hb); have n1_ := Aside0.mk (below_step (by with_reducible repeat first | exact HB.out | apply bA | apply bN | apply bD | refine bS ?_ GE138.out) hb); clear BK138; clear HB; have BK138 := n0_; have HB := n1_; clear n0_ n1_; (try clear hb); (try clear hb2); (try clear hk); (try clear hi)))
         go_ret
         exact ⟨by first | rfl | (simp [errW_none, errW_some] <;> rfl) | (simp [*, errW_none, errW_some] <;> rfl), by repeat (first | (with_reducible first | exact HB.out | apply below_alloc | apply pw_below_drewN | apply below_drew1 | refine below_set ?_ GE138.out) | exact HB.out)⟩
       ·rw [if_neg c18] at H
        exact absurd H (by simp)
     ·rw [if_neg c9] at H
      have c9b0 : decide (x4_1 < (l0_1.length : Int)) = false := decide_eq_false c9
      clear c9
      by_cases c25 : bw = true
      ·subst c25
       rw [if_pos (by decide)] at H
       obtain rfl := Option.some.inj H
       obtain ⟨hcz26_0, hcz26_1, hfz26_0, hfz26_1⟩ := cz2 BK138.out
       go_wp2
       go_ret
       exact ⟨by first | rfl | (simp [errW_none, errW_some] <;> rfl) | (simp [*, errW_none, errW_some] <;> rfl), by repeat (first | (with_reducible first | exact HB.out | apply below_alloc | apply pw_below_drewN | apply below_drew1 | refine below_set ?_ GE138.out) | exact HB.out)⟩
      ·replace c25 := Bool.eq_false_iff.mpr c25
       subst c25
       rw [if_neg (by decide)] at H
       obtain rfl := Option.some.inj H
       obtain ⟨hcz27_0, hcz27_1, hfz27_0, hfz27_1⟩ := cz2 BK138.out
       go_wp2
       go_ret
       exact ⟨by first | rfl | (simp [errW_none, errW_some] <;> rfl) | (simp [*, errW_none, errW_some] <;> rfl), by repeat (first | (with_reducible first | exact HB.out | apply below_alloc | apply pw_below_drewN | apply below_drew1 | refine below_set ?_ GE138.out) | exact HB.out)⟩
  ·replace c4 := Bool.eq_false_iff.mpr c4
   subst c4
   have H1 : (some false) = some r := by rw [if_neg (show ¬ (false = true) by decide)] at H; exact H
   clear H
   have H := H1
   clear H1
   obtain rfl := Option.some.inj H
   go_enter Tryd.func54, Tryd.ntmps54
   go_wp2_with (first | ((with_reducible refine gate_dst (N := 1) rfl ?_); refine box_event ?hg (N := 1) ?hd (cs := #[.int .i64 a0_0, .slice A0_1 l0_1.length c0_1]) (t := 29) ?hr ?_; (case hd => rfl); (case hg => rfl); (case hr => first | (go_simp; done) | (go_simp; rfl)); intro gb138 hg w28 hbox hb; obtain ⟨n0_, n2_⟩ := two_ (by with_reducible repeat first | exact HB.out | apply bA | apply bN | apply bD) hb hg; have n1_ := Aside0.mk hbox; have n3_ := n2_; clear HB; have HB := n0_; have BK138 := n1_; have GE138 := n3_; clear n0_ n1_ n2_ n3_; clear hb hbox hg; obtain ⟨hcz29_0, hcz29_1, hfz29_0, hfz29_1⟩ := cz2 BK138.out; have p139 : 0 ≤ (0 : Int) := (by omega); have q139 : 0 < (l0_1.length : Int) := of_decide_eq_true (by first | (with_reducible assumption) | assumption); obtain ⟨ad139, e139, hx139_0, hx139_1, hx139_2⟩ := at_T55 HR0_1.out 0 p139 q139; cases e139; have qi139 : (0 < l0_1.length) = True := eq_true (by omega); (try rw [show ((0 : Int)).toNat = 0 from rfl] at hx139_0); (try rw [show 0 * 3 = 0 from rfl] at hx139_0); (try rw [Addr.add_zero'] at hx139_0); (try rw [show ((0 : Int)).toNat = 0 from rfl] at hx139_1); (try rw [show 0 * 3 = 0 from rfl] at hx139_1); (try rw [Addr.add_zero'] at hx139_1); (try rw [show ((0 : Int)).toNat = 0 from rfl] at hx139_2); (try rw [show 0 * 3 = 0 from rfl] at hx139_2); (try rw [Addr.add_zero'] at hx139_2); replace hx139_0 := (HB.out.cell (World.block_lt_of_cell? w _ hx139_0)).trans hx139_0; replace hx139_1 := (HB.out.cell (World.block_lt_of_cell? w _ hx139_1)).trans hx139_1; replace hx139_2 := (HB.out.cell (World.block_lt_of_cell? w _ hx139_2)).trans hx139_2; replace p139 := eq_true p139; replace q139 := eq_true q139) | ((with_reducible refine gate_callee (f := 53) rfl ?_); refine goesL_ (some 9) rfl rfl Tryd.func53 (by kernel_rfl) rfl #[.agg #[.int .i64 ((rd_T55 l0_1 0).f0), .int .i64 ((rd_T55 l0_1 0).f1), .int .i64 ((rd_T55 l0_1 0).f2)], .int .i64 9, .int .i64 10] rfl (by (try simp only [List.map_toArray, List.map_cons, List.map_nil]); first | done | rfl | (simp only [List.length_drop, List.length_take]; rfl)) ?_; (with_reducible refine (spec_l4Kind.calls k ((rd_T55 l0_1 0).f0) ((rd_T55 l0_1 0).f1) ((rd_T55 l0_1 0).f2) 9 10 false _ A3.out).mono ?_); rintro e w30 ⟨rfl, hb⟩; refine ⟨_, rfl, ?_⟩; have n0_ := Aside0.mk (blk_below (g := gb138) (o := .cells #[.int .i64 a0_0, .slice (some ad139) l0_1.length c0_1] 29 (0, 0)) (by (with_reducible repeat first | apply kN | apply kD | apply kA); exact BK138.out) hb); have n1_ := Aside0.mk (below_step (by with_reducible repeat first | exact HB.out | apply bA | apply bN | apply bD | refine bS ?_ GE138.out) hb); clear BK138; clear HB; have BK138 := n0_; have HB := n1_; clear n0_ n1_; (try clear hb); (try clear hb2); (try clear hk); (try clear hi)))
   go_ret
   exact ⟨by first | rfl | (simp [errW_none, errW_some] <;> rfl) | (simp [*, errW_none, errW_some] <;> rfl), by repeat (first | (with_reducible first | exact HB.out | apply below_alloc | apply pw_below_drewN | apply below_drew1 | refine below_set ?_ GE138.out) | exact HB.out)⟩
 ·rw [if_neg c2] at H
  exact absurd H (by simp)


end Go.Proofs.YtkmfdlcmdgdepaaDoor.U
