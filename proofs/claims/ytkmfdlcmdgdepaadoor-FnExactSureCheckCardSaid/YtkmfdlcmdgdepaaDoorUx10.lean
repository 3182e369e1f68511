/- Functions of this seat as Lean functions, and that the Go code comes to their answers: laid by a program (the kit's printer over all laws of the seat at once, some walks turned by the session's own fix.py). -/
import Derived.Test.YtkmfdlcmdgdepaaDoorUx0
namespace Go.Proofs.YtkmfdlcmdgdepaaDoor.U
open Go.RowKit Go.Proofs.YtkmfdlcmdgdepaaDoorW.PrintWords Go.Proofs.YtkmfdlcmdgdepaaDoorW.PrintLast Go.Proofs.YtkmfdlcmdgdepaaDoorW.PrintMore
attribute [local go_sem] max2_int min2_int max_two min_two max_three min_three max_four min_four   -- for this text's walks alone
set_option linter.unusedVariables false
set_option linter.unusedSimpArgs false

/-! ### spec_l12Next: function 37 -/
def spec_l12Next.j0 : Nat → Int → Int → Bool → Int → Int → Bool → Bool → Option (Int × Int × Bool × Bool)
 | 0, _, _, _, _, _, _, _ => none
 | k + 1, x1, x5, x12, x155000, x155001, x155002, x155003 => if x12 = true then (if x155002 = true then (some (wrap64 (x155000 - 1), x155001, true, (x1 == 10))) else (if x1 = 10 then (some (wrap64 (x155000 - 1), x155001, true, (x1 == 10))) else (some (wrap64 (x155000 - 1), x155001, (x1 == 7), (x1 == 10))))) else (if x5 = 7 then (if x155002 = true then (some (x155000, wrap64 (x155001 + 1), true, (x1 == 10))) else (if x1 = 10 then (some (x155000, wrap64 (x155001 + 1), true, (x1 == 10))) else (some (x155000, wrap64 (x155001 + 1), (x1 == 7), (x1 == 10))))) else (if x5 = 9 then (if x155002 = true then (some (x155000, wrap64 (x155001 - 1), true, (x1 == 10))) else (if x1 = 10 then (some (x155000, wrap64 (x155001 - 1), true, (x1 == 10))) else (some (x155000, wrap64 (x155001 - 1), (x1 == 7), (x1 == 10))))) else (if x5 = 11 then (some (0, 0, false, false)) else (if x155002 = true then (some (x155000, x155001, true, (x1 == 10))) else (if x1 = 10 then (some (x155000, x155001, true, (x1 == 10))) else (some (x155000, x155001, (x1 == 7), (x1 == 10))))))))
def spec_l12Next.f (k : Nat) (a0_0 : Int) (a0_1 : Int) (a0_2 : Bool) (a0_3 : Bool) (a1 : Int) : Option (Int × Int × Bool × Bool) := if a1 = 1 then (if a0_2 = true then (some (wrap64 (a0_0 + 1), a0_1, true, (a1 == 10))) else (if a1 = 10 then (some (wrap64 (a0_0 + 1), a0_1, true, (a1 == 10))) else (some (wrap64 (a0_0 + 1), a0_1, (a1 == 7), (a1 == 10))))) else (if a1 = 4 then (spec_l12Next.j0 k a1 a1 (a1 == 4) a0_0 a0_1 a0_2 a0_3) else (spec_l12Next.j0 k a1 a1 (a1 == 5) a0_0 a0_1 a0_2 a0_3))
set_option maxHeartbeats 8000000 in
set_option maxRecDepth 100000 in
theorem spec_l12Next.calls (k : Nat) (a0_0 : Int) (a0_1 : Int) (a0_2 : Bool) (a0_3 : Bool) (a1 : Int) (r1 : Int) (r2 : Int) (r3 : Bool) (r4 : Bool) (w : World) (h : spec_l12Next.f k a0_0 a0_1 a0_2 a0_3 a1 = some (r1, r2, r3, r4)) :
  Calls Tryd.prog 37 #[.agg #[.int .i64 a0_0, .int .i64 a0_1, .bool a0_2, .bool a0_3], .int .i64 a1] w fun e w' => e = .returned (.agg #[.int .i64 r1, .int .i64 r2, .bool r3, .bool r4]) ∧ Below w.heap.size w w' := by
 have hu65 := Tryd.underlying65
 have HB := Aside0.mk (Below.refl w.heap.size w)
 have H : (if a1 = 1 then (if a0_2 = true then (some (wrap64 (a0_0 + 1), a0_1, true, (a1 == 10))) else (if a1 = 10 then (some (wrap64 (a0_0 + 1), a0_1, true, (a1 == 10))) else (some (wrap64 (a0_0 + 1), a0_1, (a1 == 7), (a1 == 10))))) else (if a1 = 4 then (spec_l12Next.j0 k a1 a1 (a1 == 4) a0_0 a0_1 a0_2 a0_3) else (spec_l12Next.j0 k a1 a1 (a1 == 5) a0_0 a0_1 a0_2 a0_3))) = some (r1, r2, r3, r4) := h
 clear h
 by_cases c3 : a1 = 1
 ·rw [if_pos c3] at H
  have c3b0 : (a1 == 1) = true := beq_iff_eq.mpr c3
  have c3b1 : (a1 != 1) = false := bne_eq_false_iff_eq.mpr c3
  clear c3
  by_cases c4 : a0_2 = true
  ·subst c4
   have H1 : (some (wrap64 (a0_0 + 1), a0_1, true, (a1 == 10))) = some (r1, r2, r3, r4) := by rw [if_pos rfl] at H; exact H
   clear H
   have H := H1
   clear H1
   simp only [Option.some.injEq, Prod.mk.injEq] at H
   obtain ⟨rfl, rfl, rfl, rfl⟩ := H
   go_enter Tryd.func37, Tryd.ntmps37
   go_wp2_with (first | ((with_reducible refine gate_dst (N := 2) rfl ?_); refine box_event ?hg (N := 2) ?hd (cs := #[.int .i64 a0_0, .int .i64 a0_1, .bool true, .bool a0_3]) (t := 65) ?hr ?_; (case hd => rfl); (case hg => rfl); (case hr => first | (go_simp; done) | (go_simp; rfl)); intro gb154 hg w5 hbox hb; obtain ⟨n0_, n2_⟩ := two_ (by with_reducible repeat first | exact HB.out | apply bA | apply bN | apply bD) hb hg; have n1_ := Aside0.mk hbox; have n3_ := n2_; clear HB; have HB := n0_; have BK154 := n1_; have GE154 := n3_; clear n0_ n1_ n2_ n3_; clear hb hbox hg) | ((with_reducible refine gate_dst (N := 4) rfl ?_); refine box_event ?hg (N := 4) ?hd (cs := #[.int .i64 0, .int .i64 0, .bool false, .bool false]) (t := 65) ?hr ?_; (case hd => rfl); (case hg => rfl); (case hr => first | (go_simp; done) | (go_simp; rfl)); intro gb155 hg w6 hbox hb; obtain ⟨n0_, n5_, n6_⟩ := old_ (g := gb154) (o := .cells #[.int .i64 a0_0, .int .i64 a0_1, .bool true, .bool a0_3] 65 (0, 0)) (by (with_reducible repeat first | apply kN | apply kD | apply kA); exact BK154.out) hb hg; obtain ⟨n1_, n3_⟩ := two_ (by with_reducible repeat first | exact HB.out | apply bA | apply bN | apply bD | refine bS ?_ GE154.out) hb hg; have n2_ := Aside0.mk (hbox); have n4_ := n3_; clear BK154; clear HB; have BK154 := n0_; have HB := n1_; have BK155 := n2_; have GE155 := n4_; have NB154_155 := n5_; have NB155_154 := n6_; clear n0_ n1_ n2_ n3_ n4_ n5_ n6_; clear hb hbox hg; have hnb7 := NB154_155.out; have hnc7 := NB155_154.out; obtain ⟨hcz8_0, hcz8_1, hcz8_2, hcz8_3, hfz8_0, hfz8_1, hfz8_2, hfz8_3⟩ := cz4 BK154.out; obtain ⟨hcz9_0, hcz9_1, hcz9_2, hcz9_3, hfz9_0, hfz9_1, hfz9_2, hfz9_3⟩ := cz4 BK155.out))
   refine bodyPost_ret (results_cell_row rfl _ _ gb155 65 #[.int .i64 (wrap64 (a0_0 + 1)), .int .i64 a0_1, .bool true, .bool (a1 == 10)] (0, 0) _ rfl (by (with_reducible repeat first | apply kN | apply kD | apply kA); refine blk_put (cs := #[.int .i64 (wrap64 (a0_0 + 1)), .int .i64 a0_1, .bool true, .bool false]) ?_ 3 _ (by first | rfl | simp [*]); (with_reducible repeat first | apply kN | apply kD | apply kA); refine blk_put (cs := #[.int .i64 (wrap64 (a0_0 + 1)), .int .i64 a0_1, .bool false, .bool false]) ?_ 2 _ (by first | rfl | simp [*]); (with_reducible repeat first | apply kN | apply kD | apply kA); refine blk_put (cs := #[.int .i64 (wrap64 (a0_0 + 1)), .int .i64 0, .bool false, .bool false]) ?_ 1 _ rfl; (with_reducible repeat first | apply kN | apply kD | apply kA); refine blk_put (cs := #[.int .i64 0, .int .i64 0, .bool false, .bool false]) ?_ 0 _ rfl; (with_reducible repeat first | apply kN | apply kD | apply kA); refine blk_far ?_ NB155_154.out _; (with_reducible repeat first | apply kN | apply kD | apply kA); refine blk_far ?_ NB155_154.out _; (with_reducible repeat first | apply kN | apply kD | apply kA); refine blk_far ?_ NB155_154.out _; (with_reducible repeat first | apply kN | apply kD | apply kA); exact BK155.out) Tryd.underlying65 rfl (by kernel_rfl)) rfl ?_
   exact ⟨by first | rfl | (simp [errW_none, errW_some] <;> rfl) | (simp [*, errW_none, errW_some] <;> rfl), by repeat (first | (with_reducible first | exact HB.out | apply below_alloc | apply pw_below_drewN | apply below_drew1 | refine below_set ?_ GE154.out | refine below_set ?_ GE155.out) | exact HB.out)⟩
  ·replace c4 := Bool.eq_false_iff.mpr c4
   subst c4
   have H1 : (if a1 = 10 then (some (wrap64 (a0_0 + 1), a0_1, true, (a1 == 10))) else (some (wrap64 (a0_0 + 1), a0_1, (a1 == 7), (a1 == 10)))) = some (r1, r2, r3, r4) := by rw [if_neg (show ¬ (false = true) by decide)] at H; exact H
   clear H
   have H := H1
   clear H1
   by_cases c10 : a1 = 10
   ·rw [if_pos c10] at H
    have c10b0 : (a1 == 10) = true := beq_iff_eq.mpr c10
    have c10b1 : (a1 != 10) = false := bne_eq_false_iff_eq.mpr c10
    clear c10
    simp only [Option.some.injEq, Prod.mk.injEq] at H
    obtain ⟨rfl, rfl, rfl, rfl⟩ := H
    go_enter Tryd.func37, Tryd.ntmps37
    go_wp2_with (first | ((with_reducible refine gate_dst (N := 2) rfl ?_); refine box_event ?hg (N := 2) ?hd (cs := #[.int .i64 a0_0, .int .i64 a0_1, .bool false, .bool a0_3]) (t := 65) ?hr ?_; (case hd => rfl); (case hg => rfl); (case hr => first | (go_simp; done) | (go_simp; rfl)); intro gb154 hg w11 hbox hb; obtain ⟨n0_, n2_⟩ := two_ (by with_reducible repeat first | exact HB.out | apply bA | apply bN | apply bD) hb hg; have n1_ := Aside0.mk hbox; have n3_ := n2_; clear HB; have HB := n0_; have BK154 := n1_; have GE154 := n3_; clear n0_ n1_ n2_ n3_; clear hb hbox hg) | ((with_reducible refine gate_dst (N := 4) rfl ?_); refine box_event ?hg (N := 4) ?hd (cs := #[.int .i64 0, .int .i64 0, .bool false, .bool false]) (t := 65) ?hr ?_; (case hd => rfl); (case hg => rfl); (case hr => first | (go_simp; done) | (go_simp; rfl)); intro gb155 hg w12 hbox hb; obtain ⟨n0_, n5_, n6_⟩ := old_ (g := gb154) (o := .cells #[.int .i64 a0_0, .int .i64 a0_1, .bool false, .bool a0_3] 65 (0, 0)) (by (with_reducible repeat first | apply kN | apply kD | apply kA); exact BK154.out) hb hg; obtain ⟨n1_, n3_⟩ := two_ (by with_reducible repeat first | exact HB.out | apply bA | apply bN | apply bD | refine bS ?_ GE154.out) hb hg; have n2_ := Aside0.mk (hbox); have n4_ := n3_; clear BK154; clear HB; have BK154 := n0_; have HB := n1_; have BK155 := n2_; have GE155 := n4_; have NB154_155 := n5_; have NB155_154 := n6_; clear n0_ n1_ n2_ n3_ n4_ n5_ n6_; clear hb hbox hg; have hnb13 := NB154_155.out; have hnc13 := NB155_154.out; obtain ⟨hcz14_0, hcz14_1, hcz14_2, hcz14_3, hfz14_0, hfz14_1, hfz14_2, hfz14_3⟩ := cz4 BK154.out; obtain ⟨hcz15_0, hcz15_1, hcz15_2, hcz15_3, hfz15_0, hfz15_1, hfz15_2, hfz15_3⟩ := cz4 BK155.out))
    refine bodyPost_ret (results_cell_row rfl _ _ gb155 65 #[.int .i64 (wrap64 (a0_0 + 1)), .int .i64 a0_1, .bool true, .bool (a1 == 10)] (0, 0) _ rfl (by (with_reducible repeat first | apply kN | apply kD | apply kA); refine blk_put (cs := #[.int .i64 (wrap64 (a0_0 + 1)), .int .i64 a0_1, .bool true, .bool false]) ?_ 3 _ (by first | rfl | simp [*]); (with_reducible repeat first | apply kN | apply kD | apply kA); refine blk_put (cs := #[.int .i64 (wrap64 (a0_0 + 1)), .int .i64 a0_1, .bool false, .bool false]) ?_ 2 _ (by first | rfl | simp [*]); (with_reducible repeat first | apply kN | apply kD | apply kA); refine blk_put (cs := #[.int .i64 (wrap64 (a0_0 + 1)), .int .i64 0, .bool false, .bool false]) ?_ 1 _ rfl; (with_reducible repeat first | apply kN | apply kD | apply kA); refine blk_put (cs := #[.int .i64 0, .int .i64 0, .bool false, .bool false]) ?_ 0 _ rfl; (with_reducible repeat first | apply kN | apply kD | apply kA); refine blk_far ?_ NB155_154.out _; (with_reducible repeat first | apply kN | apply kD | apply kA); refine blk_far ?_ NB155_154.out _; (with_reducible repeat first | apply kN | apply kD | apply kA); refine blk_far ?_ NB155_154.out _; (with_reducible repeat first | apply kN | apply kD | apply kA); exact BK155.out) Tryd.underlying65 rfl (by kernel_rfl)) rfl ?_
    exact ⟨by first | rfl | (simp [errW_none, errW_some] <;> rfl) | (simp [*, errW_none, errW_some] <;> rfl), by repeat (first | (with_reducible first | exact HB.out | apply below_alloc | apply pw_below_drewN | apply below_drew1 | refine below_set ?_ GE154.out | refine below_set ?_ GE155.out) | exact HB.out)⟩
   ·rw [if_neg c10] at H
    have c10b0 : (a1 == 10) = false := beq_eq_false_iff_ne.mpr c10
    have c10b1 : (a1 != 10) = true := bne_iff_ne.mpr c10
    simp only [Option.some.injEq, Prod.mk.injEq] at H
    obtain ⟨rfl, rfl, rfl, rfl⟩ := H
    go_enter Tryd.func37, Tryd.ntmps37
    go_wp2_with (first | ((with_reducible refine gate_dst (N := 2) rfl ?_); refine box_event ?hg (N := 2) ?hd (cs := #[.int .i64 a0_0, .int .i64 a0_1, .bool false, .bool a0_3]) (t := 65) ?hr ?_; (case hd => rfl); (case hg => rfl); (case hr => first | (go_simp; done) | (go_simp; rfl)); intro gb154 hg w16 hbox hb; obtain ⟨n0_, n2_⟩ := two_ (by with_reducible repeat first | exact HB.out | apply bA | apply bN | apply bD) hb hg; have n1_ := Aside0.mk hbox; have n3_ := n2_; clear HB; have HB := n0_; have BK154 := n1_; have GE154 := n3_; clear n0_ n1_ n2_ n3_; clear hb hbox hg) | ((with_reducible refine gate_dst (N := 4) rfl ?_); refine box_event ?hg (N := 4) ?hd (cs := #[.int .i64 0, .int .i64 0, .bool false, .bool false]) (t := 65) ?hr ?_; (case hd => rfl); (case hg => rfl); (case hr => first | (go_simp; done) | (go_simp; rfl)); intro gb155 hg w17 hbox hb; obtain ⟨n0_, n5_, n6_⟩ := old_ (g := gb154) (o := .cells #[.int .i64 a0_0, .int .i64 a0_1, .bool false, .bool a0_3] 65 (0, 0)) (by (with_reducible repeat first | apply kN | apply kD | apply kA); exact BK154.out) hb hg; obtain ⟨n1_, n3_⟩ := two_ (by with_reducible repeat first | exact HB.out | apply bA | apply bN | apply bD | refine bS ?_ GE154.out) hb hg; have n2_ := Aside0.mk (hbox); have n4_ := n3_; clear BK154; clear HB; have BK154 := n0_; have HB := n1_; have BK155 := n2_; have GE155 := n4_; have NB154_155 := n5_; have NB155_154 := n6_; clear n0_ n1_ n2_ n3_ n4_ n5_ n6_; clear hb hbox hg; have hnb18 := NB154_155.out; have hnc18 := NB155_154.out; obtain ⟨hcz19_0, hcz19_1, hcz19_2, hcz19_3, hfz19_0, hfz19_1, hfz19_2, hfz19_3⟩ := cz4 BK154.out; obtain ⟨hcz20_0, hcz20_1, hcz20_2, hcz20_3, hfz20_0, hfz20_1, hfz20_2, hfz20_3⟩ := cz4 BK155.out))
    refine bodyPost_ret (results_cell_row rfl _ _ gb155 65 #[.int .i64 (wrap64 (a0_0 + 1)), .int .i64 a0_1, .bool (a1 == 7), .bool (a1 == 10)] (0, 0) _ rfl (by (with_reducible repeat first | apply kN | apply kD | apply kA); refine blk_put (cs := #[.int .i64 (wrap64 (a0_0 + 1)), .int .i64 a0_1, .bool (a1 == 7), .bool false]) ?_ 3 _ (by first | rfl | simp [*]); (with_reducible repeat first | apply kN | apply kD | apply kA); refine blk_put (cs := #[.int .i64 (wrap64 (a0_0 + 1)), .int .i64 a0_1, .bool false, .bool false]) ?_ 2 _ (by first | rfl | simp [*]); (with_reducible repeat first | apply kN | apply kD | apply kA); refine blk_put (cs := #[.int .i64 (wrap64 (a0_0 + 1)), .int .i64 0, .bool false, .bool false]) ?_ 1 _ rfl; (with_reducible repeat first | apply kN | apply kD | apply kA); refine blk_put (cs := #[.int .i64 0, .int .i64 0, .bool false, .bool false]) ?_ 0 _ rfl; (with_reducible repeat first | apply kN | apply kD | apply kA); refine blk_far ?_ NB155_154.out _; (with_reducible repeat first | apply kN | apply kD | apply kA); refine blk_far ?_ NB155_154.out _; (with_reducible repeat first | apply kN | apply kD | apply kA); refine blk_far ?_ NB155_154.out _; (with_reducible repeat first | apply kN | apply kD | apply kA); exact BK155.out) Tryd.underlying65 rfl (by kernel_rfl)) rfl ?_
    exact ⟨by first | rfl | (simp [errW_none, errW_some] <;> rfl) | (simp [*, errW_none, errW_some] <;> rfl), by repeat (first | (with_reducible first | exact HB.out | apply below_alloc | apply pw_below_drewN | apply below_drew1 | refine below_set ?_ GE154.out | refine below_set ?_ GE155.out) | exact HB.out)⟩
 ·rw [if_neg c3] at H
  have c3b0 : (a1 == 1) = false := beq_eq_false_iff_ne.mpr c3
  have c3b1 : (a1 != 1) = true := bne_iff_ne.mpr c3
  have HC21 := Aside0.mk H
  clear H
  go_enter Tryd.func37, Tryd.ntmps37
  go_upto_if 12 with (first | ((with_reducible refine gate_dst (N := 2) rfl ?_); refine box_event ?hg (N := 2) ?hd (cs := #[.int .i64 a0_0, .int .i64 a0_1, .bool a0_2, .bool a0_3]) (t := 65) ?hr ?_; (case hd => rfl); (case hg => rfl); (case hr => first | (go_simp; done) | (go_simp; rfl)); intro gb154 hg w22 hbox hb; obtain ⟨n0_, n2_⟩ := two_ (by with_reducible repeat first | exact HB.out | apply bA | apply bN | apply bD) hb hg; have n1_ := Aside0.mk hbox; have n3_ := n2_; clear HB; have HB := n0_; have BK154 := n1_; have GE154 := n3_; clear n0_ n1_ n2_ n3_; clear hb hbox hg) | ((with_reducible refine gate_dst (N := 4) rfl ?_); refine box_event ?hg (N := 4) ?hd (cs := #[.int .i64 0, .int .i64 0, .bool false, .bool false]) (t := 65) ?hr ?_; (case hd => rfl); (case hg => rfl); (case hr => first | (go_simp; done) | (go_simp; rfl)); intro gb155 hg w23 hbox hb; obtain ⟨n0_, n5_, n6_⟩ := old_ (g := gb154) (o := .cells #[.int .i64 a0_0, .int .i64 a0_1, .bool a0_2, .bool a0_3] 65 (0, 0)) (by (with_reducible repeat first | apply kN | apply kD | apply kA); exact BK154.out) hb hg; obtain ⟨n1_, n3_⟩ := two_ (by with_reducible repeat first | exact HB.out | apply bA | apply bN | apply bD | refine bS ?_ GE154.out) hb hg; have n2_ := Aside0.mk (hbox); have n4_ := n3_; clear BK154; clear HB; have BK154 := n0_; have HB := n1_; have BK155 := n2_; have GE155 := n4_; have NB154_155 := n5_; have NB155_154 := n6_; clear n0_ n1_ n2_ n3_ n4_ n5_ n6_; clear hb hbox hg))
  (try simp only [Act.put, List.setIfInBounds_toArray, List.set_cons_zero, List.set_cons_succ])
  go_cut [12] (fun v12 wc => ∃ (kq : Nat) (x12_20 : Bool), v12 = .bool x12_20 ∧ Aside0 (spec_l12Next.j0 kq a1 a1 x12_20 a0_0 a0_1 a0_2 a0_3 = some (r1, r2, r3, r4)) ∧ Aside0 (kq ≤ k) ∧ Aside0 (wc.heap[gb154]? = some (.cells #[.int .i64 a0_0, .int .i64 a0_1, .bool a0_2, .bool a0_3] 65 (0, 0))) ∧ Aside0 (wc.heap[gb155]? = some (.cells #[.int .i64 0, .int .i64 0, .bool false, .bool false] 65 (0, 0))) ∧ Aside0 (Below w.heap.size w wc))
  case first =>
   have H := HC21.out
   clear HC21
   by_cases c24 : a1 = 4
   ·rw [if_pos c24] at H
    have c24b0 : (a1 == 4) = true := beq_iff_eq.mpr c24
    have c24b1 : (a1 != 4) = false := bne_eq_false_iff_eq.mpr c24
    clear c24
    (first | rw [c24b0] | (simp only [i64_w, i32_w]; rw [c24b0]) | skip)
    have H' := Aside0.mk H
    clear H
    go_wp2
    go_meet
    case rel => exact ⟨_, ((a1 == 4)), (by first | rfl | (simp; done) | (simp [*]; done)), H', ⟨by first | omega | exact Nat.le_refl _⟩, ⟨by (with_reducible repeat first | apply kN | apply kD | apply kA); exact BK154.out⟩, ⟨by (with_reducible repeat first | apply kN | apply kD | apply kA); exact BK155.out⟩, ⟨by repeat (first | (with_reducible first | exact HB.out | apply below_alloc | apply pw_below_drewN | apply below_drew1 | refine below_set ?_ GE154.out | refine below_set ?_ GE155.out) | exact HB.out)⟩⟩
   ·rw [if_neg c24] at H
    have c24b0 : (a1 == 4) = false := beq_eq_false_iff_ne.mpr c24
    have c24b1 : (a1 != 4) = true := bne_iff_ne.mpr c24
    (first | rw [c24b0] | (simp only [i64_w, i32_w]; rw [c24b0]) | skip)
    have H' := Aside0.mk H
    clear H
    go_wp2
    go_meet
    case rel => exact ⟨_, ((a1 == 5)), (by first | rfl | (simp; done) | (simp [*]; done)), H', ⟨by first | omega | exact Nat.le_refl _⟩, ⟨by (with_reducible repeat first | apply kN | apply kD | apply kA); exact BK154.out⟩, ⟨by (with_reducible repeat first | apply kN | apply kD | apply kA); exact BK155.out⟩, ⟨by repeat (first | (with_reducible first | exact HB.out | apply below_alloc | apply pw_below_drewN | apply below_drew1 | refine below_set ?_ GE154.out | refine below_set ?_ GE155.out) | exact HB.out)⟩⟩
  case rest =>
   clear HC21
   clear c3 c3b0 c3b1
   obtain ⟨kq, x12_20, rfl, HA, HJ20, BK154, BK155, HB⟩ := hcut
   cases kq with
   | zero => exact absurd HA.out (by simp [spec_l12Next.j0])
   | succ kj20 =>
    have H := HA.out
    clear HA
    simp only [spec_l12Next.j0] at H
    by_cases c25 : x12_20 = true
    ·subst c25
     have H1 : (if a0_2 = true then (some (wrap64 (a0_0 - 1), a0_1, true, (a1 == 10))) else (if a1 = 10 then (some (wrap64 (a0_0 - 1), a0_1, true, (a1 == 10))) else (some (wrap64 (a0_0 - 1), a0_1, (a1 == 7), (a1 == 10))))) = some (r1, r2, r3, r4) := by rw [if_pos rfl] at H; exact H
     clear H
     have H := H1
     clear H1
     by_cases c26 : a0_2 = true
     ·subst c26
      have H1 : (some (wrap64 (a0_0 - 1), a0_1, true, (a1 == 10))) = some (r1, r2, r3, r4) := by rw [if_pos rfl] at H; exact H
      clear H
      have H := H1
      clear H1
      simp only [Option.some.injEq, Prod.mk.injEq] at H
      obtain ⟨rfl, rfl, rfl, rfl⟩ := H
      have hnb27 := NB154_155.out
      have hnc27 := NB155_154.out
      obtain ⟨hcz28_0, hcz28_1, hcz28_2, hcz28_3, hfz28_0, hfz28_1, hfz28_2, hfz28_3⟩ := cz4 BK154.out
      obtain ⟨hcz29_0, hcz29_1, hcz29_2, hcz29_3, hfz29_0, hfz29_1, hfz29_2, hfz29_3⟩ := cz4 BK155.out
      go_wp2
      refine bodyPost_ret (results_cell_row rfl _ _ gb155 65 #[.int .i64 (wrap64 (a0_0 - 1)), .int .i64 a0_1, .bool true, .bool (a1 == 10)] (0, 0) _ rfl (by (with_reducible repeat first | apply kN | apply kD | apply kA); refine blk_put (cs := #[.int .i64 (wrap64 (a0_0 - 1)), .int .i64 a0_1, .bool true, .bool false]) ?_ 3 _ (by first | rfl | simp [*]); (with_reducible repeat first | apply kN | apply kD | apply kA); refine blk_put (cs := #[.int .i64 (wrap64 (a0_0 - 1)), .int .i64 a0_1, .bool false, .bool false]) ?_ 2 _ (by first | rfl | simp [*]); (with_reducible repeat first | apply kN | apply kD | apply kA); refine blk_put (cs := #[.int .i64 (wrap64 (a0_0 - 1)), .int .i64 0, .bool false, .bool false]) ?_ 1 _ rfl; (with_reducible repeat first | apply kN | apply kD | apply kA); refine blk_put (cs := #[.int .i64 0, .int .i64 0, .bool false, .bool false]) ?_ 0 _ rfl; (with_reducible repeat first | apply kN | apply kD | apply kA); refine blk_far ?_ NB155_154.out _; (with_reducible repeat first | apply kN | apply kD | apply kA); refine blk_far ?_ NB155_154.out _; (with_reducible repeat first | apply kN | apply kD | apply kA); refine blk_far ?_ NB155_154.out _; (with_reducible repeat first | apply kN | apply kD | apply kA); exact BK155.out) Tryd.underlying65 rfl (by kernel_rfl)) rfl ?_
      exact ⟨by first | rfl | (simp [errW_none, errW_some] <;> rfl) | (simp [*, errW_none, errW_some] <;> rfl), by repeat (first | (with_reducible first | exact HB.out | apply below_alloc | apply pw_below_drewN | apply below_drew1 | refine below_set ?_ GE154.out | refine below_set ?_ GE155.out) | exact HB.out)⟩
     ·replace c26 := Bool.eq_false_iff.mpr c26
      subst c26
      have H1 : (if a1 = 10 then (some (wrap64 (a0_0 - 1), a0_1, true, (a1 == 10))) else (some (wrap64 (a0_0 - 1), a0_1, (a1 == 7), (a1 == 10)))) = some (r1, r2, r3, r4) := by rw [if_neg (show ¬ (false = true) by decide)] at H; exact H
      clear H
      have H := H1
      clear H1
      by_cases c30 : a1 = 10
      ·rw [if_pos c30] at H
       have c30b0 : (a1 == 10) = true := beq_iff_eq.mpr c30
       have c30b1 : (a1 != 10) = false := bne_eq_false_iff_eq.mpr c30
       clear c30
       simp only [Option.some.injEq, Prod.mk.injEq] at H
       obtain ⟨rfl, rfl, rfl, rfl⟩ := H
       have hnb31 := NB154_155.out
       have hnc31 := NB155_154.out
       obtain ⟨hcz32_0, hcz32_1, hcz32_2, hcz32_3, hfz32_0, hfz32_1, hfz32_2, hfz32_3⟩ := cz4 BK154.out
       obtain ⟨hcz33_0, hcz33_1, hcz33_2, hcz33_3, hfz33_0, hfz33_1, hfz33_2, hfz33_3⟩ := cz4 BK155.out
       go_wp2
       refine bodyPost_ret (results_cell_row rfl _ _ gb155 65 #[.int .i64 (wrap64 (a0_0 - 1)), .int .i64 a0_1, .bool true, .bool (a1 == 10)] (0, 0) _ rfl (by (with_reducible repeat first | apply kN | apply kD | apply kA); refine blk_put (cs := #[.int .i64 (wrap64 (a0_0 - 1)), .int .i64 a0_1, .bool true, .bool false]) ?_ 3 _ (by first | rfl | simp [*]); (with_reducible repeat first | apply kN | apply kD | apply kA); refine blk_put (cs := #[.int .i64 (wrap64 (a0_0 - 1)), .int .i64 a0_1, .bool false, .bool false]) ?_ 2 _ (by first | rfl | simp [*]); (with_reducible repeat first | apply kN | apply kD | apply kA); refine blk_put (cs := #[.int .i64 (wrap64 (a0_0 - 1)), .int .i64 0, .bool false, .bool false]) ?_ 1 _ rfl; (with_reducible repeat first | apply kN | apply kD | apply kA); refine blk_put (cs := #[.int .i64 0, .int .i64 0, .bool false, .bool false]) ?_ 0 _ rfl; (with_reducible repeat first | apply kN | apply kD | apply kA); refine blk_far ?_ NB155_154.out _; (with_reducible repeat first | apply kN | apply kD | apply kA); refine blk_far ?_ NB155_154.out _; (with_reducible repeat first | apply kN | apply kD | apply kA); refine blk_far ?_ NB155_154.out _; (with_reducible repeat first | apply kN | apply kD | apply kA); exact BK155.out) Tryd.underlying65 rfl (by kernel_rfl)) rfl ?_
       exact ⟨by first | rfl | (simp [errW_none, errW_some] <;> rfl) | (simp [*, errW_none, errW_some] <;> rfl), by repeat (first | (with_reducible first | exact HB.out | apply below_alloc | apply pw_below_drewN | apply below_drew1 | refine below_set ?_ GE154.out | refine below_set ?_ GE155.out) | exact HB.out)⟩
      ·rw [if_neg c30] at H
       have c30b0 : (a1 == 10) = false := beq_eq_false_iff_ne.mpr c30
       have c30b1 : (a1 != 10) = true := bne_iff_ne.mpr c30
       simp only [Option.some.injEq, Prod.mk.injEq] at H
       obtain ⟨rfl, rfl, rfl, rfl⟩ := H
       have hnb34 := NB154_155.out
       have hnc34 := NB155_154.out
       obtain ⟨hcz35_0, hcz35_1, hcz35_2, hcz35_3, hfz35_0, hfz35_1, hfz35_2, hfz35_3⟩ := cz4 BK154.out
       obtain ⟨hcz36_0, hcz36_1, hcz36_2, hcz36_3, hfz36_0, hfz36_1, hfz36_2, hfz36_3⟩ := cz4 BK155.out
       go_wp2
       refine bodyPost_ret (results_cell_row rfl _ _ gb155 65 #[.int .i64 (wrap64 (a0_0 - 1)), .int .i64 a0_1, .bool (a1 == 7), .bool (a1 == 10)] (0, 0) _ rfl (by (with_reducible repeat first | apply kN | apply kD | apply kA); refine blk_put (cs := #[.int .i64 (wrap64 (a0_0 - 1)), .int .i64 a0_1, .bool (a1 == 7), .bool false]) ?_ 3 _ (by first | rfl | simp [*]); (with_reducible repeat first | apply kN | apply kD | apply kA); refine blk_put (cs := #[.int .i64 (wrap64 (a0_0 - 1)), .int .i64 a0_1, .bool false, .bool false]) ?_ 2 _ (by first | rfl | simp [*]); (with_reducible repeat first | apply kN | apply kD | apply kA); refine blk_put (cs := #[.int .i64 (wrap64 (a0_0 - 1)), .int .i64 0, .bool false, .bool false]) ?_ 1 _ rfl; (with_reducible repeat first | apply kN | apply kD | apply kA); refine blk_put (cs := #[.int .i64 0, .int .i64 0, .bool false, .bool false]) ?_ 0 _ rfl; (with_reducible repeat first | apply kN | apply kD | apply kA); refine blk_far ?_ NB155_154.out _; (with_reducible repeat first | apply kN | apply kD | apply kA); refine blk_far ?_ NB155_154.out _; (with_reducible repeat first | apply kN | apply kD | apply kA); refine blk_far ?_ NB155_154.out _; (with_reducible repeat first | apply kN | apply kD | apply kA); exact BK155.out) Tryd.underlying65 rfl (by kernel_rfl)) rfl ?_
       exact ⟨by first | rfl | (simp [errW_none, errW_some] <;> rfl) | (simp [*, errW_none, errW_some] <;> rfl), by repeat (first | (with_reducible first | exact HB.out | apply below_alloc | apply pw_below_drewN | apply below_drew1 | refine below_set ?_ GE154.out | refine below_set ?_ GE155.out) | exact HB.out)⟩
    ·replace c25 := Bool.eq_false_iff.mpr c25
     subst c25
     have H1 : (if a1 = 7 then (if a0_2 = true then (some (a0_0, wrap64 (a0_1 + 1), true, (a1 == 10))) else (if a1 = 10 then (some (a0_0, wrap64 (a0_1 + 1), true, (a1 == 10))) else (some (a0_0, wrap64 (a0_1 + 1), (a1 == 7), (a1 == 10))))) else (if a1 = 9 then (if a0_2 = true then (some (a0_0, wrap64 (a0_1 - 1), true, (a1 == 10))) else (if a1 = 10 then (some (a0_0, wrap64 (a0_1 - 1), true, (a1 == 10))) else (some (a0_0, wrap64 (a0_1 - 1), (a1 == 7), (a1 == 10))))) else (if a1 = 11 then (some (0, 0, false, false)) else (if a0_2 = true then (some (a0_0, a0_1, true, (a1 == 10))) else (if a1 = 10 then (some (a0_0, a0_1, true, (a1 == 10))) else (some (a0_0, a0_1, (a1 == 7), (a1 == 10)))))))) = some (r1, r2, r3, r4) := by rw [if_neg (show ¬ (false = true) by decide)] at H; exact H
     clear H
     have H := H1
     clear H1
     by_cases c37 : a1 = 7
     ·rw [if_pos c37] at H
      have c37b0 : (a1 == 7) = true := beq_iff_eq.mpr c37
      have c37b1 : (a1 != 7) = false := bne_eq_false_iff_eq.mpr c37
      clear c37
      by_cases c38 : a0_2 = true
      ·subst c38
       have H1 : (some (a0_0, wrap64 (a0_1 + 1), true, (a1 == 10))) = some (r1, r2, r3, r4) := by rw [if_pos rfl] at H; exact H
       clear H
       have H := H1
       clear H1
       simp only [Option.some.injEq, Prod.mk.injEq] at H
       obtain ⟨rfl, rfl, rfl, rfl⟩ := H
       have hnb39 := NB154_155.out
       have hnc39 := NB155_154.out
       obtain ⟨hcz40_0, hcz40_1, hcz40_2, hcz40_3, hfz40_0, hfz40_1, hfz40_2, hfz40_3⟩ := cz4 BK154.out
       obtain ⟨hcz41_0, hcz41_1, hcz41_2, hcz41_3, hfz41_0, hfz41_1, hfz41_2, hfz41_3⟩ := cz4 BK155.out
       go_wp2
       refine bodyPost_ret (results_cell_row rfl _ _ gb155 65 #[.int .i64 a0_0, .int .i64 (wrap64 (a0_1 + 1)), .bool true, .bool (a1 == 10)] (0, 0) _ rfl (by (with_reducible repeat first | apply kN | apply kD | apply kA); refine blk_put (cs := #[.int .i64 a0_0, .int .i64 (wrap64 (a0_1 + 1)), .bool true, .bool false]) ?_ 3 _ (by first | rfl | simp [*]); (with_reducible repeat first | apply kN | apply kD | apply kA); refine blk_put (cs := #[.int .i64 a0_0, .int .i64 (wrap64 (a0_1 + 1)), .bool false, .bool false]) ?_ 2 _ (by first | rfl | simp [*]); (with_reducible repeat first | apply kN | apply kD | apply kA); refine blk_put (cs := #[.int .i64 a0_0, .int .i64 0, .bool false, .bool false]) ?_ 1 _ rfl; (with_reducible repeat first | apply kN | apply kD | apply kA); refine blk_put (cs := #[.int .i64 0, .int .i64 0, .bool false, .bool false]) ?_ 0 _ rfl; (with_reducible repeat first | apply kN | apply kD | apply kA); refine blk_far ?_ NB155_154.out _; (with_reducible repeat first | apply kN | apply kD | apply kA); refine blk_far ?_ NB155_154.out _; (with_reducible repeat first | apply kN | apply kD | apply kA); refine blk_far ?_ NB155_154.out _; (with_reducible repeat first | apply kN | apply kD | apply kA); exact BK155.out) Tryd.underlying65 rfl (by kernel_rfl)) rfl ?_
       exact ⟨by first | rfl | (simp [errW_none, errW_some] <;> rfl) | (simp [*, errW_none, errW_some] <;> rfl), by repeat (first | (with_reducible first | exact HB.out | apply below_alloc | apply pw_below_drewN | apply below_drew1 | refine below_set ?_ GE154.out | refine below_set ?_ GE155.out) | exact HB.out)⟩
      ·replace c38 := Bool.eq_false_iff.mpr c38
       subst c38
       have H1 : (if a1 = 10 then (some (a0_0, wrap64 (a0_1 + 1), true, (a1 == 10))) else (some (a0_0, wrap64 (a0_1 + 1), (a1 == 7), (a1 == 10)))) = some (r1, r2, r3, r4) := by rw [if_neg (show ¬ (false = true) by decide)] at H; exact H
       clear H
       have H := H1
       clear H1
       by_cases c42 : a1 = 10
       ·rw [if_pos c42] at H
        have c42b0 : (a1 == 10) = true := beq_iff_eq.mpr c42
        have c42b1 : (a1 != 10) = false := bne_eq_false_iff_eq.mpr c42
        clear c42
        simp only [Option.some.injEq, Prod.mk.injEq] at H
        obtain ⟨rfl, rfl, rfl, rfl⟩ := H
        have hnb43 := NB154_155.out
        have hnc43 := NB155_154.out
        obtain ⟨hcz44_0, hcz44_1, hcz44_2, hcz44_3, hfz44_0, hfz44_1, hfz44_2, hfz44_3⟩ := cz4 BK154.out
        obtain ⟨hcz45_0, hcz45_1, hcz45_2, hcz45_3, hfz45_0, hfz45_1, hfz45_2, hfz45_3⟩ := cz4 BK155.out
        go_wp2
        refine bodyPost_ret (results_cell_row rfl _ _ gb155 65 #[.int .i64 a0_0, .int .i64 (wrap64 (a0_1 + 1)), .bool true, .bool (a1 == 10)] (0, 0) _ rfl (by (with_reducible repeat first | apply kN | apply kD | apply kA); refine blk_put (cs := #[.int .i64 a0_0, .int .i64 (wrap64 (a0_1 + 1)), .bool true, .bool false]) ?_ 3 _ (by first | rfl | simp [*]); (with_reducible repeat first | apply kN | apply kD | apply kA); refine blk_put (cs := #[.int .i64 a0_0, .int .i64 (wrap64 (a0_1 + 1)), .bool false, .bool false]) ?_ 2 _ (by first | rfl | simp [*]); (with_reducible repeat first | apply kN | apply kD | apply kA); refine blk_put (cs := #[.int .i64 a0_0, .int .i64 0, .bool false, .bool false]) ?_ 1 _ rfl; (with_reducible repeat first | apply kN | apply kD | apply kA); refine blk_put (cs := #[.int .i64 0, .int .i64 0, .bool false, .bool false]) ?_ 0 _ rfl; (with_reducible repeat first | apply kN | apply kD | apply kA); refine blk_far ?_ NB155_154.out _; (with_reducible repeat first | apply kN | apply kD | apply kA); refine blk_far ?_ NB155_154.out _; (with_reducible repeat first | apply kN | apply kD | apply kA); refine blk_far ?_ NB155_154.out _; (with_reducible repeat first | apply kN | apply kD | apply kA); exact BK155.out) Tryd.underlying65 rfl (by kernel_rfl)) rfl ?_
        exact ⟨by first | rfl | (simp [errW_none, errW_some] <;> rfl) | (simp [*, errW_none, errW_some] <;> rfl), by repeat (first | (with_reducible first | exact HB.out | apply below_alloc | apply pw_below_drewN | apply below_drew1 | refine below_set ?_ GE154.out | refine below_set ?_ GE155.out) | exact HB.out)⟩
       ·rw [if_neg c42] at H
        have c42b0 : (a1 == 10) = false := beq_eq_false_iff_ne.mpr c42
        have c42b1 : (a1 != 10) = true := bne_iff_ne.mpr c42
        simp only [Option.some.injEq, Prod.mk.injEq] at H
        obtain ⟨rfl, rfl, rfl, rfl⟩ := H
        have hnb46 := NB154_155.out
        have hnc46 := NB155_154.out
        obtain ⟨hcz47_0, hcz47_1, hcz47_2, hcz47_3, hfz47_0, hfz47_1, hfz47_2, hfz47_3⟩ := cz4 BK154.out
        obtain ⟨hcz48_0, hcz48_1, hcz48_2, hcz48_3, hfz48_0, hfz48_1, hfz48_2, hfz48_3⟩ := cz4 BK155.out
        go_wp2
        refine bodyPost_ret (results_cell_row rfl _ _ gb155 65 #[.int .i64 a0_0, .int .i64 (wrap64 (a0_1 + 1)), .bool (a1 == 7), .bool (a1 == 10)] (0, 0) _ rfl (by (with_reducible repeat first | apply kN | apply kD | apply kA); refine blk_put (cs := #[.int .i64 a0_0, .int .i64 (wrap64 (a0_1 + 1)), .bool (a1 == 7), .bool false]) ?_ 3 _ (by first | rfl | simp [*]); (with_reducible repeat first | apply kN | apply kD | apply kA); refine blk_put (cs := #[.int .i64 a0_0, .int .i64 (wrap64 (a0_1 + 1)), .bool false, .bool false]) ?_ 2 _ (by first | rfl | simp [*]); (with_reducible repeat first | apply kN | apply kD | apply kA); refine blk_put (cs := #[.int .i64 a0_0, .int .i64 0, .bool false, .bool false]) ?_ 1 _ rfl; (with_reducible repeat first | apply kN | apply kD | apply kA); refine blk_put (cs := #[.int .i64 0, .int .i64 0, .bool false, .bool false]) ?_ 0 _ rfl; (with_reducible repeat first | apply kN | apply kD | apply kA); refine blk_far ?_ NB155_154.out _; (with_reducible repeat first | apply kN | apply kD | apply kA); refine blk_far ?_ NB155_154.out _; (with_reducible repeat first | apply kN | apply kD | apply kA); refine blk_far ?_ NB155_154.out _; (with_reducible repeat first | apply kN | apply kD | apply kA); exact BK155.out) Tryd.underlying65 rfl (by kernel_rfl)) rfl ?_
        exact ⟨by first | rfl | (simp [errW_none, errW_some] <;> rfl) | (simp [*, errW_none, errW_some] <;> rfl), by repeat (first | (with_reducible first | exact HB.out | apply below_alloc | apply pw_below_drewN | apply below_drew1 | refine below_set ?_ GE154.out | refine below_set ?_ GE155.out) | exact HB.out)⟩
     ·rw [if_neg c37] at H
      have c37b0 : (a1 == 7) = false := beq_eq_false_iff_ne.mpr c37
      have c37b1 : (a1 != 7) = true := bne_iff_ne.mpr c37
      by_cases c49 : a1 = 9
      ·rw [if_pos c49] at H
       have c49b0 : (a1 == 9) = true := beq_iff_eq.mpr c49
       have c49b1 : (a1 != 9) = false := bne_eq_false_iff_eq.mpr c49
       clear c49
       by_cases c50 : a0_2 = true
       ·subst c50
        have H1 : (some (a0_0, wrap64 (a0_1 - 1), true, (a1 == 10))) = some (r1, r2, r3, r4) := by rw [if_pos rfl] at H; exact H
        clear H
        have H := H1
        clear H1
        simp only [Option.some.injEq, Prod.mk.injEq] at H
        obtain ⟨rfl, rfl, rfl, rfl⟩ := H
        have hnb51 := NB154_155.out
        have hnc51 := NB155_154.out
        obtain ⟨hcz52_0, hcz52_1, hcz52_2, hcz52_3, hfz52_0, hfz52_1, hfz52_2, hfz52_3⟩ := cz4 BK154.out
        obtain ⟨hcz53_0, hcz53_1, hcz53_2, hcz53_3, hfz53_0, hfz53_1, hfz53_2, hfz53_3⟩ := cz4 BK155.out
        go_wp2
        refine bodyPost_ret (results_cell_row rfl _ _ gb155 65 #[.int .i64 a0_0, .int .i64 (wrap64 (a0_1 - 1)), .bool true, .bool (a1 == 10)] (0, 0) _ rfl (by (with_reducible repeat first | apply kN | apply kD | apply kA); refine blk_put (cs := #[.int .i64 a0_0, .int .i64 (wrap64 (a0_1 - 1)), .bool true, .bool false]) ?_ 3 _ (by first | rfl | simp [*]); (with_reducible repeat first | apply kN | apply kD | apply kA); refine blk_put (cs := #[.int .i64 a0_0, .int .i64 (wrap64 (a0_1 - 1)), .bool false, .bool false]) ?_ 2 _ (by first | rfl | simp [*]); (with_reducible repeat first | apply kN | apply kD | apply kA); refine blk_put (cs := #[.int .i64 a0_0, .int .i64 0, .bool false, .bool false]) ?_ 1 _ rfl; (with_reducible repeat first | apply kN | apply kD | apply kA); refine blk_put (cs := #[.int .i64 0, .int .i64 0, .bool false, .bool false]) ?_ 0 _ rfl; (with_reducible repeat first | apply kN | apply kD | apply kA); refine blk_far ?_ NB155_154.out _; (with_reducible repeat first | apply kN | apply kD | apply kA); refine blk_far ?_ NB155_154.out _; (with_reducible repeat first | apply kN | apply kD | apply kA); refine blk_far ?_ NB155_154.out _; (with_reducible repeat first | apply kN | apply kD | apply kA); exact BK155.out) Tryd.underlying65 rfl (by kernel_rfl)) rfl ?_
        exact ⟨by first | rfl | (simp [errW_none, errW_some] <;> rfl) | (simp [*, errW_none, errW_some] <;> rfl), by repeat (first | (with_reducible first | exact HB.out | apply below_alloc | apply pw_below_drewN | apply below_drew1 | refine below_set ?_ GE154.out | refine below_set ?_ GE155.out) | exact HB.out)⟩
       ·replace c50 := Bool.eq_false_iff.mpr c50
        subst c50
        have H1 : (if a1 = 10 then (some (a0_0, wrap64 (a0_1 - 1), true, (a1 == 10))) else (some (a0_0, wrap64 (a0_1 - 1), (a1 == 7), (a1 == 10)))) = some (r1, r2, r3, r4) := by rw [if_neg (show ¬ (false = true) by decide)] at H; exact H
        clear H
        have H := H1
        clear H1
        by_cases c54 : a1 = 10
        ·rw [if_pos c54] at H
         have c54b0 : (a1 == 10) = true := beq_iff_eq.mpr c54
         have c54b1 : (a1 != 10) = false := bne_eq_false_iff_eq.mpr c54
         clear c54
         simp only [Option.some.injEq, Prod.mk.injEq] at H
         obtain ⟨rfl, rfl, rfl, rfl⟩ := H
         have hnb55 := NB154_155.out
         have hnc55 := NB155_154.out
         obtain ⟨hcz56_0, hcz56_1, hcz56_2, hcz56_3, hfz56_0, hfz56_1, hfz56_2, hfz56_3⟩ := cz4 BK154.out
         obtain ⟨hcz57_0, hcz57_1, hcz57_2, hcz57_3, hfz57_0, hfz57_1, hfz57_2, hfz57_3⟩ := cz4 BK155.out
         go_wp2
         refine bodyPost_ret (results_cell_row rfl _ _ gb155 65 #[.int .i64 a0_0, .int .i64 (wrap64 (a0_1 - 1)), .bool true, .bool (a1 == 10)] (0, 0) _ rfl (by (with_reducible repeat first | apply kN | apply kD | apply kA); refine blk_put (cs := #[.int .i64 a0_0, .int .i64 (wrap64 (a0_1 - 1)), .bool true, .bool false]) ?_ 3 _ (by first | rfl | simp [*]); (with_reducible repeat first | apply kN | apply kD | apply kA); refine blk_put (cs := #[.int .i64 a0_0, .int .i64 (wrap64 (a0_1 - 1)), .bool false, .bool false]) ?_ 2 _ (by first | rfl | simp [*]); (with_reducible repeat first | apply kN | apply kD | apply kA); refine blk_put (cs := #[.int .i64 a0_0, .int .i64 0, .bool false, .bool false]) ?_ 1 _ rfl; (with_reducible repeat first | apply kN | apply kD | apply kA); refine blk_put (cs := #[.int .i64 0, .int .i64 0, .bool false, .bool false]) ?_ 0 _ rfl; (with_reducible repeat first | apply kN | apply kD | apply kA); refine blk_far ?_ NB155_154.out _; (with_reducible repeat first | apply kN | apply kD | apply kA); refine blk_far ?_ NB155_154.out _; (with_reducible repeat first | apply kN | apply kD | apply kA); refine blk_far ?_ NB155_154.out _; (with_reducible repeat first | apply kN | apply kD | apply kA); exact BK155.out) Tryd.underlying65 rfl (by kernel_rfl)) rfl ?_
         exact ⟨by first | rfl | (simp [errW_none, errW_some] <;> rfl) | (simp [*, errW_none, errW_some] <;> rfl), by repeat (first | (with_reducible first | exact HB.out | apply below_alloc | apply pw_below_drewN | apply below_drew1 | refine below_set ?_ GE154.out | refine below_set ?_ GE155.out) | exact HB.out)⟩
        ·rw [if_neg c54] at H
         have c54b0 : (a1 == 10) = false := beq_eq_false_iff_ne.mpr c54
         have c54b1 : (a1 != 10) = true := bne_iff_ne.mpr c54
         simp only [Option.some.injEq, Prod.mk.injEq] at H
         obtain ⟨rfl, rfl, rfl, rfl⟩ := H
         have hnb58 := NB154_155.out
         have hnc58 := NB155_154.out
         obtain ⟨hcz59_0, hcz59_1, hcz59_2, hcz59_3, hfz59_0, hfz59_1, hfz59_2, hfz59_3⟩ := cz4 BK154.out
         obtain ⟨hcz60_0, hcz60_1, hcz60_2, hcz60_3, hfz60_0, hfz60_1, hfz60_2, hfz60_3⟩ := cz4 BK155.out
         go_wp2
         refine bodyPost_ret (results_cell_row rfl _ _ gb155 65 #[.int .i64 a0_0, .int .i64 (wrap64 (a0_1 - 1)), .bool (a1 == 7), .bool (a1 == 10)] (0, 0) _ rfl (by (with_reducible repeat first | apply kN | apply kD | apply kA); refine blk_put (cs := #[.int .i64 a0_0, .int .i64 (wrap64 (a0_1 - 1)), .bool (a1 == 7), .bool false]) ?_ 3 _ (by first | rfl | simp [*]); (with_reducible repeat first | apply kN | apply kD | apply kA); refine blk_put (cs := #[.int .i64 a0_0, .int .i64 (wrap64 (a0_1 - 1)), .bool false, .bool false]) ?_ 2 _ (by first | rfl | simp [*]); (with_reducible repeat first | apply kN | apply kD | apply kA); refine blk_put (cs := #[.int .i64 a0_0, .int .i64 0, .bool false, .bool false]) ?_ 1 _ rfl; (with_reducible repeat first | apply kN | apply kD | apply kA); refine blk_put (cs := #[.int .i64 0, .int .i64 0, .bool false, .bool false]) ?_ 0 _ rfl; (with_reducible repeat first | apply kN | apply kD | apply kA); refine blk_far ?_ NB155_154.out _; (with_reducible repeat first | apply kN | apply kD | apply kA); refine blk_far ?_ NB155_154.out _; (with_reducible repeat first | apply kN | apply kD | apply kA); refine blk_far ?_ NB155_154.out _; (with_reducible repeat first | apply kN | apply kD | apply kA); exact BK155.out) Tryd.underlying65 rfl (by kernel_rfl)) rfl ?_
         exact ⟨by first | rfl | (simp [errW_none, errW_some] <;> rfl) | (simp [*, errW_none, errW_some] <;> rfl), by repeat (first | (with_reducible first | exact HB.out | apply below_alloc | apply pw_below_drewN | apply below_drew1 | refine below_set ?_ GE154.out | refine below_set ?_ GE155.out) | exact HB.out)⟩
      ·rw [if_neg c49] at H
       have c49b0 : (a1 == 9) = false := beq_eq_false_iff_ne.mpr c49
       have c49b1 : (a1 != 9) = true := bne_iff_ne.mpr c49
       by_cases c61 : a1 = 11
       ·rw [if_pos c61] at H
        have c61b0 : (a1 == 11) = true := beq_iff_eq.mpr c61
        have c61b1 : (a1 != 11) = false := bne_eq_false_iff_eq.mpr c61
        clear c61
        simp only [Option.some.injEq, Prod.mk.injEq] at H
        obtain ⟨rfl, rfl, rfl, rfl⟩ := H
        have hnb62 := NB155_154.out
        have hnc62 := NB154_155.out
        obtain ⟨hcz63_0, hcz63_1, hcz63_2, hcz63_3, hfz63_0, hfz63_1, hfz63_2, hfz63_3⟩ := cz4 BK155.out
        go_wp2
        refine bodyPost_ret (results_cell_row rfl _ _ gb155 65 #[.int .i64 0, .int .i64 0, .bool false, .bool false] (0, 0) _ rfl (by (with_reducible repeat first | apply kN | apply kD | apply kA); refine blk_put (cs := #[.int .i64 0, .int .i64 0, .bool false, .bool false]) ?_ 3 _ (by first | rfl | simp [*]); (with_reducible repeat first | apply kN | apply kD | apply kA); refine blk_put (cs := #[.int .i64 0, .int .i64 0, .bool false, .bool false]) ?_ 2 _ (by first | rfl | simp [*]); (with_reducible repeat first | apply kN | apply kD | apply kA); refine blk_put (cs := #[.int .i64 0, .int .i64 0, .bool false, .bool false]) ?_ 1 _ rfl; (with_reducible repeat first | apply kN | apply kD | apply kA); refine blk_put (cs := #[.int .i64 0, .int .i64 0, .bool false, .bool false]) ?_ 0 _ rfl; (with_reducible repeat first | apply kN | apply kD | apply kA); exact BK155.out) Tryd.underlying65 rfl (by kernel_rfl)) rfl ?_
        exact ⟨by first | rfl | (simp [errW_none, errW_some] <;> rfl) | (simp [*, errW_none, errW_some] <;> rfl), by repeat (first | (with_reducible first | exact HB.out | apply below_alloc | apply pw_below_drewN | apply below_drew1 | refine below_set ?_ GE154.out | refine below_set ?_ GE155.out) | exact HB.out)⟩
       ·rw [if_neg c61] at H
        have c61b0 : (a1 == 11) = false := beq_eq_false_iff_ne.mpr c61
        have c61b1 : (a1 != 11) = true := bne_iff_ne.mpr c61
        by_cases c64 : a0_2 = true
        ·subst c64
         have H1 : (some (a0_0, a0_1, true, (a1 == 10))) = some (r1, r2, r3, r4) := by rw [if_pos rfl] at H; exact H
         clear H
         have H := H1
         clear H1
         simp only [Option.some.injEq, Prod.mk.injEq] at H
         obtain ⟨rfl, rfl, rfl, rfl⟩ := H
         have hnb65 := NB154_155.out
         have hnc65 := NB155_154.out
         obtain ⟨hcz66_0, hcz66_1, hcz66_2, hcz66_3, hfz66_0, hfz66_1, hfz66_2, hfz66_3⟩ := cz4 BK154.out
         obtain ⟨hcz67_0, hcz67_1, hcz67_2, hcz67_3, hfz67_0, hfz67_1, hfz67_2, hfz67_3⟩ := cz4 BK155.out
         go_wp2
         refine bodyPost_ret (results_cell_row rfl _ _ gb155 65 #[.int .i64 a0_0, .int .i64 a0_1, .bool true, .bool (a1 == 10)] (0, 0) _ rfl (by (with_reducible repeat first | apply kN | apply kD | apply kA); refine blk_put (cs := #[.int .i64 a0_0, .int .i64 a0_1, .bool true, .bool false]) ?_ 3 _ (by first | rfl | simp [*]); (with_reducible repeat first | apply kN | apply kD | apply kA); refine blk_put (cs := #[.int .i64 a0_0, .int .i64 a0_1, .bool false, .bool false]) ?_ 2 _ (by first | rfl | simp [*]); (with_reducible repeat first | apply kN | apply kD | apply kA); refine blk_put (cs := #[.int .i64 a0_0, .int .i64 0, .bool false, .bool false]) ?_ 1 _ rfl; (with_reducible repeat first | apply kN | apply kD | apply kA); refine blk_put (cs := #[.int .i64 0, .int .i64 0, .bool false, .bool false]) ?_ 0 _ rfl; (with_reducible repeat first | apply kN | apply kD | apply kA); refine blk_far ?_ NB155_154.out _; (with_reducible repeat first | apply kN | apply kD | apply kA); refine blk_far ?_ NB155_154.out _; (with_reducible repeat first | apply kN | apply kD | apply kA); exact BK155.out) Tryd.underlying65 rfl (by kernel_rfl)) rfl ?_
         exact ⟨by first | rfl | (simp [errW_none, errW_some] <;> rfl) | (simp [*, errW_none, errW_some] <;> rfl), by repeat (first | (with_reducible first | exact HB.out | apply below_alloc | apply pw_below_drewN | apply below_drew1 | refine below_set ?_ GE154.out | refine below_set ?_ GE155.out) | exact HB.out)⟩
        ·replace c64 := Bool.eq_false_iff.mpr c64
         subst c64
         have H1 : (if a1 = 10 then (some (a0_0, a0_1, true, (a1 == 10))) else (some (a0_0, a0_1, (a1 == 7), (a1 == 10)))) = some (r1, r2, r3, r4) := by rw [if_neg (show ¬ (false = true) by decide)] at H; exact H
         clear H
         have H := H1
         clear H1
         by_cases c68 : a1 = 10
         ·rw [if_pos c68] at H
          have c68b0 : (a1 == 10) = true := beq_iff_eq.mpr c68
          have c68b1 : (a1 != 10) = false := bne_eq_false_iff_eq.mpr c68
          clear c68
          simp only [Option.some.injEq, Prod.mk.injEq] at H
          obtain ⟨rfl, rfl, rfl, rfl⟩ := H
          have hnb69 := NB154_155.out
          have hnc69 := NB155_154.out
          obtain ⟨hcz70_0, hcz70_1, hcz70_2, hcz70_3, hfz70_0, hfz70_1, hfz70_2, hfz70_3⟩ := cz4 BK154.out
          obtain ⟨hcz71_0, hcz71_1, hcz71_2, hcz71_3, hfz71_0, hfz71_1, hfz71_2, hfz71_3⟩ := cz4 BK155.out
          go_wp2
          refine bodyPost_ret (results_cell_row rfl _ _ gb155 65 #[.int .i64 a0_0, .int .i64 a0_1, .bool true, .bool (a1 == 10)] (0, 0) _ rfl (by (with_reducible repeat first | apply kN | apply kD | apply kA); refine blk_put (cs := #[.int .i64 a0_0, .int .i64 a0_1, .bool true, .bool false]) ?_ 3 _ (by first | rfl | simp [*]); (with_reducible repeat first | apply kN | apply kD | apply kA); refine blk_put (cs := #[.int .i64 a0_0, .int .i64 a0_1, .bool false, .bool false]) ?_ 2 _ (by first | rfl | simp [*]); (with_reducible repeat first | apply kN | apply kD | apply kA); refine blk_put (cs := #[.int .i64 a0_0, .int .i64 0, .bool false, .bool false]) ?_ 1 _ rfl; (with_reducible repeat first | apply kN | apply kD | apply kA); refine blk_put (cs := #[.int .i64 0, .int .i64 0, .bool false, .bool false]) ?_ 0 _ rfl; (with_reducible repeat first | apply kN | apply kD | apply kA); refine blk_far ?_ NB155_154.out _; (with_reducible repeat first | apply kN | apply kD | apply kA); refine blk_far ?_ NB155_154.out _; (with_reducible repeat first | apply kN | apply kD | apply kA); exact BK155.out) Tryd.underlying65 rfl (by kernel_rfl)) rfl ?_
          exact ⟨by first | rfl | (simp [errW_none, errW_some] <;> rfl) | (simp [*, errW_none, errW_some] <;> rfl), by repeat (first | (with_reducible first | exact HB.out | apply below_alloc | apply pw_below_drewN | apply below_drew1 | refine below_set ?_ GE154.out | refine below_set ?_ GE155.out) | exact HB.out)⟩
         ·rw [if_neg c68] at H
          have c68b0 : (a1 == 10) = false := beq_eq_false_iff_ne.mpr c68
          have c68b1 : (a1 != 10) = true := bne_iff_ne.mpr c68
          simp only [Option.some.injEq, Prod.mk.injEq] at H
          obtain ⟨rfl, rfl, rfl, rfl⟩ := H
          have hnb72 := NB154_155.out
          have hnc72 := NB155_154.out
          obtain ⟨hcz73_0, hcz73_1, hcz73_2, hcz73_3, hfz73_0, hfz73_1, hfz73_2, hfz73_3⟩ := cz4 BK154.out
          obtain ⟨hcz74_0, hcz74_1, hcz74_2, hcz74_3, hfz74_0, hfz74_1, hfz74_2, hfz74_3⟩ := cz4 BK155.out
          go_wp2
          refine bodyPost_ret (results_cell_row rfl _ _ gb155 65 #[.int .i64 a0_0, .int .i64 a0_1, .bool (a1 == 7), .bool (a1 == 10)] (0, 0) _ rfl (by (with_reducible repeat first | apply kN | apply kD | apply kA); refine blk_put (cs := #[.int .i64 a0_0, .int .i64 a0_1, .bool (a1 == 7), .bool false]) ?_ 3 _ (by first | rfl | simp [*]); (with_reducible repeat first | apply kN | apply kD | apply kA); refine blk_put (cs := #[.int .i64 a0_0, .int .i64 a0_1, .bool false, .bool false]) ?_ 2 _ (by first | rfl | simp [*]); (with_reducible repeat first | apply kN | apply kD | apply kA); refine blk_put (cs := #[.int .i64 a0_0, .int .i64 0, .bool false, .bool false]) ?_ 1 _ rfl; (with_reducible repeat first | apply kN | apply kD | apply kA); refine blk_put (cs := #[.int .i64 0, .int .i64 0, .bool false, .bool false]) ?_ 0 _ rfl; (with_reducible repeat first | apply kN | apply kD | apply kA); refine blk_far ?_ NB155_154.out _; (with_reducible repeat first | apply kN | apply kD | apply kA); refine blk_far ?_ NB155_154.out _; (with_reducible repeat first | apply kN | apply kD | apply kA); exact BK155.out) Tryd.underlying65 rfl (by kernel_rfl)) rfl ?_
          exact ⟨by first | rfl | (simp [errW_none, errW_some] <;> rfl) | (simp [*, errW_none, errW_some] <;> rfl), by repeat (first | (with_reducible first | exact HB.out | apply below_alloc | apply pw_below_drewN | apply below_drew1 | refine below_set ?_ GE154.out | refine below_set ?_ GE155.out) | exact HB.out)⟩

end Go.Proofs.YtkmfdlcmdgdepaaDoor.U
