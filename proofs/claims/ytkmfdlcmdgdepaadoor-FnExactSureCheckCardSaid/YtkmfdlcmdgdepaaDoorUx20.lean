/- Functions of this seat as Lean functions, and that the Go code comes to their answers: laid by a program (the kit's printer over all laws of the seat at once, some walks turned by the session's own fix.py). -/
import Derived.Test.YtkmfdlcmdgdepaaDoorUzTab
import Derived.Test.YtkmfdlcmdgdepaaDoorUx0
import Derived.Test.YtkmfdlcmdgdepaaDoorUx19
namespace Go.Proofs.YtkmfdlcmdgdepaaDoor.U
open Go.RowKit Go.Proofs.YtkmfdlcmdgdepaaDoorW.PrintWords Go.Proofs.YtkmfdlcmdgdepaaDoorW.PrintLast Go.Proofs.YtkmfdlcmdgdepaaDoorW.PrintMore
attribute [local go_sem] max2_int min2_int max_two min_two max_three min_three max_four min_four   -- for this text's walks alone
set_option linter.unusedVariables false
set_option linter.unusedSimpArgs false

/-! ### impl_SureState_wrong: function 38 -/
mutual
def impl_SureState_wrong.j0 : Nat → Bool → Bool → Int → Bool → Int → Int → Option (Int)
 | 0, _, _, _, _, _, _ => none
 | k + 1, x2, x3, x9, x22, x261000, x261001 => if x22 = true then (some 4) else (if x9 ≥ 7 then (impl_SureState_wrong.j1 k x2 x3 x9 (decide (x261000 > 1)) x261000 x261001) else (impl_SureState_wrong.j1 k x2 x3 x9 false x261000 x261001))
def impl_SureState_wrong.j1 : Nat → Bool → Bool → Int → Bool → Int → Int → Option (Int)
 | 0, _, _, _, _, _, _ => none
 | k + 1, x2, x3, x9, x30, x261000, x261001 => if x30 = true then (some 5) else (if x2 = true then (if x9 = 3 then (if x261000 = 1 then (impl_SureState_wrong.j2 k x3 x9 true x261000 x261001) else (if x9 = 5 then (impl_SureState_wrong.j2 k x3 x9 (x261000 == 2) x261000 x261001) else (impl_SureState_wrong.j2 k x3 x9 false x261000 x261001))) else (if x9 = 6 then (if x261000 = 1 then (impl_SureState_wrong.j2 k x3 x9 true x261000 x261001) else (if x9 = 5 then (impl_SureState_wrong.j2 k x3 x9 (x261000 == 2) x261000 x261001) else (impl_SureState_wrong.j2 k x3 x9 false x261000 x261001))) else (if x9 = 5 then (impl_SureState_wrong.j2 k x3 x9 (x261000 == 2) x261000 x261001) else (impl_SureState_wrong.j2 k x3 x9 false x261000 x261001)))) else (impl_SureState_wrong.j2 k x3 x9 false x261000 x261001))
def impl_SureState_wrong.j2 : Nat → Bool → Int → Bool → Int → Int → Option (Int)
 | 0, _, _, _, _, _ => none
 | k + 1, x3, x9, x38, x261000, x261001 => if x38 = true then (some 6) else (if x9 = 7 then (impl_SureState_wrong.j3 k x3 x9 (decide (x261001 ≥ 8)) x261000 x261001) else (impl_SureState_wrong.j3 k x3 x9 false x261000 x261001))
def impl_SureState_wrong.j3 : Nat → Bool → Int → Bool → Int → Int → Option (Int)
 | 0, _, _, _, _, _ => none
 | k + 1, x3, x9, x62, x261000, x261001 => if x62 = true then (impl_SureState_wrong.j4 k x3 x9 x62) else (if x9 = 8 then (if x261001 = 0 then (impl_SureState_wrong.j4 k x3 x9 (x261001 == 0)) else (if x9 = 11 then (impl_SureState_wrong.j4 k x3 x9 (x261001 != 0)) else (impl_SureState_wrong.j4 k x3 x9 false))) else (if x9 = 9 then (if x261001 = 0 then (impl_SureState_wrong.j4 k x3 x9 (x261001 == 0)) else (if x9 = 11 then (impl_SureState_wrong.j4 k x3 x9 (x261001 != 0)) else (impl_SureState_wrong.j4 k x3 x9 false))) else (if x9 = 11 then (impl_SureState_wrong.j4 k x3 x9 (x261001 != 0)) else (impl_SureState_wrong.j4 k x3 x9 false))))
def impl_SureState_wrong.j4 : Nat → Bool → Int → Bool → Option (Int)
 | 0, _, _, _ => none
 | k + 1, x3, x9, x62 => if x62 = true then (some 7) else (if x9 = 8 then (if x3 = true then (some 0) else (some 8)) else (if x9 = 9 then (if x3 = true then (some 0) else (some 8)) else (if x9 = 11 then (if x3 = true then (some 0) else (some 8)) else (some 0))))
end
def impl_SureState_wrong.f (k : Nat) (a0_0 : Int) (a0_1 : Int) (a1_0 : Int) (a1_1 : Int) (l1_2 : List (S55)) (a2 : Bool) (a3 : Bool) : Option (Int) := (impl_ListOk.f k a1_0 a1_1 l1_2).bind fun t262 => (if t262 = true then ((impl_needs.f a1_0).bind fun t263 => (if a0_0 < t263 then (some 3) else (if a1_0 = 1 then (impl_SureState_wrong.j0 k a2 a3 a1_0 (decide (a0_0 ≥ 16)) a0_0 a0_1) else (impl_SureState_wrong.j0 k a2 a3 a1_0 false a0_0 a0_1)))) else (some 2))
set_option maxHeartbeats 8000000 in
set_option maxRecDepth 100000 in
theorem impl_SureState_wrong.calls (k : Nat) (a0_0 : Int) (a0_1 : Int) (a1_0 : Int) (a1_1 : Int) (A1_2 : Option Addr) (c1_2 : Nat) (l1_2 : List (S55)) (a2 : Bool) (a3 : Bool) (r : Int) (w : World) (ht : TB.Tab w) (hr1_2 : Kd.C k55 w A1_2 l1_2.length l1_2) (hc1_2 : l1_2.length ≤ c1_2) (h : impl_SureState_wrong.f k a0_0 a0_1 a1_0 a1_1 l1_2 a2 a3 = some r) :
  Calls Tryd.prog 38 #[.agg #[.int .i64 a0_0, .int .i64 a0_1], .agg #[.int .i64 a1_0, .int .i64 a1_1, .slice A1_2 l1_2.length c1_2], .bool a2, .bool a3] w fun e w' => e = .returned (.int .i64 r) ∧ Below w.heap.size w w' := by
 have HT := Aside0.mk ht
 clear ht
 have hu69 := Tryd.underlying69
 have hu38 := Tryd.underlying38
 have HR1_2 := Aside0.mk hr1_2
 have HC1_2 := Aside0.mk hc1_2
 clear hr1_2 hc1_2
 have HB := Aside0.mk (Below.refl w.heap.size w)
 have H : ((impl_ListOk.f k a1_0 a1_1 l1_2).bind fun t262 => (if t262 = true then ((impl_needs.f a1_0).bind fun t263 => (if a0_0 < t263 then (some 3) else (if a1_0 = 1 then (impl_SureState_wrong.j0 k a2 a3 a1_0 (decide (a0_0 ≥ 16)) a0_0 a0_1) else (impl_SureState_wrong.j0 k a2 a3 a1_0 false a0_0 a0_1)))) else (some 2))) = some r := h
 clear h
 replace H := Option.bind_eq_some_iff.mp H
 obtain ⟨t262, A50, H⟩ := H
 replace H : (if t262 = true then ((impl_needs.f a1_0).bind fun t263 => (if a0_0 < t263 then (some 3) else (if a1_0 = 1 then (impl_SureState_wrong.j0 k a2 a3 a1_0 (decide (a0_0 ≥ 16)) a0_0 a0_1) else (impl_SureState_wrong.j0 k a2 a3 a1_0 false a0_0 a0_1)))) else (some 2)) = some r := H
 have A5 := Aside0.mk A50
 clear A50
 by_cases c6 : t262 = true
 ·subst c6
  have H1 : ((impl_needs.f a1_0).bind fun t263 => (if a0_0 < t263 then (some 3) else (if a1_0 = 1 then (impl_SureState_wrong.j0 k a2 a3 a1_0 (decide (a0_0 ≥ 16)) a0_0 a0_1) else (impl_SureState_wrong.j0 k a2 a3 a1_0 false a0_0 a0_1)))) = some r := by rw [if_pos rfl] at H; exact H
  clear H
  have H := H1
  clear H1
  replace H := Option.bind_eq_some_iff.mp H
  obtain ⟨t263, A70, H⟩ := H
  replace H : (if a0_0 < t263 then (some 3) else (if a1_0 = 1 then (impl_SureState_wrong.j0 k a2 a3 a1_0 (decide (a0_0 ≥ 16)) a0_0 a0_1) else (impl_SureState_wrong.j0 k a2 a3 a1_0 false a0_0 a0_1))) = some r := H
  have A7 := Aside0.mk A70
  clear A70
  by_cases c8 : a0_0 < t263
  ·rw [if_pos c8] at H
   have c8b0 : decide (a0_0 < t263) = true := decide_eq_true c8
   clear c8
   obtain rfl := Option.some.inj H
   go_enter Tryd.func38, Tryd.ntmps38
   go_wp2_with (first | ((with_reducible refine gate_dst (N := 4) rfl ?_); refine box_event ?hg (N := 4) ?hd (cs := #[.int .i64 a0_0, .int .i64 a0_1]) (t := 69) ?hr ?_; (case hd => rfl); (case hg => rfl); (case hr => first | (go_simp; done) | (go_simp; rfl)); intro gb260 hg w9 hbox hb; obtain ⟨n0_, n2_⟩ := two_ (by with_reducible repeat first | exact HB.out | apply bA | apply bN | apply bD) hb hg; have n1_ := Aside0.mk hbox; have n3_ := n2_; clear HB; have HB := n0_; have BK260 := n1_; have GE260 := n3_; clear n0_ n1_ n2_ n3_; clear hb hbox hg) | ((with_reducible refine gate_dst (N := 5) rfl ?_); refine box_event ?hg (N := 5) ?hd (cs := #[.int .i64 a1_0, .int .i64 a1_1, .slice A1_2 l1_2.length c1_2]) (t := 38) ?hr ?_; (case hd => rfl); (case hg => rfl); (case hr => first | (go_simp; done) | (go_simp; rfl)); intro gb261 hg w10 hbox hb; obtain ⟨n0_, n5_, n6_⟩ := old_ (g := gb260) (o := .cells #[.int .i64 a0_0, .int .i64 a0_1] 69 (0, 0)) (by (with_reducible repeat first | apply kN | apply kD | apply kA); exact BK260.out) hb hg; obtain ⟨n1_, n3_⟩ := two_ (by with_reducible repeat first | exact HB.out | apply bA | apply bN | apply bD | refine bS ?_ GE260.out) hb hg; have n2_ := Aside0.mk (hbox); have n4_ := n3_; clear BK260; clear HB; have BK260 := n0_; have HB := n1_; have BK261 := n2_; have GE261 := n4_; have NB260_261 := n5_; have NB261_260 := n6_; clear n0_ n1_ n2_ n3_ n4_ n5_ n6_; clear hb hbox hg; have hnb11 := NB261_260.out; have hnc11 := NB260_261.out; obtain ⟨hcz12_0, hcz12_1, hcz12_2, hfz12_0, hfz12_1, hfz12_2⟩ := cz3 BK261.out) | (go_at_call 14; (with_reducible refine (impl_ListOk.calls k a1_0 a1_1 _ _ l1_2 true _ ?sideT ?side1 ?side2 A5.out).mono ?_); (case sideT => exact TB.Tab.below HT.out (by with_reducible repeat first | exact HB.out | apply bA | apply bN | apply bD | refine bS ?_ GE260.out | refine bS ?_ GE261.out)); (case side1 => repeat (first | exact (Kd.C_below HR1_2.out HB.out) | (with_reducible refine Kd.C_alloc ?_ _) | (with_reducible refine Kd.C_drewN ?_ _) | (with_reducible refine Kd.C_drew ?_))); (case side2 => exact HC1_2.out); rintro e w13 ⟨rfl, hb⟩; have n0_ := Aside0.mk (blk_below (g := gb260) (o := .cells #[.int .i64 a0_0, .int .i64 a0_1] 69 (0, 0)) (by (with_reducible repeat first | apply kN | apply kD | apply kA); exact BK260.out) hb); have n1_ := Aside0.mk (blk_below (g := gb261) (o := .cells #[.int .i64 a1_0, .int .i64 a1_1, .slice A1_2 l1_2.length c1_2] 38 (0, 0)) (by (with_reducible repeat first | apply kN | apply kD | apply kA); exact BK261.out) hb); have n2_ := Aside0.mk (below_step (by with_reducible repeat first | exact HB.out | apply bA | apply bN | apply bD | refine bS ?_ GE260.out | refine bS ?_ GE261.out) hb); clear BK260; clear BK261; clear HB; have BK260 := n0_; have BK261 := n1_; have HB := n2_; clear n0_ n1_ n2_; (try clear hb); (try clear hb2); (try clear hk); (try clear hi); obtain ⟨hcz14_0, hcz14_1, hfz14_0, hfz14_1⟩ := cz2 BK260.out))
   repeat (go_quiet (first | (go_at_call 58; (with_reducible refine (impl_needs.calls a1_0 t263 _ A7.out).mono ?_); rintro e w' ⟨rfl, ⟨nd, rfl⟩⟩; (try first | exact ⟨rfl, _, World.drewN_drewN _ _ _⟩ | exact ⟨rfl, _, Eq.trans (World.drewN_drewN _ _ _) (congrArg (World.drewN _) (Nat.add_assoc _ _ _))⟩))); try go_wp2_with (first | (go_at_call 58; (with_reducible refine (impl_needs.calls a1_0 t263 _ A7.out).mono ?_); rintro e w' ⟨rfl, ⟨nd, rfl⟩⟩; (try first | exact ⟨rfl, _, World.drewN_drewN _ _ _⟩ | exact ⟨rfl, _, Eq.trans (World.drewN_drewN _ _ _) (congrArg (World.drewN _) (Nat.add_assoc _ _ _))⟩))))
   go_ret
   exact ⟨by first | rfl | (simp [errW_none, errW_some] <;> rfl) | (simp [*, errW_none, errW_some] <;> rfl), by repeat (first | (with_reducible first | exact HB.out | apply below_alloc | apply pw_below_drewN | apply below_drew1 | refine below_set ?_ GE260.out | refine below_set ?_ GE261.out) | exact HB.out)⟩
  ·rw [if_neg c8] at H
   have c8b0 : decide (a0_0 < t263) = false := decide_eq_false c8
   clear c8
   have HC15 := Aside0.mk H
   clear H
   go_enter Tryd.func38, Tryd.ntmps38
   go_upto_region 6 with (first | ((with_reducible refine gate_dst (N := 4) rfl ?_); refine box_event ?hg (N := 4) ?hd (cs := #[.int .i64 a0_0, .int .i64 a0_1]) (t := 69) ?hr ?_; (case hd => rfl); (case hg => rfl); (case hr => first | (go_simp; done) | (go_simp; rfl)); intro gb260 hg w16 hbox hb; obtain ⟨n0_, n2_⟩ := two_ (by with_reducible repeat first | exact HB.out | apply bA | apply bN | apply bD) hb hg; have n1_ := Aside0.mk hbox; have n3_ := n2_; clear HB; have HB := n0_; have BK260 := n1_; have GE260 := n3_; clear n0_ n1_ n2_ n3_; clear hb hbox hg) | ((with_reducible refine gate_dst (N := 5) rfl ?_); refine box_event ?hg (N := 5) ?hd (cs := #[.int .i64 a1_0, .int .i64 a1_1, .slice A1_2 l1_2.length c1_2]) (t := 38) ?hr ?_; (case hd => rfl); (case hg => rfl); (case hr => first | (go_simp; done) | (go_simp; rfl)); intro gb261 hg w17 hbox hb; obtain ⟨n0_, n5_, n6_⟩ := old_ (g := gb260) (o := .cells #[.int .i64 a0_0, .int .i64 a0_1] 69 (0, 0)) (by (with_reducible repeat first | apply kN | apply kD | apply kA); exact BK260.out) hb hg; obtain ⟨n1_, n3_⟩ := two_ (by with_reducible repeat first | exact HB.out | apply bA | apply bN | apply bD | refine bS ?_ GE260.out) hb hg; have n2_ := Aside0.mk (hbox); have n4_ := n3_; clear BK260; clear HB; have BK260 := n0_; have HB := n1_; have BK261 := n2_; have GE261 := n4_; have NB260_261 := n5_; have NB261_260 := n6_; clear n0_ n1_ n2_ n3_ n4_ n5_ n6_; clear hb hbox hg; have hnb18 := NB261_260.out; have hnc18 := NB260_261.out; obtain ⟨hcz19_0, hcz19_1, hcz19_2, hfz19_0, hfz19_1, hfz19_2⟩ := cz3 BK261.out) | (go_at_call 14; (with_reducible refine (impl_ListOk.calls k a1_0 a1_1 _ _ l1_2 true _ ?sideT ?side1 ?side2 A5.out).mono ?_); (case sideT => exact TB.Tab.below HT.out (by with_reducible repeat first | exact HB.out | apply bA | apply bN | apply bD | refine bS ?_ GE260.out | refine bS ?_ GE261.out)); (case side1 => repeat (first | exact (Kd.C_below HR1_2.out HB.out) | (with_reducible refine Kd.C_alloc ?_ _) | (with_reducible refine Kd.C_drewN ?_ _) | (with_reducible refine Kd.C_drew ?_))); (case side2 => exact HC1_2.out); rintro e w20 ⟨rfl, hb⟩; have n0_ := Aside0.mk (blk_below (g := gb260) (o := .cells #[.int .i64 a0_0, .int .i64 a0_1] 69 (0, 0)) (by (with_reducible repeat first | apply kN | apply kD | apply kA); exact BK260.out) hb); have n1_ := Aside0.mk (blk_below (g := gb261) (o := .cells #[.int .i64 a1_0, .int .i64 a1_1, .slice A1_2 l1_2.length c1_2] 38 (0, 0)) (by (with_reducible repeat first | apply kN | apply kD | apply kA); exact BK261.out) hb); have n2_ := Aside0.mk (below_step (by with_reducible repeat first | exact HB.out | apply bA | apply bN | apply bD | refine bS ?_ GE260.out | refine bS ?_ GE261.out) hb); clear BK260; clear BK261; clear HB; have BK260 := n0_; have BK261 := n1_; have HB := n2_; clear n0_ n1_ n2_; (try clear hb); (try clear hb2); (try clear hk); (try clear hi); obtain ⟨hcz21_0, hcz21_1, hfz21_0, hfz21_1⟩ := cz2 BK260.out))
   repeat (go_quiet (first | (go_at_call 58; (with_reducible refine (impl_needs.calls a1_0 t263 _ A7.out).mono ?_); rintro e w' ⟨rfl, ⟨nd, rfl⟩⟩; (try first | exact ⟨rfl, _, World.drewN_drewN _ _ _⟩ | exact ⟨rfl, _, Eq.trans (World.drewN_drewN _ _ _) (congrArg (World.drewN _) (Nat.add_assoc _ _ _))⟩))); go_upto_region 6 with (first | (go_at_call 58; (with_reducible refine (impl_needs.calls a1_0 t263 _ A7.out).mono ?_); rintro e w' ⟨rfl, ⟨nd, rfl⟩⟩; (try first | exact ⟨rfl, _, World.drewN_drewN _ _ _⟩ | exact ⟨rfl, _, Eq.trans (World.drewN_drewN _ _ _) (congrArg (World.drewN _) (Nat.add_assoc _ _ _))⟩))))
   (try simp only [Act.put, List.setIfInBounds_toArray, List.set_cons_zero, List.set_cons_succ])
   go_cut [22] (fun v22 wc => ∃ (kq : Nat) (x22_14 : Bool), v22 = .bool x22_14 ∧ Aside0 (impl_SureState_wrong.j0 kq a2 a3 a1_0 x22_14 a0_0 a0_1 = some r) ∧ Aside0 (kq ≤ k) ∧ Aside0 (wc.heap[gb260]? = some (.cells #[.int .i64 a0_0, .int .i64 a0_1] 69 (0, 0))) ∧ Aside0 (wc.heap[gb261]? = some (.cells #[.int .i64 a1_0, .int .i64 a1_1, (.slice A1_2 l1_2.length c1_2)] 38 (0, 0))) ∧ Aside0 (Below w.heap.size w wc))
   case first =>
    have H := HC15.out
    clear HC15
    by_cases c22 : a1_0 = 1
    ·rw [if_pos c22] at H
     have c22b0 : (a1_0 == 1) = true := beq_iff_eq.mpr c22
     have c22b1 : (a1_0 != 1) = false := bne_eq_false_iff_eq.mpr c22
     clear c22
     (first | rw [c22b0] | (simp only [i64_w, i32_w]; rw [c22b0]) | skip)
     have H' := Aside0.mk H
     clear H
     have hnb23 := NB260_261.out
     have hnc23 := NB261_260.out
     obtain ⟨hcz24_0, hcz24_1, hfz24_0, hfz24_1⟩ := cz2 BK260.out
     go_wp2
     repeat (go_quiet (fail); try go_wp2)
     go_meet
     case rel => exact ⟨_, (decide (a0_0 ≥ 16)), (by first | rfl | (simp; done) | (simp [*]; done)), H', ⟨by first | omega | exact Nat.le_refl _⟩, ⟨by (with_reducible repeat first | apply kN | apply kD | apply kA); exact BK260.out⟩, ⟨by (with_reducible repeat first | apply kN | apply kD | apply kA); exact BK261.out⟩, ⟨by repeat (first | (with_reducible first | exact HB.out | apply below_alloc | apply pw_below_drewN | apply below_drew1 | refine below_set ?_ GE260.out | refine below_set ?_ GE261.out) | exact HB.out)⟩⟩
    ·rw [if_neg c22] at H
     have c22b0 : (a1_0 == 1) = false := beq_eq_false_iff_ne.mpr c22
     have c22b1 : (a1_0 != 1) = true := bne_iff_ne.mpr c22
     (first | rw [c22b0] | (simp only [i64_w, i32_w]; rw [c22b0]) | skip)
     have H' := Aside0.mk H
     clear H
     go_wp2
     repeat (go_quiet (fail); try go_wp2)
     go_meet
     case rel => exact ⟨_, (false), (by first | rfl | (simp; done) | (simp [*]; done)), H', ⟨by first | omega | exact Nat.le_refl _⟩, ⟨by (with_reducible repeat first | apply kN | apply kD | apply kA); exact BK260.out⟩, ⟨by (with_reducible repeat first | apply kN | apply kD | apply kA); exact BK261.out⟩, ⟨by repeat (first | (with_reducible first | exact HB.out | apply below_alloc | apply pw_below_drewN | apply below_drew1 | refine below_set ?_ GE260.out | refine below_set ?_ GE261.out) | exact HB.out)⟩⟩
   case rest =>
    clear HC15
    clear c8b0 hcz19_0 hcz19_1 hcz19_2 hcz21_0 hcz21_1 hfz19_0 hfz19_1 hfz19_2 hfz21_0 hfz21_1
    obtain ⟨kq, x22_14, rfl, HA, HJ14, BK260, BK261, HB⟩ := hcut
    cases kq with
    | zero => exact absurd HA.out (by simp [impl_SureState_wrong.j0])
    | succ kj14 =>
     have H := HA.out
     clear HA
     simp only [impl_SureState_wrong.j0] at H
     by_cases c25 : x22_14 = true
     ·subst c25
      have H1 : (some 4) = some r := by rw [if_pos rfl] at H; exact H
      clear H
      have H := H1
      clear H1
      obtain rfl := Option.some.inj H
      go_wp2
      repeat (go_quiet (fail); try go_wp2)
      go_ret
      exact ⟨by first | rfl | (simp [errW_none, errW_some] <;> rfl) | (simp [*, errW_none, errW_some] <;> rfl), by repeat (first | (with_reducible first | exact HB.out | apply below_alloc | apply pw_below_drewN | apply below_drew1 | refine below_set ?_ GE260.out | refine below_set ?_ GE261.out) | exact HB.out)⟩
     ·replace c25 := Bool.eq_false_iff.mpr c25
      subst c25
      have H1 : (if a1_0 ≥ 7 then (impl_SureState_wrong.j1 kj14 a2 a3 a1_0 (decide (a0_0 > 1)) a0_0 a0_1) else (impl_SureState_wrong.j1 kj14 a2 a3 a1_0 false a0_0 a0_1)) = some r := by rw [if_neg (show ¬ (false = true) by decide)] at H; exact H
      clear H
      have H := H1
      clear H1
      have HC26 := Aside0.mk H
      clear H
      go_upto_region 8 with (fail)
      repeat (go_quiet (fail); go_upto_region 8 with (fail))
      go_cut [30] (fun v30 wc => ∃ (kq : Nat) (x30_25 : Bool), v30 = .bool x30_25 ∧ Aside0 (impl_SureState_wrong.j1 kq a2 a3 a1_0 x30_25 a0_0 a0_1 = some r) ∧ Aside0 (kq ≤ kj14) ∧ Aside0 (wc.heap[gb260]? = some (.cells #[.int .i64 a0_0, .int .i64 a0_1] 69 (0, 0))) ∧ Aside0 (wc.heap[gb261]? = some (.cells #[.int .i64 a1_0, .int .i64 a1_1, (.slice A1_2 l1_2.length c1_2)] 38 (0, 0))) ∧ Aside0 (Below w.heap.size w wc))
      case first =>
       have H := HC26.out
       clear HC26
       by_cases c27 : a1_0 ≥ 7
       ·rw [if_pos c27] at H
        have c27b0 : decide (7 ≤ a1_0) = true := decide_eq_true c27
        clear c27
        (first | rw [c27b0] | (simp only [i64_w, i32_w]; rw [c27b0]) | skip)
        have H' := Aside0.mk H
        clear H
        have hnb28 := NB260_261.out
        have hnc28 := NB261_260.out
        obtain ⟨hcz29_0, hcz29_1, hfz29_0, hfz29_1⟩ := cz2 BK260.out
        go_wp2
        repeat (go_quiet (fail); try go_wp2)
        go_meet
        case rel => exact ⟨_, (decide (a0_0 > 1)), (by first | rfl | (simp; done) | (simp [*]; done)), H', ⟨by have := HJ14.out; first | omega | exact Nat.le_refl _⟩, ⟨by (with_reducible repeat first | apply kN | apply kD | apply kA); exact BK260.out⟩, ⟨by (with_reducible repeat first | apply kN | apply kD | apply kA); exact BK261.out⟩, ⟨by repeat (first | (with_reducible first | exact HB.out | apply below_alloc | apply pw_below_drewN | apply below_drew1 | refine below_set ?_ GE260.out | refine below_set ?_ GE261.out) | exact HB.out)⟩⟩
       ·rw [if_neg c27] at H
        have c27b0 : decide (7 ≤ a1_0) = false := decide_eq_false c27
        clear c27
        (first | rw [c27b0] | (simp only [i64_w, i32_w]; rw [c27b0]) | skip)
        have H' := Aside0.mk H
        clear H
        go_wp2
        repeat (go_quiet (fail); try go_wp2)
        go_meet
        case rel => exact ⟨_, (false), (by first | rfl | (simp; done) | (simp [*]; done)), H', ⟨by have := HJ14.out; first | omega | exact Nat.le_refl _⟩, ⟨by (with_reducible repeat first | apply kN | apply kD | apply kA); exact BK260.out⟩, ⟨by (with_reducible repeat first | apply kN | apply kD | apply kA); exact BK261.out⟩, ⟨by repeat (first | (with_reducible first | exact HB.out | apply below_alloc | apply pw_below_drewN | apply below_drew1 | refine below_set ?_ GE260.out | refine below_set ?_ GE261.out) | exact HB.out)⟩⟩
      case rest =>
       clear HC26
       obtain ⟨kq, x30_25, rfl, HA, HJ25, BK260, BK261, HB⟩ := hcut
       cases kq with
       | zero => exact absurd HA.out (by simp [impl_SureState_wrong.j1])
       | succ kj25 =>
        have H := HA.out
        clear HA
        simp only [impl_SureState_wrong.j1] at H
        by_cases c30 : x30_25 = true
        ·subst c30
         have H1 : (some 5) = some r := by rw [if_pos rfl] at H; exact H
         clear H
         have H := H1
         clear H1
         obtain rfl := Option.some.inj H
         go_wp2
         repeat (go_quiet (fail); try go_wp2)
         go_ret
         exact ⟨by first | rfl | (simp [errW_none, errW_some] <;> rfl) | (simp [*, errW_none, errW_some] <;> rfl), by repeat (first | (with_reducible first | exact HB.out | apply below_alloc | apply pw_below_drewN | apply below_drew1 | refine below_set ?_ GE260.out | refine below_set ?_ GE261.out) | exact HB.out)⟩
        ·replace c30 := Bool.eq_false_iff.mpr c30
         subst c30
         have H1 : (if a2 = true then (if a1_0 = 3 then (if a0_0 = 1 then (impl_SureState_wrong.j2 kj25 a3 a1_0 true a0_0 a0_1) else (if a1_0 = 5 then (impl_SureState_wrong.j2 kj25 a3 a1_0 (a0_0 == 2) a0_0 a0_1) else (impl_SureState_wrong.j2 kj25 a3 a1_0 false a0_0 a0_1))) else (if a1_0 = 6 then (if a0_0 = 1 then (impl_SureState_wrong.j2 kj25 a3 a1_0 true a0_0 a0_1) else (if a1_0 = 5 then (impl_SureState_wrong.j2 kj25 a3 a1_0 (a0_0 == 2) a0_0 a0_1) else (impl_SureState_wrong.j2 kj25 a3 a1_0 false a0_0 a0_1))) else (if a1_0 = 5 then (impl_SureState_wrong.j2 kj25 a3 a1_0 (a0_0 == 2) a0_0 a0_1) else (impl_SureState_wrong.j2 kj25 a3 a1_0 false a0_0 a0_1)))) else (impl_SureState_wrong.j2 kj25 a3 a1_0 false a0_0 a0_1)) = some r := by rw [if_neg (show ¬ (false = true) by decide)] at H; exact H
         clear H
         have H := H1
         clear H1
         have HC31 := Aside0.mk H
         clear H
         go_upto_region 10 with (fail)
         repeat (go_quiet (fail); go_upto_region 10 with (fail))
         go_cut [38] (fun v38 wc => ∃ (kq : Nat) (x38_30 : Bool), v38 = .bool x38_30 ∧ Aside0 (impl_SureState_wrong.j2 kq a3 a1_0 x38_30 a0_0 a0_1 = some r) ∧ Aside0 (kq ≤ kj25) ∧ Aside0 (wc.heap[gb260]? = some (.cells #[.int .i64 a0_0, .int .i64 a0_1] 69 (0, 0))) ∧ Aside0 (wc.heap[gb261]? = some (.cells #[.int .i64 a1_0, .int .i64 a1_1, (.slice A1_2 l1_2.length c1_2)] 38 (0, 0))) ∧ Aside0 (Below w.heap.size w wc))
         case first =>
          have H := HC31.out
          clear HC31
          by_cases c32 : a2 = true
          ·subst c32
           have H1 : (if a1_0 = 3 then (if a0_0 = 1 then (impl_SureState_wrong.j2 kj25 a3 a1_0 true a0_0 a0_1) else (if a1_0 = 5 then (impl_SureState_wrong.j2 kj25 a3 a1_0 (a0_0 == 2) a0_0 a0_1) else (impl_SureState_wrong.j2 kj25 a3 a1_0 false a0_0 a0_1))) else (if a1_0 = 6 then (if a0_0 = 1 then (impl_SureState_wrong.j2 kj25 a3 a1_0 true a0_0 a0_1) else (if a1_0 = 5 then (impl_SureState_wrong.j2 kj25 a3 a1_0 (a0_0 == 2) a0_0 a0_1) else (impl_SureState_wrong.j2 kj25 a3 a1_0 false a0_0 a0_1))) else (if a1_0 = 5 then (impl_SureState_wrong.j2 kj25 a3 a1_0 (a0_0 == 2) a0_0 a0_1) else (impl_SureState_wrong.j2 kj25 a3 a1_0 false a0_0 a0_1)))) = some r := by rw [if_pos rfl] at H; exact H
           clear H
           have H := H1
           clear H1
           by_cases c33 : a1_0 = 3
           ·rw [if_pos c33] at H
            have c33b0 : (a1_0 == 3) = true := beq_iff_eq.mpr c33
            have c33b1 : (a1_0 != 3) = false := bne_eq_false_iff_eq.mpr c33
            clear c33
            (first | rw [c33b0] | (simp only [i64_w, i32_w]; rw [c33b0]) | skip)
            by_cases c34 : a0_0 = 1
            ·rw [if_pos c34] at H
             have c34b0 : (a0_0 == 1) = true := beq_iff_eq.mpr c34
             have c34b1 : (a0_0 != 1) = false := bne_eq_false_iff_eq.mpr c34
             clear c34
             have H' := Aside0.mk H
             clear H
             have hnb35 := NB260_261.out
             have hnc35 := NB261_260.out
             obtain ⟨hcz36_0, hcz36_1, hfz36_0, hfz36_1⟩ := cz2 BK260.out
             go_wp2
             repeat (go_quiet (fail); try go_wp2)
             go_meet
             case rel => exact ⟨_, (true), (by first | rfl | (simp; done) | (simp [*]; done)), H', ⟨by have := HJ14.out; have := HJ25.out; first | omega | exact Nat.le_refl _⟩, ⟨by (with_reducible repeat first | apply kN | apply kD | apply kA); exact BK260.out⟩, ⟨by (with_reducible repeat first | apply kN | apply kD | apply kA); exact BK261.out⟩, ⟨by repeat (first | (with_reducible first | exact HB.out | apply below_alloc | apply pw_below_drewN | apply below_drew1 | refine below_set ?_ GE260.out | refine below_set ?_ GE261.out) | exact HB.out)⟩⟩
            ·rw [if_neg c34] at H
             have c34b0 : (a0_0 == 1) = false := beq_eq_false_iff_ne.mpr c34
             have c34b1 : (a0_0 != 1) = true := bne_iff_ne.mpr c34
             by_cases c37 : a1_0 = 5
             ·rw [if_pos c37] at H
              have c37b0 : (a1_0 == 5) = true := beq_iff_eq.mpr c37
              have c37b1 : (a1_0 != 5) = false := bne_eq_false_iff_eq.mpr c37
              clear c37
              have H' := Aside0.mk H
              clear H
              have hnb38 := NB260_261.out
              have hnc38 := NB261_260.out
              obtain ⟨hcz39_0, hcz39_1, hfz39_0, hfz39_1⟩ := cz2 BK260.out
              go_wp2
              repeat (go_quiet (fail); try go_wp2)
              go_meet
              case rel => exact ⟨_, ((a0_0 == 2)), (by first | rfl | (simp; done) | (simp [*]; done)), H', ⟨by have := HJ14.out; have := HJ25.out; first | omega | exact Nat.le_refl _⟩, ⟨by (with_reducible repeat first | apply kN | apply kD | apply kA); exact BK260.out⟩, ⟨by (with_reducible repeat first | apply kN | apply kD | apply kA); exact BK261.out⟩, ⟨by repeat (first | (with_reducible first | exact HB.out | apply below_alloc | apply pw_below_drewN | apply below_drew1 | refine below_set ?_ GE260.out | refine below_set ?_ GE261.out) | exact HB.out)⟩⟩
             ·rw [if_neg c37] at H
              have c37b0 : (a1_0 == 5) = false := beq_eq_false_iff_ne.mpr c37
              have c37b1 : (a1_0 != 5) = true := bne_iff_ne.mpr c37
              have H' := Aside0.mk H
              clear H
              have hnb40 := NB260_261.out
              have hnc40 := NB261_260.out
              obtain ⟨hcz41_0, hcz41_1, hfz41_0, hfz41_1⟩ := cz2 BK260.out
              go_wp2
              repeat (go_quiet (fail); try go_wp2)
              go_meet
              case rel => exact ⟨_, (false), (by first | rfl | (simp; done) | (simp [*]; done)), H', ⟨by have := HJ14.out; have := HJ25.out; first | omega | exact Nat.le_refl _⟩, ⟨by (with_reducible repeat first | apply kN | apply kD | apply kA); exact BK260.out⟩, ⟨by (with_reducible repeat first | apply kN | apply kD | apply kA); exact BK261.out⟩, ⟨by repeat (first | (with_reducible first | exact HB.out | apply below_alloc | apply pw_below_drewN | apply below_drew1 | refine below_set ?_ GE260.out | refine below_set ?_ GE261.out) | exact HB.out)⟩⟩
           ·rw [if_neg c33] at H
            have c33b0 : (a1_0 == 3) = false := beq_eq_false_iff_ne.mpr c33
            have c33b1 : (a1_0 != 3) = true := bne_iff_ne.mpr c33
            (first | rw [c33b0] | (simp only [i64_w, i32_w]; rw [c33b0]) | skip)
            by_cases c42 : a1_0 = 6
            ·rw [if_pos c42] at H
             have c42b0 : (a1_0 == 6) = true := beq_iff_eq.mpr c42
             have c42b1 : (a1_0 != 6) = false := bne_eq_false_iff_eq.mpr c42
             clear c42
             by_cases c43 : a0_0 = 1
             ·rw [if_pos c43] at H
              have c43b0 : (a0_0 == 1) = true := beq_iff_eq.mpr c43
              have c43b1 : (a0_0 != 1) = false := bne_eq_false_iff_eq.mpr c43
              clear c43
              have H' := Aside0.mk H
              clear H
              have hnb44 := NB260_261.out
              have hnc44 := NB261_260.out
              obtain ⟨hcz45_0, hcz45_1, hfz45_0, hfz45_1⟩ := cz2 BK260.out
              go_wp2
              repeat (go_quiet (fail); try go_wp2)
              go_meet
              case rel => exact ⟨_, (true), (by first | rfl | (simp; done) | (simp [*]; done)), H', ⟨by have := HJ14.out; have := HJ25.out; first | omega | exact Nat.le_refl _⟩, ⟨by (with_reducible repeat first | apply kN | apply kD | apply kA); exact BK260.out⟩, ⟨by (with_reducible repeat first | apply kN | apply kD | apply kA); exact BK261.out⟩, ⟨by repeat (first | (with_reducible first | exact HB.out | apply below_alloc | apply pw_below_drewN | apply below_drew1 | refine below_set ?_ GE260.out | refine below_set ?_ GE261.out) | exact HB.out)⟩⟩
             ·rw [if_neg c43] at H
              have c43b0 : (a0_0 == 1) = false := beq_eq_false_iff_ne.mpr c43
              have c43b1 : (a0_0 != 1) = true := bne_iff_ne.mpr c43
              by_cases c46 : a1_0 = 5
              ·rw [if_pos c46] at H
               have c46b0 : (a1_0 == 5) = true := beq_iff_eq.mpr c46
               have c46b1 : (a1_0 != 5) = false := bne_eq_false_iff_eq.mpr c46
               clear c46
               have H' := Aside0.mk H
               clear H
               have hnb47 := NB260_261.out
               have hnc47 := NB261_260.out
               obtain ⟨hcz48_0, hcz48_1, hfz48_0, hfz48_1⟩ := cz2 BK260.out
               go_wp2
               repeat (go_quiet (fail); try go_wp2)
               go_meet
               case rel => exact ⟨_, ((a0_0 == 2)), (by first | rfl | (simp; done) | (simp [*]; done)), H', ⟨by have := HJ14.out; have := HJ25.out; first | omega | exact Nat.le_refl _⟩, ⟨by (with_reducible repeat first | apply kN | apply kD | apply kA); exact BK260.out⟩, ⟨by (with_reducible repeat first | apply kN | apply kD | apply kA); exact BK261.out⟩, ⟨by repeat (first | (with_reducible first | exact HB.out | apply below_alloc | apply pw_below_drewN | apply below_drew1 | refine below_set ?_ GE260.out | refine below_set ?_ GE261.out) | exact HB.out)⟩⟩
              ·rw [if_neg c46] at H
               have c46b0 : (a1_0 == 5) = false := beq_eq_false_iff_ne.mpr c46
               have c46b1 : (a1_0 != 5) = true := bne_iff_ne.mpr c46
               have H' := Aside0.mk H
               clear H
               have hnb49 := NB260_261.out
               have hnc49 := NB261_260.out
               obtain ⟨hcz50_0, hcz50_1, hfz50_0, hfz50_1⟩ := cz2 BK260.out
               go_wp2
               repeat (go_quiet (fail); try go_wp2)
               go_meet
               case rel => exact ⟨_, (false), (by first | rfl | (simp; done) | (simp [*]; done)), H', ⟨by have := HJ14.out; have := HJ25.out; first | omega | exact Nat.le_refl _⟩, ⟨by (with_reducible repeat first | apply kN | apply kD | apply kA); exact BK260.out⟩, ⟨by (with_reducible repeat first | apply kN | apply kD | apply kA); exact BK261.out⟩, ⟨by repeat (first | (with_reducible first | exact HB.out | apply below_alloc | apply pw_below_drewN | apply below_drew1 | refine below_set ?_ GE260.out | refine below_set ?_ GE261.out) | exact HB.out)⟩⟩
            ·rw [if_neg c42] at H
             have c42b0 : (a1_0 == 6) = false := beq_eq_false_iff_ne.mpr c42
             have c42b1 : (a1_0 != 6) = true := bne_iff_ne.mpr c42
             by_cases c51 : a1_0 = 5
             ·rw [if_pos c51] at H
              have c51b0 : (a1_0 == 5) = true := beq_iff_eq.mpr c51
              have c51b1 : (a1_0 != 5) = false := bne_eq_false_iff_eq.mpr c51
              clear c51
              have H' := Aside0.mk H
              clear H
              have hnb52 := NB260_261.out
              have hnc52 := NB261_260.out
              obtain ⟨hcz53_0, hcz53_1, hfz53_0, hfz53_1⟩ := cz2 BK260.out
              go_wp2
              repeat (go_quiet (fail); try go_wp2)
              go_meet
              case rel => exact ⟨_, ((a0_0 == 2)), (by first | rfl | (simp; done) | (simp [*]; done)), H', ⟨by have := HJ14.out; have := HJ25.out; first | omega | exact Nat.le_refl _⟩, ⟨by (with_reducible repeat first | apply kN | apply kD | apply kA); exact BK260.out⟩, ⟨by (with_reducible repeat first | apply kN | apply kD | apply kA); exact BK261.out⟩, ⟨by repeat (first | (with_reducible first | exact HB.out | apply below_alloc | apply pw_below_drewN | apply below_drew1 | refine below_set ?_ GE260.out | refine below_set ?_ GE261.out) | exact HB.out)⟩⟩
             ·rw [if_neg c51] at H
              have c51b0 : (a1_0 == 5) = false := beq_eq_false_iff_ne.mpr c51
              have c51b1 : (a1_0 != 5) = true := bne_iff_ne.mpr c51
              have H' := Aside0.mk H
              clear H
              go_wp2
              repeat (go_quiet (fail); try go_wp2)
              go_meet
              case rel => exact ⟨_, (false), (by first | rfl | (simp; done) | (simp [*]; done)), H', ⟨by have := HJ14.out; have := HJ25.out; first | omega | exact Nat.le_refl _⟩, ⟨by (with_reducible repeat first | apply kN | apply kD | apply kA); exact BK260.out⟩, ⟨by (with_reducible repeat first | apply kN | apply kD | apply kA); exact BK261.out⟩, ⟨by repeat (first | (with_reducible first | exact HB.out | apply below_alloc | apply pw_below_drewN | apply below_drew1 | refine below_set ?_ GE260.out | refine below_set ?_ GE261.out) | exact HB.out)⟩⟩
          ·replace c32 := Bool.eq_false_iff.mpr c32
           subst c32
           have H1 : (impl_SureState_wrong.j2 kj25 a3 a1_0 false a0_0 a0_1) = some r := by rw [if_neg (show ¬ (false = true) by decide)] at H; exact H
           clear H
           have H := H1
           clear H1
           have H' := Aside0.mk H
           clear H
           go_wp2
           repeat (go_quiet (fail); try go_wp2)
           go_meet
           case rel => exact ⟨_, (false), (by first | rfl | (simp; done) | (simp [*]; done)), H', ⟨by have := HJ14.out; have := HJ25.out; first | omega | exact Nat.le_refl _⟩, ⟨by (with_reducible repeat first | apply kN | apply kD | apply kA); exact BK260.out⟩, ⟨by (with_reducible repeat first | apply kN | apply kD | apply kA); exact BK261.out⟩, ⟨by repeat (first | (with_reducible first | exact HB.out | apply below_alloc | apply pw_below_drewN | apply below_drew1 | refine below_set ?_ GE260.out | refine below_set ?_ GE261.out) | exact HB.out)⟩⟩
         case rest =>
          clear HC31
          obtain ⟨kq, x38_30, rfl, HA, HJ30, BK260, BK261, HB⟩ := hcut
          cases kq with
          | zero => exact absurd HA.out (by simp [impl_SureState_wrong.j2])
          | succ kj30 =>
           have H := HA.out
           clear HA
           simp only [impl_SureState_wrong.j2] at H
           by_cases c54 : x38_30 = true
           ·subst c54
            have H1 : (some 6) = some r := by rw [if_pos rfl] at H; exact H
            clear H
            have H := H1
            clear H1
            obtain rfl := Option.some.inj H
            go_wp2
            repeat (go_quiet (fail); try go_wp2)
            go_ret
            exact ⟨by first | rfl | (simp [errW_none, errW_some] <;> rfl) | (simp [*, errW_none, errW_some] <;> rfl), by repeat (first | (with_reducible first | exact HB.out | apply below_alloc | apply pw_below_drewN | apply below_drew1 | refine below_set ?_ GE260.out | refine below_set ?_ GE261.out) | exact HB.out)⟩
           ·replace c54 := Bool.eq_false_iff.mpr c54
            subst c54
            have H1 : (if a1_0 = 7 then (impl_SureState_wrong.j3 kj30 a3 a1_0 (decide (a0_1 ≥ 8)) a0_0 a0_1) else (impl_SureState_wrong.j3 kj30 a3 a1_0 false a0_0 a0_1)) = some r := by rw [if_neg (show ¬ (false = true) by decide)] at H; exact H
            clear H
            have H := H1
            clear H1
            have HC55 := Aside0.mk H
            clear H
            go_upto_region 12 with (fail)
            repeat (go_quiet (fail); go_upto_region 12 with (fail))
            go_cut [62] (fun v62 wc => ∃ (kq : Nat) (x62_54 : Bool), v62 = .bool x62_54 ∧ Aside0 (impl_SureState_wrong.j3 kq a3 a1_0 x62_54 a0_0 a0_1 = some r) ∧ Aside0 (kq ≤ kj30) ∧ Aside0 (wc.heap[gb260]? = some (.cells #[.int .i64 a0_0, .int .i64 a0_1] 69 (0, 0))) ∧ Aside0 (wc.heap[gb261]? = some (.cells #[.int .i64 a1_0, .int .i64 a1_1, (.slice A1_2 l1_2.length c1_2)] 38 (0, 0))) ∧ Aside0 (Below w.heap.size w wc))
            case first =>
             have H := HC55.out
             clear HC55
             by_cases c56 : a1_0 = 7
             ·rw [if_pos c56] at H
              have c56b0 : (a1_0 == 7) = true := beq_iff_eq.mpr c56
              have c56b1 : (a1_0 != 7) = false := bne_eq_false_iff_eq.mpr c56
              clear c56
              (first | rw [c56b0] | (simp only [i64_w, i32_w]; rw [c56b0]) | skip)
              have H' := Aside0.mk H
              clear H
              have hnb57 := NB260_261.out
              have hnc57 := NB261_260.out
              obtain ⟨hcz58_0, hcz58_1, hfz58_0, hfz58_1⟩ := cz2 BK260.out
              go_wp2
              repeat (go_quiet (fail); try go_wp2)
              go_meet
              case rel => exact ⟨_, (decide (a0_1 ≥ 8)), (by first | rfl | (simp; done) | (simp [*]; done)), H', ⟨by have := HJ14.out; have := HJ25.out; have := HJ30.out; first | omega | exact Nat.le_refl _⟩, ⟨by (with_reducible repeat first | apply kN | apply kD | apply kA); exact BK260.out⟩, ⟨by (with_reducible repeat first | apply kN | apply kD | apply kA); exact BK261.out⟩, ⟨by repeat (first | (with_reducible first | exact HB.out | apply below_alloc | apply pw_below_drewN | apply below_drew1 | refine below_set ?_ GE260.out | refine below_set ?_ GE261.out) | exact HB.out)⟩⟩
             ·rw [if_neg c56] at H
              have c56b0 : (a1_0 == 7) = false := beq_eq_false_iff_ne.mpr c56
              have c56b1 : (a1_0 != 7) = true := bne_iff_ne.mpr c56
              (first | rw [c56b0] | (simp only [i64_w, i32_w]; rw [c56b0]) | skip)
              have H' := Aside0.mk H
              clear H
              go_wp2
              repeat (go_quiet (fail); try go_wp2)
              go_meet
              case rel => exact ⟨_, (false), (by first | rfl | (simp; done) | (simp [*]; done)), H', ⟨by have := HJ14.out; have := HJ25.out; have := HJ30.out; first | omega | exact Nat.le_refl _⟩, ⟨by (with_reducible repeat first | apply kN | apply kD | apply kA); exact BK260.out⟩, ⟨by (with_reducible repeat first | apply kN | apply kD | apply kA); exact BK261.out⟩, ⟨by repeat (first | (with_reducible first | exact HB.out | apply below_alloc | apply pw_below_drewN | apply below_drew1 | refine below_set ?_ GE260.out | refine below_set ?_ GE261.out) | exact HB.out)⟩⟩
            case rest =>
             clear HC55
             obtain ⟨kq, x62_54, rfl, HA, HJ54, BK260, BK261, HB⟩ := hcut
             cases kq with
             | zero => exact absurd HA.out (by simp [impl_SureState_wrong.j3])
             | succ kj54 =>
              have H := HA.out
              clear HA
              simp only [impl_SureState_wrong.j3] at H
              have HC59 := Aside0.mk H
              clear H
              go_upto_if 62 with (fail)
              repeat (go_quiet (fail); go_upto_if 62 with (fail))
              go_cut [62] (fun v62 wc => ∃ (kq : Nat) (x62_58 : Bool), v62 = .bool x62_58 ∧ Aside0 (impl_SureState_wrong.j4 kq a3 a1_0 x62_58 = some r) ∧ Aside0 (kq ≤ kj54) ∧ Aside0 (wc.heap[gb260]? = some (.cells #[.int .i64 a0_0, .int .i64 a0_1] 69 (0, 0))) ∧ Aside0 (wc.heap[gb261]? = some (.cells #[.int .i64 a1_0, .int .i64 a1_1, (.slice A1_2 l1_2.length c1_2)] 38 (0, 0))) ∧ Aside0 (Below w.heap.size w wc))
              case first =>
               have H := HC59.out
               clear HC59
               by_cases c60 : x62_54 = true
               ·subst c60
                have H1 : (impl_SureState_wrong.j4 kj54 a3 a1_0 true) = some r := by rw [if_pos rfl] at H; exact H
                clear H
                have H := H1
                clear H1
                have H' := Aside0.mk H
                clear H
                go_wp2
                repeat (go_quiet (fail); try go_wp2)
                go_meet
                case rel => exact ⟨_, (true), (by first | rfl | (simp; done) | (simp [*]; done)), H', ⟨by have := HJ14.out; have := HJ25.out; have := HJ30.out; have := HJ54.out; first | omega | exact Nat.le_refl _⟩, ⟨by (with_reducible repeat first | apply kN | apply kD | apply kA); exact BK260.out⟩, ⟨by (with_reducible repeat first | apply kN | apply kD | apply kA); exact BK261.out⟩, ⟨by repeat (first | (with_reducible first | exact HB.out | apply below_alloc | apply pw_below_drewN | apply below_drew1 | refine below_set ?_ GE260.out | refine below_set ?_ GE261.out) | exact HB.out)⟩⟩
               ·replace c60 := Bool.eq_false_iff.mpr c60
                subst c60
                have H1 : (if a1_0 = 8 then (if a0_1 = 0 then (impl_SureState_wrong.j4 kj54 a3 a1_0 (a0_1 == 0)) else (if a1_0 = 11 then (impl_SureState_wrong.j4 kj54 a3 a1_0 (a0_1 != 0)) else (impl_SureState_wrong.j4 kj54 a3 a1_0 false))) else (if a1_0 = 9 then (if a0_1 = 0 then (impl_SureState_wrong.j4 kj54 a3 a1_0 (a0_1 == 0)) else (if a1_0 = 11 then (impl_SureState_wrong.j4 kj54 a3 a1_0 (a0_1 != 0)) else (impl_SureState_wrong.j4 kj54 a3 a1_0 false))) else (if a1_0 = 11 then (impl_SureState_wrong.j4 kj54 a3 a1_0 (a0_1 != 0)) else (impl_SureState_wrong.j4 kj54 a3 a1_0 false)))) = some r := by rw [if_neg (show ¬ (false = true) by decide)] at H; exact H
                clear H
                have H := H1
                clear H1
                by_cases c61 : a1_0 = 8
                ·rw [if_pos c61] at H
                 have c61b0 : (a1_0 == 8) = true := beq_iff_eq.mpr c61
                 have c61b1 : (a1_0 != 8) = false := bne_eq_false_iff_eq.mpr c61
                 clear c61
                 (first | rw [c61b0] | (simp only [i64_w, i32_w]; rw [c61b0]) | skip)
                 by_cases c62 : a0_1 = 0
                 ·rw [if_pos c62] at H
                  have c62b0 : (a0_1 == 0) = true := beq_iff_eq.mpr c62
                  have c62b1 : (a0_1 != 0) = false := bne_eq_false_iff_eq.mpr c62
                  clear c62
                  have H' := Aside0.mk H
                  clear H
                  have hnb63 := NB260_261.out
                  have hnc63 := NB261_260.out
                  obtain ⟨hcz64_0, hcz64_1, hfz64_0, hfz64_1⟩ := cz2 BK260.out
                  go_wp2
                  repeat (go_quiet (fail); try go_wp2)
                  go_meet
                  case rel => exact ⟨_, ((a0_1 == 0)), (by first | rfl | (simp; done) | (simp [*]; done)), H', ⟨by have := HJ14.out; have := HJ25.out; have := HJ30.out; have := HJ54.out; first | omega | exact Nat.le_refl _⟩, ⟨by (with_reducible repeat first | apply kN | apply kD | apply kA); exact BK260.out⟩, ⟨by (with_reducible repeat first | apply kN | apply kD | apply kA); exact BK261.out⟩, ⟨by repeat (first | (with_reducible first | exact HB.out | apply below_alloc | apply pw_below_drewN | apply below_drew1 | refine below_set ?_ GE260.out | refine below_set ?_ GE261.out) | exact HB.out)⟩⟩
                 ·rw [if_neg c62] at H
                  have c62b0 : (a0_1 == 0) = false := beq_eq_false_iff_ne.mpr c62
                  have c62b1 : (a0_1 != 0) = true := bne_iff_ne.mpr c62
                  by_cases c65 : a1_0 = 11
                  ·rw [if_pos c65] at H
                   have c65b0 : (a1_0 == 11) = true := beq_iff_eq.mpr c65
                   have c65b1 : (a1_0 != 11) = false := bne_eq_false_iff_eq.mpr c65
                   clear c65
                   have H' := Aside0.mk H
                   clear H
                   have hnb66 := NB260_261.out
                   have hnc66 := NB261_260.out
                   obtain ⟨hcz67_0, hcz67_1, hfz67_0, hfz67_1⟩ := cz2 BK260.out
                   go_wp2
                   repeat (go_quiet (fail); try go_wp2)
                   go_meet
                   case rel => exact ⟨_, ((a0_1 != 0)), (by first | rfl | (simp; done) | (simp [*]; done)), H', ⟨by have := HJ14.out; have := HJ25.out; have := HJ30.out; have := HJ54.out; first | omega | exact Nat.le_refl _⟩, ⟨by (with_reducible repeat first | apply kN | apply kD | apply kA); exact BK260.out⟩, ⟨by (with_reducible repeat first | apply kN | apply kD | apply kA); exact BK261.out⟩, ⟨by repeat (first | (with_reducible first | exact HB.out | apply below_alloc | apply pw_below_drewN | apply below_drew1 | refine below_set ?_ GE260.out | refine below_set ?_ GE261.out) | exact HB.out)⟩⟩
                  ·rw [if_neg c65] at H
                   have c65b0 : (a1_0 == 11) = false := beq_eq_false_iff_ne.mpr c65
                   have c65b1 : (a1_0 != 11) = true := bne_iff_ne.mpr c65
                   have H' := Aside0.mk H
                   clear H
                   have hnb68 := NB260_261.out
                   have hnc68 := NB261_260.out
                   obtain ⟨hcz69_0, hcz69_1, hfz69_0, hfz69_1⟩ := cz2 BK260.out
                   go_wp2
                   repeat (go_quiet (fail); try go_wp2)
                   go_meet
                   case rel => exact ⟨_, (false), (by first | rfl | (simp; done) | (simp [*]; done)), H', ⟨by have := HJ14.out; have := HJ25.out; have := HJ30.out; have := HJ54.out; first | omega | exact Nat.le_refl _⟩, ⟨by (with_reducible repeat first | apply kN | apply kD | apply kA); exact BK260.out⟩, ⟨by (with_reducible repeat first | apply kN | apply kD | apply kA); exact BK261.out⟩, ⟨by repeat (first | (with_reducible first | exact HB.out | apply below_alloc | apply pw_below_drewN | apply below_drew1 | refine below_set ?_ GE260.out | refine below_set ?_ GE261.out) | exact HB.out)⟩⟩
                ·rw [if_neg c61] at H
                 have c61b0 : (a1_0 == 8) = false := beq_eq_false_iff_ne.mpr c61
                 have c61b1 : (a1_0 != 8) = true := bne_iff_ne.mpr c61
                 (first | rw [c61b0] | (simp only [i64_w, i32_w]; rw [c61b0]) | skip)
                 by_cases c70 : a1_0 = 9
                 ·rw [if_pos c70] at H
                  have c70b0 : (a1_0 == 9) = true := beq_iff_eq.mpr c70
                  have c70b1 : (a1_0 != 9) = false := bne_eq_false_iff_eq.mpr c70
                  clear c70
                  by_cases c71 : a0_1 = 0
                  ·rw [if_pos c71] at H
                   have c71b0 : (a0_1 == 0) = true := beq_iff_eq.mpr c71
                   have c71b1 : (a0_1 != 0) = false := bne_eq_false_iff_eq.mpr c71
                   clear c71
                   have H' := Aside0.mk H
                   clear H
                   have hnb72 := NB260_261.out
                   have hnc72 := NB261_260.out
                   obtain ⟨hcz73_0, hcz73_1, hfz73_0, hfz73_1⟩ := cz2 BK260.out
                   go_wp2
                   repeat (go_quiet (fail); try go_wp2)
                   go_meet
                   case rel => exact ⟨_, ((a0_1 == 0)), (by first | rfl | (simp; done) | (simp [*]; done)), H', ⟨by have := HJ14.out; have := HJ25.out; have := HJ30.out; have := HJ54.out; first | omega | exact Nat.le_refl _⟩, ⟨by (with_reducible repeat first | apply kN | apply kD | apply kA); exact BK260.out⟩, ⟨by (with_reducible repeat first | apply kN | apply kD | apply kA); exact BK261.out⟩, ⟨by repeat (first | (with_reducible first | exact HB.out | apply below_alloc | apply pw_below_drewN | apply below_drew1 | refine below_set ?_ GE260.out | refine below_set ?_ GE261.out) | exact HB.out)⟩⟩
                  ·rw [if_neg c71] at H
                   have c71b0 : (a0_1 == 0) = false := beq_eq_false_iff_ne.mpr c71
                   have c71b1 : (a0_1 != 0) = true := bne_iff_ne.mpr c71
                   by_cases c74 : a1_0 = 11
                   ·rw [if_pos c74] at H
                    have c74b0 : (a1_0 == 11) = true := beq_iff_eq.mpr c74
                    have c74b1 : (a1_0 != 11) = false := bne_eq_false_iff_eq.mpr c74
                    clear c74
                    have H' := Aside0.mk H
                    clear H
                    have hnb75 := NB260_261.out
                    have hnc75 := NB261_260.out
                    obtain ⟨hcz76_0, hcz76_1, hfz76_0, hfz76_1⟩ := cz2 BK260.out
                    go_wp2
                    repeat (go_quiet (fail); try go_wp2)
                    go_meet
                    case rel => exact ⟨_, ((a0_1 != 0)), (by first | rfl | (simp; done) | (simp [*]; done)), H', ⟨by have := HJ14.out; have := HJ25.out; have := HJ30.out; have := HJ54.out; first | omega | exact Nat.le_refl _⟩, ⟨by (with_reducible repeat first | apply kN | apply kD | apply kA); exact BK260.out⟩, ⟨by (with_reducible repeat first | apply kN | apply kD | apply kA); exact BK261.out⟩, ⟨by repeat (first | (with_reducible first | exact HB.out | apply below_alloc | apply pw_below_drewN | apply below_drew1 | refine below_set ?_ GE260.out | refine below_set ?_ GE261.out) | exact HB.out)⟩⟩
                   ·rw [if_neg c74] at H
                    have c74b0 : (a1_0 == 11) = false := beq_eq_false_iff_ne.mpr c74
                    have c74b1 : (a1_0 != 11) = true := bne_iff_ne.mpr c74
                    have H' := Aside0.mk H
                    clear H
                    have hnb77 := NB260_261.out
                    have hnc77 := NB261_260.out
                    obtain ⟨hcz78_0, hcz78_1, hfz78_0, hfz78_1⟩ := cz2 BK260.out
                    go_wp2
                    repeat (go_quiet (fail); try go_wp2)
                    go_meet
                    case rel => exact ⟨_, (false), (by first | rfl | (simp; done) | (simp [*]; done)), H', ⟨by have := HJ14.out; have := HJ25.out; have := HJ30.out; have := HJ54.out; first | omega | exact Nat.le_refl _⟩, ⟨by (with_reducible repeat first | apply kN | apply kD | apply kA); exact BK260.out⟩, ⟨by (with_reducible repeat first | apply kN | apply kD | apply kA); exact BK261.out⟩, ⟨by repeat (first | (with_reducible first | exact HB.out | apply below_alloc | apply pw_below_drewN | apply below_drew1 | refine below_set ?_ GE260.out | refine below_set ?_ GE261.out) | exact HB.out)⟩⟩
                 ·rw [if_neg c70] at H
                  have c70b0 : (a1_0 == 9) = false := beq_eq_false_iff_ne.mpr c70
                  have c70b1 : (a1_0 != 9) = true := bne_iff_ne.mpr c70
                  by_cases c79 : a1_0 = 11
                  ·rw [if_pos c79] at H
                   have c79b0 : (a1_0 == 11) = true := beq_iff_eq.mpr c79
                   have c79b1 : (a1_0 != 11) = false := bne_eq_false_iff_eq.mpr c79
                   clear c79
                   have H' := Aside0.mk H
                   clear H
                   have hnb80 := NB260_261.out
                   have hnc80 := NB261_260.out
                   obtain ⟨hcz81_0, hcz81_1, hfz81_0, hfz81_1⟩ := cz2 BK260.out
                   go_wp2
                   repeat (go_quiet (fail); try go_wp2)
                   go_meet
                   case rel => exact ⟨_, ((a0_1 != 0)), (by first | rfl | (simp; done) | (simp [*]; done)), H', ⟨by have := HJ14.out; have := HJ25.out; have := HJ30.out; have := HJ54.out; first | omega | exact Nat.le_refl _⟩, ⟨by (with_reducible repeat first | apply kN | apply kD | apply kA); exact BK260.out⟩, ⟨by (with_reducible repeat first | apply kN | apply kD | apply kA); exact BK261.out⟩, ⟨by repeat (first | (with_reducible first | exact HB.out | apply below_alloc | apply pw_below_drewN | apply below_drew1 | refine below_set ?_ GE260.out | refine below_set ?_ GE261.out) | exact HB.out)⟩⟩
                  ·rw [if_neg c79] at H
                   have c79b0 : (a1_0 == 11) = false := beq_eq_false_iff_ne.mpr c79
                   have c79b1 : (a1_0 != 11) = true := bne_iff_ne.mpr c79
                   have H' := Aside0.mk H
                   clear H
                   go_wp2
                   repeat (go_quiet (fail); try go_wp2)
                   go_meet
                   case rel => exact ⟨_, (false), (by first | rfl | (simp; done) | (simp [*]; done)), H', ⟨by have := HJ14.out; have := HJ25.out; have := HJ30.out; have := HJ54.out; first | omega | exact Nat.le_refl _⟩, ⟨by (with_reducible repeat first | apply kN | apply kD | apply kA); exact BK260.out⟩, ⟨by (with_reducible repeat first | apply kN | apply kD | apply kA); exact BK261.out⟩, ⟨by repeat (first | (with_reducible first | exact HB.out | apply below_alloc | apply pw_below_drewN | apply below_drew1 | refine below_set ?_ GE260.out | refine below_set ?_ GE261.out) | exact HB.out)⟩⟩
              case rest =>
               clear HC59
               obtain ⟨kq, x62_58, rfl, HA, HJ58, BK260, BK261, HB⟩ := hcut
               cases kq with
               | zero => exact absurd HA.out (by simp [impl_SureState_wrong.j4])
               | succ kj58 =>
                have H := HA.out
                clear HA
                simp only [impl_SureState_wrong.j4] at H
                by_cases c82 : x62_58 = true
                ·subst c82
                 have H1 : (some 7) = some r := by rw [if_pos rfl] at H; exact H
                 clear H
                 have H := H1
                 clear H1
                 obtain rfl := Option.some.inj H
                 go_wp2
                 repeat (go_quiet (fail); try go_wp2)
                 go_ret
                 exact ⟨by first | rfl | (simp [errW_none, errW_some] <;> rfl) | (simp [*, errW_none, errW_some] <;> rfl), by repeat (first | (with_reducible first | exact HB.out | apply below_alloc | apply pw_below_drewN | apply below_drew1 | refine below_set ?_ GE260.out | refine below_set ?_ GE261.out) | exact HB.out)⟩
                ·replace c82 := Bool.eq_false_iff.mpr c82
                 subst c82
                 have H1 : (if a1_0 = 8 then (if a3 = true then (some 0) else (some 8)) else (if a1_0 = 9 then (if a3 = true then (some 0) else (some 8)) else (if a1_0 = 11 then (if a3 = true then (some 0) else (some 8)) else (some 0)))) = some r := by rw [if_neg (show ¬ (false = true) by decide)] at H; exact H
                 clear H
                 have H := H1
                 clear H1
                 by_cases c83 : a1_0 = 8
                 ·rw [if_pos c83] at H
                  have c83b0 : (a1_0 == 8) = true := beq_iff_eq.mpr c83
                  have c83b1 : (a1_0 != 8) = false := bne_eq_false_iff_eq.mpr c83
                  clear c83
                  by_cases c84 : a3 = true
                  ·subst c84
                   have H1 : (some 0) = some r := by rw [if_pos rfl] at H; exact H
                   clear H
                   have H := H1
                   clear H1
                   obtain rfl := Option.some.inj H
                   go_wp2
                   repeat (go_quiet (fail); try go_wp2)
                   go_ret
                   exact ⟨by first | rfl | (simp [errW_none, errW_some] <;> rfl) | (simp [*, errW_none, errW_some] <;> rfl), by repeat (first | (with_reducible first | exact HB.out | apply below_alloc | apply pw_below_drewN | apply below_drew1 | refine below_set ?_ GE260.out | refine below_set ?_ GE261.out) | exact HB.out)⟩
                  ·replace c84 := Bool.eq_false_iff.mpr c84
                   subst c84
                   have H1 : (some 8) = some r := by rw [if_neg (show ¬ (false = true) by decide)] at H; exact H
                   clear H
                   have H := H1
                   clear H1
                   obtain rfl := Option.some.inj H
                   go_wp2
                   repeat (go_quiet (fail); try go_wp2)
                   go_ret
                   exact ⟨by first | rfl | (simp [errW_none, errW_some] <;> rfl) | (simp [*, errW_none, errW_some] <;> rfl), by repeat (first | (with_reducible first | exact HB.out | apply below_alloc | apply pw_below_drewN | apply below_drew1 | refine below_set ?_ GE260.out | refine below_set ?_ GE261.out) | exact HB.out)⟩
                 ·rw [if_neg c83] at H
                  have c83b0 : (a1_0 == 8) = false := beq_eq_false_iff_ne.mpr c83
                  have c83b1 : (a1_0 != 8) = true := bne_iff_ne.mpr c83
                  by_cases c85 : a1_0 = 9
                  ·rw [if_pos c85] at H
                   have c85b0 : (a1_0 == 9) = true := beq_iff_eq.mpr c85
                   have c85b1 : (a1_0 != 9) = false := bne_eq_false_iff_eq.mpr c85
                   clear c85
                   by_cases c86 : a3 = true
                   ·subst c86
                    have H1 : (some 0) = some r := by rw [if_pos rfl] at H; exact H
                    clear H
                    have H := H1
                    clear H1
                    obtain rfl := Option.some.inj H
                    go_wp2
                    repeat (go_quiet (fail); try go_wp2)
                    go_ret
                    exact ⟨by first | rfl | (simp [errW_none, errW_some] <;> rfl) | (simp [*, errW_none, errW_some] <;> rfl), by repeat (first | (with_reducible first | exact HB.out | apply below_alloc | apply pw_below_drewN | apply below_drew1 | refine below_set ?_ GE260.out | refine below_set ?_ GE261.out) | exact HB.out)⟩
                   ·replace c86 := Bool.eq_false_iff.mpr c86
                    subst c86
                    have H1 : (some 8) = some r := by rw [if_neg (show ¬ (false = true) by decide)] at H; exact H
                    clear H
                    have H := H1
                    clear H1
                    obtain rfl := Option.some.inj H
                    go_wp2
                    repeat (go_quiet (fail); try go_wp2)
                    go_ret
                    exact ⟨by first | rfl | (simp [errW_none, errW_some] <;> rfl) | (simp [*, errW_none, errW_some] <;> rfl), by repeat (first | (with_reducible first | exact HB.out | apply below_alloc | apply pw_below_drewN | apply below_drew1 | refine below_set ?_ GE260.out | refine below_set ?_ GE261.out) | exact HB.out)⟩
                  ·rw [if_neg c85] at H
                   have c85b0 : (a1_0 == 9) = false := beq_eq_false_iff_ne.mpr c85
                   have c85b1 : (a1_0 != 9) = true := bne_iff_ne.mpr c85
                   by_cases c87 : a1_0 = 11
                   ·rw [if_pos c87] at H
                    have c87b0 : (a1_0 == 11) = true := beq_iff_eq.mpr c87
                    have c87b1 : (a1_0 != 11) = false := bne_eq_false_iff_eq.mpr c87
                    clear c87
                    by_cases c88 : a3 = true
                    ·subst c88
                     have H1 : (some 0) = some r := by rw [if_pos rfl] at H; exact H
                     clear H
                     have H := H1
                     clear H1
                     obtain rfl := Option.some.inj H
                     go_wp2
                     repeat (go_quiet (fail); try go_wp2)
                     go_ret
                     exact ⟨by first | rfl | (simp [errW_none, errW_some] <;> rfl) | (simp [*, errW_none, errW_some] <;> rfl), by repeat (first | (with_reducible first | exact HB.out | apply below_alloc | apply pw_below_drewN | apply below_drew1 | refine below_set ?_ GE260.out | refine below_set ?_ GE261.out) | exact HB.out)⟩
                    ·replace c88 := Bool.eq_false_iff.mpr c88
                     subst c88
                     have H1 : (some 8) = some r := by rw [if_neg (show ¬ (false = true) by decide)] at H; exact H
                     clear H
                     have H := H1
                     clear H1
                     obtain rfl := Option.some.inj H
                     go_wp2
                     repeat (go_quiet (fail); try go_wp2)
                     go_ret
                     exact ⟨by first | rfl | (simp [errW_none, errW_some] <;> rfl) | (simp [*, errW_none, errW_some] <;> rfl), by repeat (first | (with_reducible first | exact HB.out | apply below_alloc | apply pw_below_drewN | apply below_drew1 | refine below_set ?_ GE260.out | refine below_set ?_ GE261.out) | exact HB.out)⟩
                   ·rw [if_neg c87] at H
                    have c87b0 : (a1_0 == 11) = false := beq_eq_false_iff_ne.mpr c87
                    have c87b1 : (a1_0 != 11) = true := bne_iff_ne.mpr c87
                    obtain rfl := Option.some.inj H
                    go_wp2
                    repeat (go_quiet (fail); try go_wp2)
                    go_ret
                    exact ⟨by first | rfl | (simp [errW_none, errW_some] <;> rfl) | (simp [*, errW_none, errW_some] <;> rfl), by repeat (first | (with_reducible first | exact HB.out | apply below_alloc | apply pw_below_drewN | apply below_drew1 | refine below_set ?_ GE260.out | refine below_set ?_ GE261.out) | exact HB.out)⟩
 ·replace c6 := Bool.eq_false_iff.mpr c6
  subst c6
  have H1 : (some 2) = some r := by rw [if_neg (show ¬ (false = true) by decide)] at H; exact H
  clear H
  have H := H1
  clear H1
  obtain rfl := Option.some.inj H
  go_enter Tryd.func38, Tryd.ntmps38
  go_wp2_with (first | ((with_reducible refine gate_dst (N := 4) rfl ?_); refine box_event ?hg (N := 4) ?hd (cs := #[.int .i64 a0_0, .int .i64 a0_1]) (t := 69) ?hr ?_; (case hd => rfl); (case hg => rfl); (case hr => first | (go_simp; done) | (go_simp; rfl)); intro gb260 hg w89 hbox hb; obtain ⟨n0_, n2_⟩ := two_ (by with_reducible repeat first | exact HB.out | apply bA | apply bN | apply bD) hb hg; have n1_ := Aside0.mk hbox; have n3_ := n2_; clear HB; have HB := n0_; have BK260 := n1_; have GE260 := n3_; clear n0_ n1_ n2_ n3_; clear hb hbox hg) | ((with_reducible refine gate_dst (N := 5) rfl ?_); refine box_event ?hg (N := 5) ?hd (cs := #[.int .i64 a1_0, .int .i64 a1_1, .slice A1_2 l1_2.length c1_2]) (t := 38) ?hr ?_; (case hd => rfl); (case hg => rfl); (case hr => first | (go_simp; done) | (go_simp; rfl)); intro gb261 hg w90 hbox hb; obtain ⟨n0_, n5_, n6_⟩ := old_ (g := gb260) (o := .cells #[.int .i64 a0_0, .int .i64 a0_1] 69 (0, 0)) (by (with_reducible repeat first | apply kN | apply kD | apply kA); exact BK260.out) hb hg; obtain ⟨n1_, n3_⟩ := two_ (by with_reducible repeat first | exact HB.out | apply bA | apply bN | apply bD | refine bS ?_ GE260.out) hb hg; have n2_ := Aside0.mk (hbox); have n4_ := n3_; clear BK260; clear HB; have BK260 := n0_; have HB := n1_; have BK261 := n2_; have GE261 := n4_; have NB260_261 := n5_; have NB261_260 := n6_; clear n0_ n1_ n2_ n3_ n4_ n5_ n6_; clear hb hbox hg; have hnb91 := NB261_260.out; have hnc91 := NB260_261.out; obtain ⟨hcz92_0, hcz92_1, hcz92_2, hfz92_0, hfz92_1, hfz92_2⟩ := cz3 BK261.out) | (go_at_call 14; (with_reducible refine (impl_ListOk.calls k a1_0 a1_1 _ _ l1_2 false _ ?sideT ?side1 ?side2 A5.out).mono ?_); (case sideT => exact TB.Tab.below HT.out (by with_reducible repeat first | exact HB.out | apply bA | apply bN | apply bD | refine bS ?_ GE260.out | refine bS ?_ GE261.out)); (case side1 => repeat (first | exact (Kd.C_below HR1_2.out HB.out) | (with_reducible refine Kd.C_alloc ?_ _) | (with_reducible refine Kd.C_drewN ?_ _) | (with_reducible refine Kd.C_drew ?_))); (case side2 => exact HC1_2.out); rintro e w93 ⟨rfl, hb⟩; have n0_ := Aside0.mk (blk_below (g := gb260) (o := .cells #[.int .i64 a0_0, .int .i64 a0_1] 69 (0, 0)) (by (with_reducible repeat first | apply kN | apply kD | apply kA); exact BK260.out) hb); have n1_ := Aside0.mk (blk_below (g := gb261) (o := .cells #[.int .i64 a1_0, .int .i64 a1_1, .slice A1_2 l1_2.length c1_2] 38 (0, 0)) (by (with_reducible repeat first | apply kN | apply kD | apply kA); exact BK261.out) hb); have n2_ := Aside0.mk (below_step (by with_reducible repeat first | exact HB.out | apply bA | apply bN | apply bD | refine bS ?_ GE260.out | refine bS ?_ GE261.out) hb); clear BK260; clear BK261; clear HB; have BK260 := n0_; have BK261 := n1_; have HB := n2_; clear n0_ n1_ n2_; (try clear hb); (try clear hb2); (try clear hk); (try clear hi)))
  repeat (go_quiet (first | ((with_reducible refine gate_dst (N := 4) rfl ?_); refine box_event ?hg (N := 4) ?hd (cs := #[.int .i64 a0_0, .int .i64 a0_1]) (t := 69) ?hr ?_; (case hd => rfl); (case hg => rfl); (case hr => first | (go_simp; done) | (go_simp; rfl)); intro gb260 hg w89 hbox hb; obtain ⟨n0_, n2_⟩ := two_ (by with_reducible repeat first | exact HB.out | apply bA | apply bN | apply bD) hb hg; have n1_ := Aside0.mk hbox; have n3_ := n2_; clear HB; have HB := n0_; have BK260 := n1_; have GE260 := n3_; clear n0_ n1_ n2_ n3_; clear hb hbox hg)); try go_wp2_with (first | ((with_reducible refine gate_dst (N := 4) rfl ?_); refine box_event ?hg (N := 4) ?hd (cs := #[.int .i64 a0_0, .int .i64 a0_1]) (t := 69) ?hr ?_; (case hd => rfl); (case hg => rfl); (case hr => first | (go_simp; done) | (go_simp; rfl)); intro gb260 hg w89 hbox hb; obtain ⟨n0_, n2_⟩ := two_ (by with_reducible repeat first | exact HB.out | apply bA | apply bN | apply bD) hb hg; have n1_ := Aside0.mk (hbox); have n3_ := n2_; clear HB; have HB := n0_; have BK260 := n1_; have GE260 := n3_; clear n0_ n1_ n2_ n3_; clear hb hbox hg)))
  go_ret
  exact ⟨by first | rfl | (simp [errW_none, errW_some] <;> rfl) | (simp [*, errW_none, errW_some] <;> rfl), by repeat (first | (with_reducible first | exact HB.out | apply below_alloc | apply pw_below_drewN | apply below_drew1 | refine below_set ?_ GE260.out | refine below_set ?_ GE261.out) | exact HB.out)⟩

end Go.Proofs.YtkmfdlcmdgdepaaDoor.U
