/- Functions of this seat as Lean functions, and that the Go code comes to their answers: laid by a program (the kit's printer over all laws of the seat at once, some walks turned by the session's own fix.py). -/
import Derived.Test.YtkmfdlcmdgdepaaDoorUx0
import Derived.Test.YtkmfdlcmdgdepaaDoorUx8
namespace Go.Proofs.YtkmfdlcmdgdepaaDoor.U
open Go.RowKit Go.Proofs.YtkmfdlcmdgdepaaDoorW.PrintWords Go.Proofs.YtkmfdlcmdgdepaaDoorW.PrintLast Go.Proofs.YtkmfdlcmdgdepaaDoorW.PrintMore
attribute [local go_sem] max2_int min2_int max_two min_two max_three min_three max_four min_four   -- for this text's walks alone
set_option linter.unusedVariables false
set_option linter.unusedSimpArgs false

/-! ### spec_l12Wrong: function 36 -/
mutual
def spec_l12Wrong.j0 : Nat → Int → Bool → Int → Int → Int → Bool → Bool → Int → Int → List (S55) → Option (Int)
 | 0, _, _, _, _, _, _, _, _, _, _ => none
 | k + 1, x5, x6, x7, x151000, x151001, x151002, x151003, x152000, x152001, x152002 => (spec_ListOk.f k x152000 x152001 x152002).bind fun t152 => (if t152 = true then ((spec_l12Needs.f x5).bind fun t153 => (if x151000 < t153 then (some 3) else (if x5 = 1 then (spec_l12Wrong.j1 k x5 x6 x7 (x151000 == 16) x151000 x151001 x151002 x151003) else (spec_l12Wrong.j1 k x5 x6 x7 false x151000 x151001 x151002 x151003)))) else (some 2))
def spec_l12Wrong.j1 : Nat → Int → Bool → Int → Bool → Int → Int → Bool → Bool → Option (Int)
 | 0, _, _, _, _, _, _, _, _ => none
 | k + 1, x5, x6, x7, x24, x151000, x151001, x151002, x151003 => if x24 = true then (some 4) else (if x6 = true then (spec_l12Wrong.j2 k x5 x7 (decide (x151000 > 1)) x151000 x151001 x151002 x151003) else (spec_l12Wrong.j2 k x5 x7 false x151000 x151001 x151002 x151003))
def spec_l12Wrong.j2 : Nat → Int → Int → Bool → Int → Int → Bool → Bool → Option (Int)
 | 0, _, _, _, _, _, _, _ => none
 | k + 1, x5, x7, x32, x151000, x151001, x151002, x151003 => if x32 = true then (some 5) else (if x151002 = true then (if x151000 = x7 then (if x5 = 3 then (spec_l12Wrong.j3 k x5 true x151000 x151001 x151002 x151003) else (if x5 = 6 then (spec_l12Wrong.j3 k x5 true x151000 x151001 x151002 x151003) else (spec_l12Wrong.j3 k x5 (x5 == 5) x151000 x151001 x151002 x151003))) else (spec_l12Wrong.j3 k x5 false x151000 x151001 x151002 x151003)) else (spec_l12Wrong.j3 k x5 false x151000 x151001 x151002 x151003))
def spec_l12Wrong.j3 : Nat → Int → Bool → Int → Int → Bool → Bool → Option (Int)
 | 0, _, _, _, _, _, _ => none
 | k + 1, x5, x39, x151000, x151001, x151002, x151003 => if x39 = true then (some 6) else (if x5 = 7 then (spec_l12Wrong.j4 k x5 (x151001 == 8) x151000 x151001 x151002 x151003) else (spec_l12Wrong.j4 k x5 false x151000 x151001 x151002 x151003))
def spec_l12Wrong.j4 : Nat → Int → Bool → Int → Int → Bool → Bool → Option (Int)
 | 0, _, _, _, _, _, _ => none
 | k + 1, x5, x60, x151000, x151001, x151002, x151003 => if x60 = true then (some 7) else (if x5 = 8 then (spec_l12Wrong.j5 k x5 (x151001 == 0) x151000 x151001 x151002 x151003) else (if x5 = 9 then (spec_l12Wrong.j5 k x5 (x151001 == 0) x151000 x151001 x151002 x151003) else (spec_l12Wrong.j5 k x5 false x151000 x151001 x151002 x151003)))
def spec_l12Wrong.j5 : Nat → Int → Bool → Int → Int → Bool → Bool → Option (Int)
 | 0, _, _, _, _, _, _ => none
 | k + 1, x5, x68, x151000, x151001, x151002, x151003 => if x68 = true then (some 7) else (if x5 = 11 then (spec_l12Wrong.j6 k x5 (decide (x151001 > 0)) x151000 x151001 x151002 x151003) else (spec_l12Wrong.j6 k x5 false x151000 x151001 x151002 x151003))
def spec_l12Wrong.j6 : Nat → Int → Bool → Int → Int → Bool → Bool → Option (Int)
 | 0, _, _, _, _, _, _ => none
 | k + 1, x5, x80, x151000, x151001, x151002, x151003 => if x80 = true then (some 7) else (if x5 = 8 then (if x151003 = true then (some 0) else (some 8)) else (if x5 = 9 then (if x151003 = true then (some 0) else (some 8)) else (if x5 = 11 then (if x151003 = true then (some 0) else (some 8)) else (some 0))))
end
def spec_l12Wrong.f (k : Nat) (a0_0 : Int) (a0_1 : Int) (a0_2 : Bool) (a0_3 : Bool) (a1_0 : Int) (a1_1 : Int) (l1_2 : List (S55)) : Option (Int) := if a1_0 = 5 then (spec_l12Wrong.j0 k a1_0 (decide (a1_0 ≥ 7)) 2 a0_0 a0_1 a0_2 a0_3 a1_0 a1_1 l1_2) else (spec_l12Wrong.j0 k a1_0 (decide (a1_0 ≥ 7)) 1 a0_0 a0_1 a0_2 a0_3 a1_0 a1_1 l1_2)
set_option maxHeartbeats 8000000 in
set_option maxRecDepth 100000 in
theorem spec_l12Wrong.calls (k : Nat) (a0_0 : Int) (a0_1 : Int) (a0_2 : Bool) (a0_3 : Bool) (a1_0 : Int) (a1_1 : Int) (A1_2 : Option Addr) (c1_2 : Nat) (l1_2 : List (S55)) (r : Int) (w : World) (hr1_2 : Kd.C k55 w A1_2 l1_2.length l1_2) (hc1_2 : l1_2.length ≤ c1_2) (h : spec_l12Wrong.f k a0_0 a0_1 a0_2 a0_3 a1_0 a1_1 l1_2 = some r) :
  Calls Tryd.prog 36 #[.agg #[.int .i64 a0_0, .int .i64 a0_1, .bool a0_2, .bool a0_3], .agg #[.int .i64 a1_0, .int .i64 a1_1, .slice A1_2 l1_2.length c1_2]] w fun e w' => e = .returned (.int .i64 r) ∧ Below w.heap.size w w' := by
 have hu65 := Tryd.underlying65
 have hu38 := Tryd.underlying38
 have HR1_2 := Aside0.mk hr1_2
 have HC1_2 := Aside0.mk hc1_2
 clear hr1_2 hc1_2
 have HB := Aside0.mk (Below.refl w.heap.size w)
 have H : (if a1_0 = 5 then (spec_l12Wrong.j0 k a1_0 (decide (a1_0 ≥ 7)) 2 a0_0 a0_1 a0_2 a0_3 a1_0 a1_1 l1_2) else (spec_l12Wrong.j0 k a1_0 (decide (a1_0 ≥ 7)) 1 a0_0 a0_1 a0_2 a0_3 a1_0 a1_1 l1_2)) = some r := h
 clear h
 have HC3 := Aside0.mk H
 clear H
 go_enter Tryd.func36, Tryd.ntmps36
 go_upto_if 13 with (first | ((with_reducible refine gate_dst (N := 2) rfl ?_); refine box_event ?hg (N := 2) ?hd (cs := #[.int .i64 a0_0, .int .i64 a0_1, .bool a0_2, .bool a0_3]) (t := 65) ?hr ?_; (case hd => rfl); (case hg => rfl); (case hr => first | (go_simp; done) | (go_simp; rfl)); intro gb150 hg w4 hbox hb; obtain ⟨n0_, n2_⟩ := two_ (by with_reducible repeat first | exact HB.out | apply bA | apply bN | apply bD) hb hg; have n1_ := Aside0.mk hbox; have n3_ := n2_; clear HB; have HB := n0_; have BK150 := n1_; have GE150 := n3_; clear n0_ n1_ n2_ n3_; clear hb hbox hg) | ((with_reducible refine gate_dst (N := 3) rfl ?_); refine box_event ?hg (N := 3) ?hd (cs := #[.int .i64 a1_0, .int .i64 a1_1, .slice A1_2 l1_2.length c1_2]) (t := 38) ?hr ?_; (case hd => rfl); (case hg => rfl); (case hr => first | (go_simp; done) | (go_simp; rfl)); intro gb151 hg w5 hbox hb; obtain ⟨n0_, n5_, n6_⟩ := old_ (g := gb150) (o := .cells #[.int .i64 a0_0, .int .i64 a0_1, .bool a0_2, .bool a0_3] 65 (0, 0)) (by (with_reducible repeat first | apply kN | apply kD | apply kA); exact BK150.out) hb hg; obtain ⟨n1_, n3_⟩ := two_ (by with_reducible repeat first | exact HB.out | apply bA | apply bN | apply bD | refine bS ?_ GE150.out) hb hg; have n2_ := Aside0.mk (hbox); have n4_ := n3_; clear BK150; clear HB; have BK150 := n0_; have HB := n1_; have BK151 := n2_; have GE151 := n4_; have NB150_151 := n5_; have NB151_150 := n6_; clear n0_ n1_ n2_ n3_ n4_ n5_ n6_; clear hb hbox hg; have hnb6 := NB151_150.out; have hnc6 := NB150_151.out; obtain ⟨hcz7_0, hcz7_1, hcz7_2, hfz7_0, hfz7_1, hfz7_2⟩ := cz3 BK151.out))
 repeat (go_quiet (first | ((with_reducible refine gate_dst (N := 2) rfl ?_); refine box_event ?hg (N := 2) ?hd (cs := #[.int .i64 a0_0, .int .i64 a0_1, .bool a0_2, .bool a0_3]) (t := 65) ?hr ?_; (case hd => rfl); (case hg => rfl); (case hr => first | (go_simp; done) | (go_simp; rfl)); intro gb150 hg w4 hbox hb; obtain ⟨n0_, n2_⟩ := two_ (by with_reducible repeat first | exact HB.out | apply bA | apply bN | apply bD) hb hg; have n1_ := Aside0.mk hbox; have n3_ := n2_; clear HB; have HB := n0_; have BK150 := n1_; have GE150 := n3_; clear n0_ n1_ n2_ n3_; clear hb hbox hg)); go_upto_if 13 with (first | ((with_reducible refine gate_dst (N := 2) rfl ?_); refine box_event ?hg (N := 2) ?hd (cs := #[.int .i64 a0_0, .int .i64 a0_1, .bool a0_2, .bool a0_3]) (t := 65) ?hr ?_; (case hd => rfl); (case hg => rfl); (case hr => first | (go_simp; done) | (go_simp; rfl)); intro gb150 hg w4 hbox hb; obtain ⟨n0_, n2_⟩ := two_ (by with_reducible repeat first | exact HB.out | apply bA | apply bN | apply bD) hb hg; have n1_ := Aside0.mk (hbox); have n3_ := n2_; clear HB; have HB := n0_; have BK150 := n1_; have GE150 := n3_; clear n0_ n1_ n2_ n3_; clear hb hbox hg)))
 (try simp only [Act.put, List.setIfInBounds_toArray, List.set_cons_zero, List.set_cons_succ])
 go_cut [7] (fun v7 wc => ∃ (kq : Nat) (x7_2 : Int), v7 = .int .i64 x7_2 ∧ Aside0 (spec_l12Wrong.j0 kq a1_0 (decide (a1_0 ≥ 7)) x7_2 a0_0 a0_1 a0_2 a0_3 a1_0 a1_1 l1_2 = some r) ∧ Aside0 (kq ≤ k) ∧ Aside0 (wc.heap[gb150]? = some (.cells #[.int .i64 a0_0, .int .i64 a0_1, .bool a0_2, .bool a0_3] 65 (0, 0))) ∧ Aside0 (wc.heap[gb151]? = some (.cells #[.int .i64 a1_0, .int .i64 a1_1, (.slice A1_2 l1_2.length c1_2)] 38 (0, 0))) ∧ Aside0 (Below w.heap.size w wc))
 case first =>
  have H := HC3.out
  clear HC3
  by_cases c8 : a1_0 = 5
  ·rw [if_pos c8] at H
   have c8b0 : (a1_0 == 5) = true := beq_iff_eq.mpr c8
   have c8b1 : (a1_0 != 5) = false := bne_eq_false_iff_eq.mpr c8
   clear c8
   (first | rw [c8b0] | (simp only [i64_w, i32_w]; rw [c8b0]) | skip)
   have H' := Aside0.mk H
   clear H
   go_wp2
   repeat (go_quiet (fail); try go_wp2)
   go_meet
   case rel => exact ⟨_, (2), (by first | rfl | (simp; done) | (simp [*]; done)), H', ⟨by first | omega | exact Nat.le_refl _⟩, ⟨by (with_reducible repeat first | apply kN | apply kD | apply kA); exact BK150.out⟩, ⟨by (with_reducible repeat first | apply kN | apply kD | apply kA); exact BK151.out⟩, ⟨by repeat (first | (with_reducible first | exact HB.out | apply below_alloc | apply pw_below_drewN | apply below_drew1 | refine below_set ?_ GE150.out | refine below_set ?_ GE151.out) | exact HB.out)⟩⟩
  ·rw [if_neg c8] at H
   have c8b0 : (a1_0 == 5) = false := beq_eq_false_iff_ne.mpr c8
   have c8b1 : (a1_0 != 5) = true := bne_iff_ne.mpr c8
   (first | rw [c8b0] | (simp only [i64_w, i32_w]; rw [c8b0]) | skip)
   have H' := Aside0.mk H
   clear H
   go_wp2
   repeat (go_quiet (fail); try go_wp2)
   go_meet
   case rel => exact ⟨_, (1), (by first | rfl | (simp; done) | (simp [*]; done)), H', ⟨by first | omega | exact Nat.le_refl _⟩, ⟨by (with_reducible repeat first | apply kN | apply kD | apply kA); exact BK150.out⟩, ⟨by (with_reducible repeat first | apply kN | apply kD | apply kA); exact BK151.out⟩, ⟨by repeat (first | (with_reducible first | exact HB.out | apply below_alloc | apply pw_below_drewN | apply below_drew1 | refine below_set ?_ GE150.out | refine below_set ?_ GE151.out) | exact HB.out)⟩⟩
 case rest =>
  clear HC3
  clear hcz7_0 hcz7_1 hcz7_2 hfz7_0 hfz7_1 hfz7_2
  obtain ⟨kq, x7_2, rfl, HA, HJ2, BK150, BK151, HB⟩ := hcut
  cases kq with
  | zero => exact absurd HA.out (by simp [spec_l12Wrong.j0])
  | succ kj2 =>
   have H := HA.out
   clear HA
   simp only [spec_l12Wrong.j0] at H
   replace H := Option.bind_eq_some_iff.mp H
   obtain ⟨t152, A90, H⟩ := H
   replace H : (if t152 = true then ((spec_l12Needs.f a1_0).bind fun t153 => (if a0_0 < t153 then (some 3) else (if a1_0 = 1 then (spec_l12Wrong.j1 kj2 a1_0 (decide (a1_0 ≥ 7)) x7_2 (a0_0 == 16) a0_0 a0_1 a0_2 a0_3) else (spec_l12Wrong.j1 kj2 a1_0 (decide (a1_0 ≥ 7)) x7_2 false a0_0 a0_1 a0_2 a0_3)))) else (some 2)) = some r := H
   have A9 := Aside0.mk A90
   clear A90
   by_cases c10 : t152 = true
   ·subst c10
    have H1 : ((spec_l12Needs.f a1_0).bind fun t153 => (if a0_0 < t153 then (some 3) else (if a1_0 = 1 then (spec_l12Wrong.j1 kj2 a1_0 (decide (a1_0 ≥ 7)) x7_2 (a0_0 == 16) a0_0 a0_1 a0_2 a0_3) else (spec_l12Wrong.j1 kj2 a1_0 (decide (a1_0 ≥ 7)) x7_2 false a0_0 a0_1 a0_2 a0_3)))) = some r := by rw [if_pos rfl] at H; exact H
    clear H
    have H := H1
    clear H1
    replace H := Option.bind_eq_some_iff.mp H
    obtain ⟨t153, A110, H⟩ := H
    replace H : (if a0_0 < t153 then (some 3) else (if a1_0 = 1 then (spec_l12Wrong.j1 kj2 a1_0 (decide (a1_0 ≥ 7)) x7_2 (a0_0 == 16) a0_0 a0_1 a0_2 a0_3) else (spec_l12Wrong.j1 kj2 a1_0 (decide (a1_0 ≥ 7)) x7_2 false a0_0 a0_1 a0_2 a0_3))) = some r := H
    have A11 := Aside0.mk A110
    clear A110
    by_cases c12 : a0_0 < t153
    ·rw [if_pos c12] at H
     have c12b0 : decide (a0_0 < t153) = true := decide_eq_true c12
     clear c12
     obtain rfl := Option.some.inj H
     have hnb13 := NB151_150.out
     have hnc13 := NB150_151.out
     obtain ⟨hcz14_0, hcz14_1, hcz14_2, hfz14_0, hfz14_1, hfz14_2⟩ := cz3 BK151.out
     go_wp2_with (first | (go_at_call 12; (with_reducible refine (spec_ListOk.calls kj2 a1_0 a1_1 _ _ l1_2 true _ ?side1 ?side2 A9.out).mono ?_); (case side1 => repeat (first | exact (Kd.C_below HR1_2.out HB.out) | (with_reducible refine Kd.C_alloc ?_ _) | (with_reducible refine Kd.C_drewN ?_ _) | (with_reducible refine Kd.C_drew ?_))); (case side2 => exact HC1_2.out); rintro e w15 ⟨rfl, hb⟩; have n0_ := Aside0.mk (blk_below (g := gb150) (o := .cells #[.int .i64 a0_0, .int .i64 a0_1, .bool a0_2, .bool a0_3] 65 (0, 0)) (by (with_reducible repeat first | apply kN | apply kD | apply kA); exact BK150.out) hb); have n1_ := Aside0.mk (blk_below (g := gb151) (o := .cells #[.int .i64 a1_0, .int .i64 a1_1, .slice A1_2 l1_2.length c1_2] 38 (0, 0)) (by (with_reducible repeat first | apply kN | apply kD | apply kA); exact BK151.out) hb); have n2_ := Aside0.mk (below_step (by with_reducible repeat first | exact HB.out | apply bA | apply bN | apply bD | refine bS ?_ GE150.out | refine bS ?_ GE151.out) hb); clear BK150; clear BK151; clear HB; have BK150 := n0_; have BK151 := n1_; have HB := n2_; clear n0_ n1_ n2_; (try clear hb); (try clear hb2); (try clear hk); (try clear hi); obtain ⟨hcz16_0, hcz16_1, hcz16_2, hcz16_3, hfz16_0, hfz16_1, hfz16_2, hfz16_3⟩ := cz4 BK150.out))
     repeat (go_quiet (first | (go_at_call 57; (with_reducible refine (spec_l12Needs.calls a1_0 t153 _ A11.out).mono ?_); rintro e w' ⟨rfl, ⟨nd, rfl⟩⟩; (try first | exact ⟨rfl, _, World.drewN_drewN _ _ _⟩ | exact ⟨rfl, _, Eq.trans (World.drewN_drewN _ _ _) (congrArg (World.drewN _) (Nat.add_assoc _ _ _))⟩))); try go_wp2_with (first | (go_at_call 57; (with_reducible refine (spec_l12Needs.calls a1_0 t153 _ A11.out).mono ?_); rintro e w' ⟨rfl, ⟨nd, rfl⟩⟩; (try first | exact ⟨rfl, _, World.drewN_drewN _ _ _⟩ | exact ⟨rfl, _, Eq.trans (World.drewN_drewN _ _ _) (congrArg (World.drewN _) (Nat.add_assoc _ _ _))⟩))))
     go_ret
     exact ⟨by first | rfl | (simp [errW_none, errW_some] <;> rfl) | (simp [*, errW_none, errW_some] <;> rfl), by repeat (first | (with_reducible first | exact HB.out | apply below_alloc | apply pw_below_drewN | apply below_drew1 | refine below_set ?_ GE150.out | refine below_set ?_ GE151.out) | exact HB.out)⟩
    ·rw [if_neg c12] at H
     have c12b0 : decide (a0_0 < t153) = false := decide_eq_false c12
     clear c12
     have HC17 := Aside0.mk H
     clear H
     have hnb18 := NB151_150.out
     have hnc18 := NB150_151.out
     obtain ⟨hcz19_0, hcz19_1, hcz19_2, hfz19_0, hfz19_1, hfz19_2⟩ := cz3 BK151.out
     go_upto_region 10 with (first | (go_at_call 12; (with_reducible refine (spec_ListOk.calls kj2 a1_0 a1_1 _ _ l1_2 true _ ?side1 ?side2 A9.out).mono ?_); (case side1 => repeat (first | exact (Kd.C_below HR1_2.out HB.out) | (with_reducible refine Kd.C_alloc ?_ _) | (with_reducible refine Kd.C_drewN ?_ _) | (with_reducible refine Kd.C_drew ?_))); (case side2 => exact HC1_2.out); rintro e w20 ⟨rfl, hb⟩; have n0_ := Aside0.mk (blk_below (g := gb150) (o := .cells #[.int .i64 a0_0, .int .i64 a0_1, .bool a0_2, .bool a0_3] 65 (0, 0)) (by (with_reducible repeat first | apply kN | apply kD | apply kA); exact BK150.out) hb); have n1_ := Aside0.mk (blk_below (g := gb151) (o := .cells #[.int .i64 a1_0, .int .i64 a1_1, .slice A1_2 l1_2.length c1_2] 38 (0, 0)) (by (with_reducible repeat first | apply kN | apply kD | apply kA); exact BK151.out) hb); have n2_ := Aside0.mk (below_step (by with_reducible repeat first | exact HB.out | apply bA | apply bN | apply bD | refine bS ?_ GE150.out | refine bS ?_ GE151.out) hb); clear BK150; clear BK151; clear HB; have BK150 := n0_; have BK151 := n1_; have HB := n2_; clear n0_ n1_ n2_; (try clear hb); (try clear hb2); (try clear hk); (try clear hi); obtain ⟨hcz21_0, hcz21_1, hcz21_2, hcz21_3, hfz21_0, hfz21_1, hfz21_2, hfz21_3⟩ := cz4 BK150.out))
     repeat (go_quiet (first | (go_at_call 57; (with_reducible refine (spec_l12Needs.calls a1_0 t153 _ A11.out).mono ?_); rintro e w' ⟨rfl, ⟨nd, rfl⟩⟩; (try first | exact ⟨rfl, _, World.drewN_drewN _ _ _⟩ | exact ⟨rfl, _, Eq.trans (World.drewN_drewN _ _ _) (congrArg (World.drewN _) (Nat.add_assoc _ _ _))⟩))); go_upto_region 10 with (first | (go_at_call 57; (with_reducible refine (spec_l12Needs.calls a1_0 t153 _ A11.out).mono ?_); rintro e w' ⟨rfl, ⟨nd, rfl⟩⟩; (try first | exact ⟨rfl, _, World.drewN_drewN _ _ _⟩ | exact ⟨rfl, _, Eq.trans (World.drewN_drewN _ _ _) (congrArg (World.drewN _) (Nat.add_assoc _ _ _))⟩))))
     (try simp only [Act.put, List.setIfInBounds_toArray, List.set_cons_zero, List.set_cons_succ])
     go_cut [24] (fun v24 wc => ∃ (kq : Nat) (x24_16 : Bool), v24 = .bool x24_16 ∧ Aside0 (spec_l12Wrong.j1 kq a1_0 (decide (a1_0 ≥ 7)) x7_2 x24_16 a0_0 a0_1 a0_2 a0_3 = some r) ∧ Aside0 (kq ≤ kj2) ∧ Aside0 (wc.heap[gb150]? = some (.cells #[.int .i64 a0_0, .int .i64 a0_1, .bool a0_2, .bool a0_3] 65 (0, 0))) ∧ Aside0 (wc.heap[gb151]? = some (.cells #[.int .i64 a1_0, .int .i64 a1_1, (.slice A1_2 l1_2.length c1_2)] 38 (0, 0))) ∧ Aside0 (Below w.heap.size w wc))
     case first =>
      have H := HC17.out
      clear HC17
      by_cases c22 : a1_0 = 1
      ·rw [if_pos c22] at H
       have c22b0 : (a1_0 == 1) = true := beq_iff_eq.mpr c22
       have c22b1 : (a1_0 != 1) = false := bne_eq_false_iff_eq.mpr c22
       clear c22
       (first | rw [c22b0] | (simp only [i64_w, i32_w]; rw [c22b0]) | skip)
       have H' := Aside0.mk H
       clear H
       have hnb23 := NB150_151.out
       have hnc23 := NB151_150.out
       obtain ⟨hcz24_0, hcz24_1, hcz24_2, hcz24_3, hfz24_0, hfz24_1, hfz24_2, hfz24_3⟩ := cz4 BK150.out
       go_wp2
       repeat (go_quiet (fail); try go_wp2)
       go_meet
       case rel => exact ⟨_, ((a0_0 == 16)), (by first | rfl | (simp; done) | (simp [*]; done)), H', ⟨by have := HJ2.out; first | omega | exact Nat.le_refl _⟩, ⟨by (with_reducible repeat first | apply kN | apply kD | apply kA); exact BK150.out⟩, ⟨by (with_reducible repeat first | apply kN | apply kD | apply kA); exact BK151.out⟩, ⟨by repeat (first | (with_reducible first | exact HB.out | apply below_alloc | apply pw_below_drewN | apply below_drew1 | refine below_set ?_ GE150.out | refine below_set ?_ GE151.out) | exact HB.out)⟩⟩
      ·rw [if_neg c22] at H
       have c22b0 : (a1_0 == 1) = false := beq_eq_false_iff_ne.mpr c22
       have c22b1 : (a1_0 != 1) = true := bne_iff_ne.mpr c22
       (first | rw [c22b0] | (simp only [i64_w, i32_w]; rw [c22b0]) | skip)
       have H' := Aside0.mk H
       clear H
       go_wp2
       repeat (go_quiet (fail); try go_wp2)
       go_meet
       case rel => exact ⟨_, (false), (by first | rfl | (simp; done) | (simp [*]; done)), H', ⟨by have := HJ2.out; first | omega | exact Nat.le_refl _⟩, ⟨by (with_reducible repeat first | apply kN | apply kD | apply kA); exact BK150.out⟩, ⟨by (with_reducible repeat first | apply kN | apply kD | apply kA); exact BK151.out⟩, ⟨by repeat (first | (with_reducible first | exact HB.out | apply below_alloc | apply pw_below_drewN | apply below_drew1 | refine below_set ?_ GE150.out | refine below_set ?_ GE151.out) | exact HB.out)⟩⟩
     case rest =>
      clear HC17
      clear c12b0 hcz19_0 hcz19_1 hcz19_2 hcz21_0 hcz21_1 hcz21_2 hcz21_3 hfz19_0 hfz19_1 hfz19_2 hfz21_0 hfz21_1 hfz21_2 hfz21_3
      obtain ⟨kq, x24_16, rfl, HA, HJ16, BK150, BK151, HB⟩ := hcut
      cases kq with
      | zero => exact absurd HA.out (by simp [spec_l12Wrong.j1])
      | succ kj16 =>
       have H := HA.out
       clear HA
       simp only [spec_l12Wrong.j1] at H
       by_cases c25 : x24_16 = true
       ·subst c25
        have H1 : (some 4) = some r := by rw [if_pos rfl] at H; exact H
        clear H
        have H := H1
        clear H1
        obtain rfl := Option.some.inj H
        go_wp2
        repeat (go_quiet (fail); try go_wp2)
        go_ret
        exact ⟨by first | rfl | (simp [errW_none, errW_some] <;> rfl) | (simp [*, errW_none, errW_some] <;> rfl), by repeat (first | (with_reducible first | exact HB.out | apply below_alloc | apply pw_below_drewN | apply below_drew1 | refine below_set ?_ GE150.out | refine below_set ?_ GE151.out) | exact HB.out)⟩
       ·replace c25 := Bool.eq_false_iff.mpr c25
        subst c25
        have H1 : (if (decide (a1_0 ≥ 7)) = true then (spec_l12Wrong.j2 kj16 a1_0 x7_2 (decide (a0_0 > 1)) a0_0 a0_1 a0_2 a0_3) else (spec_l12Wrong.j2 kj16 a1_0 x7_2 false a0_0 a0_1 a0_2 a0_3)) = some r := by rw [if_neg (show ¬ (false = true) by decide)] at H; exact H
        clear H
        have H := H1
        clear H1
        have HC26 := Aside0.mk H
        clear H
        go_upto_region 12 with (fail)
        repeat (go_quiet (fail); go_upto_region 12 with (fail))
        go_cut [32] (fun v32 wc => ∃ (kq : Nat) (x32_25 : Bool), v32 = .bool x32_25 ∧ Aside0 (spec_l12Wrong.j2 kq a1_0 x7_2 x32_25 a0_0 a0_1 a0_2 a0_3 = some r) ∧ Aside0 (kq ≤ kj16) ∧ Aside0 (wc.heap[gb150]? = some (.cells #[.int .i64 a0_0, .int .i64 a0_1, .bool a0_2, .bool a0_3] 65 (0, 0))) ∧ Aside0 (wc.heap[gb151]? = some (.cells #[.int .i64 a1_0, .int .i64 a1_1, (.slice A1_2 l1_2.length c1_2)] 38 (0, 0))) ∧ Aside0 (Below w.heap.size w wc))
        case first =>
         have H := HC26.out
         clear HC26
         by_cases c27 : (decide (a1_0 ≥ 7)) = true
         ·rw [if_pos c27] at H
          have c27b0 : (decide (a1_0 ≥ 7)) = true := c27
          clear c27
          (first | rw [c27b0] | (simp only [i64_w, i32_w]; rw [c27b0]) | skip)
          have H' := Aside0.mk H
          clear H
          have hnb28 := NB150_151.out
          have hnc28 := NB151_150.out
          obtain ⟨hcz29_0, hcz29_1, hcz29_2, hcz29_3, hfz29_0, hfz29_1, hfz29_2, hfz29_3⟩ := cz4 BK150.out
          go_wp2
          repeat (go_quiet (fail); try go_wp2)
          (first | go_meet | (refine Met.intro ?_; go_step; (repeat apply Exists.intro); refine ⟨?rel, ?eq_⟩; (case eq_ => (try simp only [ge_iff_le, gt_iff_lt] at c27b0); simp only [c27b0]; rfl)))
          case rel => exact ⟨_, (decide (a0_0 > 1)), (by first | rfl | (simp; done) | (simp [*]; done)), H', ⟨by have := HJ2.out; have := HJ16.out; first | omega | exact Nat.le_refl _⟩, ⟨by (with_reducible repeat first | apply kN | apply kD | apply kA); exact BK150.out⟩, ⟨by (with_reducible repeat first | apply kN | apply kD | apply kA); exact BK151.out⟩, ⟨by repeat (first | (with_reducible first | exact HB.out | apply below_alloc | apply pw_below_drewN | apply below_drew1 | refine below_set ?_ GE150.out | refine below_set ?_ GE151.out) | exact HB.out)⟩⟩
         ·rw [if_neg c27] at H
          have c27b0 : (decide (a1_0 ≥ 7)) = false := by simpa using c27
          clear c27
          (first | rw [c27b0] | (simp only [i64_w, i32_w]; rw [c27b0]) | skip)
          have H' := Aside0.mk H
          clear H
          go_wp2
          repeat (go_quiet (fail); try go_wp2)
          (first | go_meet | (refine Met.intro ?_; go_step; (repeat apply Exists.intro); refine ⟨?rel, ?eq_⟩; (case eq_ => (try simp only [ge_iff_le, gt_iff_lt] at c27b0); simp only [c27b0]; rfl)))
          case rel => exact ⟨_, (false), (by first | rfl | (simp; done) | (simp [*]; done)), H', ⟨by have := HJ2.out; have := HJ16.out; first | omega | exact Nat.le_refl _⟩, ⟨by (with_reducible repeat first | apply kN | apply kD | apply kA); exact BK150.out⟩, ⟨by (with_reducible repeat first | apply kN | apply kD | apply kA); exact BK151.out⟩, ⟨by repeat (first | (with_reducible first | exact HB.out | apply below_alloc | apply pw_below_drewN | apply below_drew1 | refine below_set ?_ GE150.out | refine below_set ?_ GE151.out) | exact HB.out)⟩⟩
        case rest =>
         clear HC26
         obtain ⟨kq, x32_25, rfl, HA, HJ25, BK150, BK151, HB⟩ := hcut
         cases kq with
         | zero => exact absurd HA.out (by simp [spec_l12Wrong.j2])
         | succ kj25 =>
          have H := HA.out
          clear HA
          simp only [spec_l12Wrong.j2] at H
          by_cases c30 : x32_25 = true
          ·subst c30
           have H1 : (some 5) = some r := by rw [if_pos rfl] at H; exact H
           clear H
           have H := H1
           clear H1
           obtain rfl := Option.some.inj H
           go_wp2
           repeat (go_quiet (fail); try go_wp2)
           go_ret
           exact ⟨by first | rfl | (simp [errW_none, errW_some] <;> rfl) | (simp [*, errW_none, errW_some] <;> rfl), by repeat (first | (with_reducible first | exact HB.out | apply below_alloc | apply pw_below_drewN | apply below_drew1 | refine below_set ?_ GE150.out | refine below_set ?_ GE151.out) | exact HB.out)⟩
          ·replace c30 := Bool.eq_false_iff.mpr c30
           subst c30
           have H1 : (if a0_2 = true then (if a0_0 = x7_2 then (if a1_0 = 3 then (spec_l12Wrong.j3 kj25 a1_0 true a0_0 a0_1 a0_2 a0_3) else (if a1_0 = 6 then (spec_l12Wrong.j3 kj25 a1_0 true a0_0 a0_1 a0_2 a0_3) else (spec_l12Wrong.j3 kj25 a1_0 (a1_0 == 5) a0_0 a0_1 a0_2 a0_3))) else (spec_l12Wrong.j3 kj25 a1_0 false a0_0 a0_1 a0_2 a0_3)) else (spec_l12Wrong.j3 kj25 a1_0 false a0_0 a0_1 a0_2 a0_3)) = some r := by rw [if_neg (show ¬ (false = true) by decide)] at H; exact H
           clear H
           have H := H1
           clear H1
           have HC31 := Aside0.mk H
           clear H
           go_upto_region 14 with (fail)
           repeat (go_quiet (fail); go_upto_region 14 with (fail))
           go_cut [39] (fun v39 wc => ∃ (kq : Nat) (x39_30 : Bool), v39 = .bool x39_30 ∧ Aside0 (spec_l12Wrong.j3 kq a1_0 x39_30 a0_0 a0_1 a0_2 a0_3 = some r) ∧ Aside0 (kq ≤ kj25) ∧ Aside0 (wc.heap[gb150]? = some (.cells #[.int .i64 a0_0, .int .i64 a0_1, .bool a0_2, .bool a0_3] 65 (0, 0))) ∧ Aside0 (wc.heap[gb151]? = some (.cells #[.int .i64 a1_0, .int .i64 a1_1, (.slice A1_2 l1_2.length c1_2)] 38 (0, 0))) ∧ Aside0 (Below w.heap.size w wc))
           case first =>
            have H := HC31.out
            clear HC31
            by_cases c32 : a0_2 = true
            ·subst c32
             have H1 : (if a0_0 = x7_2 then (if a1_0 = 3 then (spec_l12Wrong.j3 kj25 a1_0 true a0_0 a0_1 true a0_3) else (if a1_0 = 6 then (spec_l12Wrong.j3 kj25 a1_0 true a0_0 a0_1 true a0_3) else (spec_l12Wrong.j3 kj25 a1_0 (a1_0 == 5) a0_0 a0_1 true a0_3))) else (spec_l12Wrong.j3 kj25 a1_0 false a0_0 a0_1 true a0_3)) = some r := by rw [if_pos rfl] at H; exact H
             clear H
             have H := H1
             clear H1
             by_cases c33 : a0_0 = x7_2
             ·rw [if_pos c33] at H
              have c33b0 : (a0_0 == x7_2) = true := beq_iff_eq.mpr c33
              have c33b1 : (a0_0 != x7_2) = false := bne_eq_false_iff_eq.mpr c33
              clear c33
              (first | rw [c33b0] | (simp only [i64_w, i32_w]; rw [c33b0]) | skip)
              by_cases c34 : a1_0 = 3
              ·rw [if_pos c34] at H
               have c34b0 : (a1_0 == 3) = true := beq_iff_eq.mpr c34
               have c34b1 : (a1_0 != 3) = false := bne_eq_false_iff_eq.mpr c34
               clear c34
               have H' := Aside0.mk H
               clear H
               have hnb35 := NB150_151.out
               have hnc35 := NB151_150.out
               obtain ⟨hcz36_0, hcz36_1, hcz36_2, hcz36_3, hfz36_0, hfz36_1, hfz36_2, hfz36_3⟩ := cz4 BK150.out
               go_wp2
               repeat (go_quiet (fail); try go_wp2)
               (first | go_meet | (refine Met.intro ?_; go_step; (repeat apply Exists.intro); refine ⟨?rel, ?eq_⟩; (case eq_ => (try simp only [ge_iff_le, gt_iff_lt] at c27b0); simp only [c27b0]; rfl)))
               case rel => exact ⟨_, (true), (by first | rfl | (simp; done) | (simp [*]; done)), H', ⟨by have := HJ2.out; have := HJ16.out; have := HJ25.out; first | omega | exact Nat.le_refl _⟩, ⟨by (with_reducible repeat first | apply kN | apply kD | apply kA); exact BK150.out⟩, ⟨by (with_reducible repeat first | apply kN | apply kD | apply kA); exact BK151.out⟩, ⟨by repeat (first | (with_reducible first | exact HB.out | apply below_alloc | apply pw_below_drewN | apply below_drew1 | refine below_set ?_ GE150.out | refine below_set ?_ GE151.out) | exact HB.out)⟩⟩
              ·rw [if_neg c34] at H
               have c34b0 : (a1_0 == 3) = false := beq_eq_false_iff_ne.mpr c34
               have c34b1 : (a1_0 != 3) = true := bne_iff_ne.mpr c34
               by_cases c37 : a1_0 = 6
               ·rw [if_pos c37] at H
                have c37b0 : (a1_0 == 6) = true := beq_iff_eq.mpr c37
                have c37b1 : (a1_0 != 6) = false := bne_eq_false_iff_eq.mpr c37
                clear c37
                have H' := Aside0.mk H
                clear H
                have hnb38 := NB150_151.out
                have hnc38 := NB151_150.out
                obtain ⟨hcz39_0, hcz39_1, hcz39_2, hcz39_3, hfz39_0, hfz39_1, hfz39_2, hfz39_3⟩ := cz4 BK150.out
                go_wp2
                repeat (go_quiet (fail); try go_wp2)
                (first | go_meet | (refine Met.intro ?_; go_step; (repeat apply Exists.intro); refine ⟨?rel, ?eq_⟩; (case eq_ => (try simp only [ge_iff_le, gt_iff_lt] at c27b0); simp only [c27b0]; rfl)))
                case rel => exact ⟨_, (true), (by first | rfl | (simp; done) | (simp [*]; done)), H', ⟨by have := HJ2.out; have := HJ16.out; have := HJ25.out; first | omega | exact Nat.le_refl _⟩, ⟨by (with_reducible repeat first | apply kN | apply kD | apply kA); exact BK150.out⟩, ⟨by (with_reducible repeat first | apply kN | apply kD | apply kA); exact BK151.out⟩, ⟨by repeat (first | (with_reducible first | exact HB.out | apply below_alloc | apply pw_below_drewN | apply below_drew1 | refine below_set ?_ GE150.out | refine below_set ?_ GE151.out) | exact HB.out)⟩⟩
               ·rw [if_neg c37] at H
                have c37b0 : (a1_0 == 6) = false := beq_eq_false_iff_ne.mpr c37
                have c37b1 : (a1_0 != 6) = true := bne_iff_ne.mpr c37
                have H' := Aside0.mk H
                clear H
                have hnb40 := NB150_151.out
                have hnc40 := NB151_150.out
                obtain ⟨hcz41_0, hcz41_1, hcz41_2, hcz41_3, hfz41_0, hfz41_1, hfz41_2, hfz41_3⟩ := cz4 BK150.out
                go_wp2
                repeat (go_quiet (fail); try go_wp2)
                (first | go_meet | (refine Met.intro ?_; go_step; (repeat apply Exists.intro); refine ⟨?rel, ?eq_⟩; (case eq_ => (try simp only [ge_iff_le, gt_iff_lt] at c27b0); simp only [c27b0]; rfl)))
                case rel => exact ⟨_, ((a1_0 == 5)), (by first | rfl | (simp; done) | (simp [*]; done)), H', ⟨by have := HJ2.out; have := HJ16.out; have := HJ25.out; first | omega | exact Nat.le_refl _⟩, ⟨by (with_reducible repeat first | apply kN | apply kD | apply kA); exact BK150.out⟩, ⟨by (with_reducible repeat first | apply kN | apply kD | apply kA); exact BK151.out⟩, ⟨by repeat (first | (with_reducible first | exact HB.out | apply below_alloc | apply pw_below_drewN | apply below_drew1 | refine below_set ?_ GE150.out | refine below_set ?_ GE151.out) | exact HB.out)⟩⟩
             ·rw [if_neg c33] at H
              have c33b0 : (a0_0 == x7_2) = false := beq_eq_false_iff_ne.mpr c33
              have c33b1 : (a0_0 != x7_2) = true := bne_iff_ne.mpr c33
              (first | rw [c33b0] | (simp only [i64_w, i32_w]; rw [c33b0]) | skip)
              have H' := Aside0.mk H
              clear H
              have hnb42 := NB150_151.out
              have hnc42 := NB151_150.out
              obtain ⟨hcz43_0, hcz43_1, hcz43_2, hcz43_3, hfz43_0, hfz43_1, hfz43_2, hfz43_3⟩ := cz4 BK150.out
              go_wp2
              repeat (go_quiet (fail); try go_wp2)
              (first | go_meet | (refine Met.intro ?_; go_step; (repeat apply Exists.intro); refine ⟨?rel, ?eq_⟩; (case eq_ => (try simp only [ge_iff_le, gt_iff_lt] at c27b0); simp only [c27b0]; rfl)))
              case rel => exact ⟨_, (false), (by first | rfl | (simp; done) | (simp [*]; done)), H', ⟨by have := HJ2.out; have := HJ16.out; have := HJ25.out; first | omega | exact Nat.le_refl _⟩, ⟨by (with_reducible repeat first | apply kN | apply kD | apply kA); exact BK150.out⟩, ⟨by (with_reducible repeat first | apply kN | apply kD | apply kA); exact BK151.out⟩, ⟨by repeat (first | (with_reducible first | exact HB.out | apply below_alloc | apply pw_below_drewN | apply below_drew1 | refine below_set ?_ GE150.out | refine below_set ?_ GE151.out) | exact HB.out)⟩⟩
            ·replace c32 := Bool.eq_false_iff.mpr c32
             subst c32
             have H1 : (spec_l12Wrong.j3 kj25 a1_0 false a0_0 a0_1 false a0_3) = some r := by rw [if_neg (show ¬ (false = true) by decide)] at H; exact H
             clear H
             have H := H1
             clear H1
             have H' := Aside0.mk H
             clear H
             have hnb44 := NB150_151.out
             have hnc44 := NB151_150.out
             obtain ⟨hcz45_0, hcz45_1, hcz45_2, hcz45_3, hfz45_0, hfz45_1, hfz45_2, hfz45_3⟩ := cz4 BK150.out
             go_wp2
             repeat (go_quiet (fail); try go_wp2)
             (first | go_meet | (refine Met.intro ?_; go_step; (repeat apply Exists.intro); refine ⟨?rel, ?eq_⟩; (case eq_ => (try simp only [ge_iff_le, gt_iff_lt] at c27b0); simp only [c27b0]; rfl)))
             case rel => exact ⟨_, (false), (by first | rfl | (simp; done) | (simp [*]; done)), H', ⟨by have := HJ2.out; have := HJ16.out; have := HJ25.out; first | omega | exact Nat.le_refl _⟩, ⟨by (with_reducible repeat first | apply kN | apply kD | apply kA); exact BK150.out⟩, ⟨by (with_reducible repeat first | apply kN | apply kD | apply kA); exact BK151.out⟩, ⟨by repeat (first | (with_reducible first | exact HB.out | apply below_alloc | apply pw_below_drewN | apply below_drew1 | refine below_set ?_ GE150.out | refine below_set ?_ GE151.out) | exact HB.out)⟩⟩
           case rest =>
            clear HC31
            obtain ⟨kq, x39_30, rfl, HA, HJ30, BK150, BK151, HB⟩ := hcut
            cases kq with
            | zero => exact absurd HA.out (by simp [spec_l12Wrong.j3])
            | succ kj30 =>
             have H := HA.out
             clear HA
             simp only [spec_l12Wrong.j3] at H
             by_cases c46 : x39_30 = true
             ·subst c46
              have H1 : (some 6) = some r := by rw [if_pos rfl] at H; exact H
              clear H
              have H := H1
              clear H1
              obtain rfl := Option.some.inj H
              go_wp2
              repeat (go_quiet (fail); try go_wp2)
              go_ret
              exact ⟨by first | rfl | (simp [errW_none, errW_some] <;> rfl) | (simp [*, errW_none, errW_some] <;> rfl), by repeat (first | (with_reducible first | exact HB.out | apply below_alloc | apply pw_below_drewN | apply below_drew1 | refine below_set ?_ GE150.out | refine below_set ?_ GE151.out) | exact HB.out)⟩
             ·replace c46 := Bool.eq_false_iff.mpr c46
              subst c46
              have H1 : (if a1_0 = 7 then (spec_l12Wrong.j4 kj30 a1_0 (a0_1 == 8) a0_0 a0_1 a0_2 a0_3) else (spec_l12Wrong.j4 kj30 a1_0 false a0_0 a0_1 a0_2 a0_3)) = some r := by rw [if_neg (show ¬ (false = true) by decide)] at H; exact H
              clear H
              have H := H1
              clear H1
              have HC47 := Aside0.mk H
              clear H
              go_upto_region 16 with (fail)
              repeat (go_quiet (fail); go_upto_region 16 with (fail))
              go_cut [60] (fun v60 wc => ∃ (kq : Nat) (x60_46 : Bool), v60 = .bool x60_46 ∧ Aside0 (spec_l12Wrong.j4 kq a1_0 x60_46 a0_0 a0_1 a0_2 a0_3 = some r) ∧ Aside0 (kq ≤ kj30) ∧ Aside0 (wc.heap[gb150]? = some (.cells #[.int .i64 a0_0, .int .i64 a0_1, .bool a0_2, .bool a0_3] 65 (0, 0))) ∧ Aside0 (wc.heap[gb151]? = some (.cells #[.int .i64 a1_0, .int .i64 a1_1, (.slice A1_2 l1_2.length c1_2)] 38 (0, 0))) ∧ Aside0 (Below w.heap.size w wc))
              case first =>
               have H := HC47.out
               clear HC47
               by_cases c48 : a1_0 = 7
               ·rw [if_pos c48] at H
                have c48b0 : (a1_0 == 7) = true := beq_iff_eq.mpr c48
                have c48b1 : (a1_0 != 7) = false := bne_eq_false_iff_eq.mpr c48
                clear c48
                (first | rw [c48b0] | (simp only [i64_w, i32_w]; rw [c48b0]) | skip)
                have H' := Aside0.mk H
                clear H
                have hnb49 := NB150_151.out
                have hnc49 := NB151_150.out
                obtain ⟨hcz50_0, hcz50_1, hcz50_2, hcz50_3, hfz50_0, hfz50_1, hfz50_2, hfz50_3⟩ := cz4 BK150.out
                go_wp2
                repeat (go_quiet (fail); try go_wp2)
                (first | go_meet | (refine Met.intro ?_; go_step; (repeat apply Exists.intro); refine ⟨?rel, ?eq_⟩; (case eq_ => (try simp only [ge_iff_le, gt_iff_lt] at c27b0); simp only [c27b0]; rfl)))
                case rel => exact ⟨_, ((a0_1 == 8)), (by first | rfl | (simp; done) | (simp [*]; done)), H', ⟨by have := HJ2.out; have := HJ16.out; have := HJ25.out; have := HJ30.out; first | omega | exact Nat.le_refl _⟩, ⟨by (with_reducible repeat first | apply kN | apply kD | apply kA); exact BK150.out⟩, ⟨by (with_reducible repeat first | apply kN | apply kD | apply kA); exact BK151.out⟩, ⟨by repeat (first | (with_reducible first | exact HB.out | apply below_alloc | apply pw_below_drewN | apply below_drew1 | refine below_set ?_ GE150.out | refine below_set ?_ GE151.out) | exact HB.out)⟩⟩
               ·rw [if_neg c48] at H
                have c48b0 : (a1_0 == 7) = false := beq_eq_false_iff_ne.mpr c48
                have c48b1 : (a1_0 != 7) = true := bne_iff_ne.mpr c48
                (first | rw [c48b0] | (simp only [i64_w, i32_w]; rw [c48b0]) | skip)
                have H' := Aside0.mk H
                clear H
                go_wp2
                repeat (go_quiet (fail); try go_wp2)
                (first | go_meet | (refine Met.intro ?_; go_step; (repeat apply Exists.intro); refine ⟨?rel, ?eq_⟩; (case eq_ => (try simp only [ge_iff_le, gt_iff_lt] at c27b0); simp only [c27b0]; rfl)))
                case rel => exact ⟨_, (false), (by first | rfl | (simp; done) | (simp [*]; done)), H', ⟨by have := HJ2.out; have := HJ16.out; have := HJ25.out; have := HJ30.out; first | omega | exact Nat.le_refl _⟩, ⟨by (with_reducible repeat first | apply kN | apply kD | apply kA); exact BK150.out⟩, ⟨by (with_reducible repeat first | apply kN | apply kD | apply kA); exact BK151.out⟩, ⟨by repeat (first | (with_reducible first | exact HB.out | apply below_alloc | apply pw_below_drewN | apply below_drew1 | refine below_set ?_ GE150.out | refine below_set ?_ GE151.out) | exact HB.out)⟩⟩
              case rest =>
               clear HC47
               obtain ⟨kq, x60_46, rfl, HA, HJ46, BK150, BK151, HB⟩ := hcut
               cases kq with
               | zero => exact absurd HA.out (by simp [spec_l12Wrong.j4])
               | succ kj46 =>
                have H := HA.out
                clear HA
                simp only [spec_l12Wrong.j4] at H
                by_cases c51 : x60_46 = true
                ·subst c51
                 have H1 : (some 7) = some r := by rw [if_pos rfl] at H; exact H
                 clear H
                 have H := H1
                 clear H1
                 obtain rfl := Option.some.inj H
                 go_wp2
                 repeat (go_quiet (fail); try go_wp2)
                 go_ret
                 exact ⟨by first | rfl | (simp [errW_none, errW_some] <;> rfl) | (simp [*, errW_none, errW_some] <;> rfl), by repeat (first | (with_reducible first | exact HB.out | apply below_alloc | apply pw_below_drewN | apply below_drew1 | refine below_set ?_ GE150.out | refine below_set ?_ GE151.out) | exact HB.out)⟩
                ·replace c51 := Bool.eq_false_iff.mpr c51
                 subst c51
                 have H1 : (if a1_0 = 8 then (spec_l12Wrong.j5 kj46 a1_0 (a0_1 == 0) a0_0 a0_1 a0_2 a0_3) else (if a1_0 = 9 then (spec_l12Wrong.j5 kj46 a1_0 (a0_1 == 0) a0_0 a0_1 a0_2 a0_3) else (spec_l12Wrong.j5 kj46 a1_0 false a0_0 a0_1 a0_2 a0_3))) = some r := by rw [if_neg (show ¬ (false = true) by decide)] at H; exact H
                 clear H
                 have H := H1
                 clear H1
                 have HC52 := Aside0.mk H
                 clear H
                 go_upto_region 18 with (fail)
                 repeat (go_quiet (fail); go_upto_region 18 with (fail))
                 go_cut [68] (fun v68 wc => ∃ (kq : Nat) (x68_51 : Bool), v68 = .bool x68_51 ∧ Aside0 (spec_l12Wrong.j5 kq a1_0 x68_51 a0_0 a0_1 a0_2 a0_3 = some r) ∧ Aside0 (kq ≤ kj46) ∧ Aside0 (wc.heap[gb150]? = some (.cells #[.int .i64 a0_0, .int .i64 a0_1, .bool a0_2, .bool a0_3] 65 (0, 0))) ∧ Aside0 (wc.heap[gb151]? = some (.cells #[.int .i64 a1_0, .int .i64 a1_1, (.slice A1_2 l1_2.length c1_2)] 38 (0, 0))) ∧ Aside0 (Below w.heap.size w wc))
                 case first =>
                  have H := HC52.out
                  clear HC52
                  by_cases c53 : a1_0 = 8
                  ·rw [if_pos c53] at H
                   have c53b0 : (a1_0 == 8) = true := beq_iff_eq.mpr c53
                   have c53b1 : (a1_0 != 8) = false := bne_eq_false_iff_eq.mpr c53
                   clear c53
                   (first | rw [c53b0] | (simp only [i64_w, i32_w]; rw [c53b0]) | skip)
                   have H' := Aside0.mk H
                   clear H
                   have hnb54 := NB150_151.out
                   have hnc54 := NB151_150.out
                   obtain ⟨hcz55_0, hcz55_1, hcz55_2, hcz55_3, hfz55_0, hfz55_1, hfz55_2, hfz55_3⟩ := cz4 BK150.out
                   go_wp2
                   repeat (go_quiet (fail); try go_wp2)
                   (first | go_meet | (refine Met.intro ?_; go_step; (repeat apply Exists.intro); refine ⟨?rel, ?eq_⟩; (case eq_ => (try simp only [ge_iff_le, gt_iff_lt] at c27b0); simp only [c27b0]; rfl)))
                   case rel => exact ⟨_, ((a0_1 == 0)), (by first | rfl | (simp; done) | (simp [*]; done)), H', ⟨by have := HJ2.out; have := HJ16.out; have := HJ25.out; have := HJ30.out; have := HJ46.out; first | omega | exact Nat.le_refl _⟩, ⟨by (with_reducible repeat first | apply kN | apply kD | apply kA); exact BK150.out⟩, ⟨by (with_reducible repeat first | apply kN | apply kD | apply kA); exact BK151.out⟩, ⟨by repeat (first | (with_reducible first | exact HB.out | apply below_alloc | apply pw_below_drewN | apply below_drew1 | refine below_set ?_ GE150.out | refine below_set ?_ GE151.out) | exact HB.out)⟩⟩
                  ·rw [if_neg c53] at H
                   have c53b0 : (a1_0 == 8) = false := beq_eq_false_iff_ne.mpr c53
                   have c53b1 : (a1_0 != 8) = true := bne_iff_ne.mpr c53
                   (first | rw [c53b0] | (simp only [i64_w, i32_w]; rw [c53b0]) | skip)
                   by_cases c56 : a1_0 = 9
                   ·rw [if_pos c56] at H
                    have c56b0 : (a1_0 == 9) = true := beq_iff_eq.mpr c56
                    have c56b1 : (a1_0 != 9) = false := bne_eq_false_iff_eq.mpr c56
                    clear c56
                    have H' := Aside0.mk H
                    clear H
                    have hnb57 := NB150_151.out
                    have hnc57 := NB151_150.out
                    obtain ⟨hcz58_0, hcz58_1, hcz58_2, hcz58_3, hfz58_0, hfz58_1, hfz58_2, hfz58_3⟩ := cz4 BK150.out
                    go_wp2
                    repeat (go_quiet (fail); try go_wp2)
                    (first | go_meet | (refine Met.intro ?_; go_step; (repeat apply Exists.intro); refine ⟨?rel, ?eq_⟩; (case eq_ => (try simp only [ge_iff_le, gt_iff_lt] at c27b0); simp only [c27b0]; rfl)))
                    case rel => exact ⟨_, ((a0_1 == 0)), (by first | rfl | (simp; done) | (simp [*]; done)), H', ⟨by have := HJ2.out; have := HJ16.out; have := HJ25.out; have := HJ30.out; have := HJ46.out; first | omega | exact Nat.le_refl _⟩, ⟨by (with_reducible repeat first | apply kN | apply kD | apply kA); exact BK150.out⟩, ⟨by (with_reducible repeat first | apply kN | apply kD | apply kA); exact BK151.out⟩, ⟨by repeat (first | (with_reducible first | exact HB.out | apply below_alloc | apply pw_below_drewN | apply below_drew1 | refine below_set ?_ GE150.out | refine below_set ?_ GE151.out) | exact HB.out)⟩⟩
                   ·rw [if_neg c56] at H
                    have c56b0 : (a1_0 == 9) = false := beq_eq_false_iff_ne.mpr c56
                    have c56b1 : (a1_0 != 9) = true := bne_iff_ne.mpr c56
                    have H' := Aside0.mk H
                    clear H
                    go_wp2
                    repeat (go_quiet (fail); try go_wp2)
                    (first | go_meet | (refine Met.intro ?_; go_step; (repeat apply Exists.intro); refine ⟨?rel, ?eq_⟩; (case eq_ => (try simp only [ge_iff_le, gt_iff_lt] at c27b0); simp only [c27b0]; rfl)))
                    case rel => exact ⟨_, (false), (by first | rfl | (simp; done) | (simp [*]; done)), H', ⟨by have := HJ2.out; have := HJ16.out; have := HJ25.out; have := HJ30.out; have := HJ46.out; first | omega | exact Nat.le_refl _⟩, ⟨by (with_reducible repeat first | apply kN | apply kD | apply kA); exact BK150.out⟩, ⟨by (with_reducible repeat first | apply kN | apply kD | apply kA); exact BK151.out⟩, ⟨by repeat (first | (with_reducible first | exact HB.out | apply below_alloc | apply pw_below_drewN | apply below_drew1 | refine below_set ?_ GE150.out | refine below_set ?_ GE151.out) | exact HB.out)⟩⟩
                 case rest =>
                  clear HC52
                  obtain ⟨kq, x68_51, rfl, HA, HJ51, BK150, BK151, HB⟩ := hcut
                  cases kq with
                  | zero => exact absurd HA.out (by simp [spec_l12Wrong.j5])
                  | succ kj51 =>
                   have H := HA.out
                   clear HA
                   simp only [spec_l12Wrong.j5] at H
                   by_cases c59 : x68_51 = true
                   ·subst c59
                    have H1 : (some 7) = some r := by rw [if_pos rfl] at H; exact H
                    clear H
                    have H := H1
                    clear H1
                    obtain rfl := Option.some.inj H
                    go_wp2
                    repeat (go_quiet (fail); try go_wp2)
                    go_ret
                    exact ⟨by first | rfl | (simp [errW_none, errW_some] <;> rfl) | (simp [*, errW_none, errW_some] <;> rfl), by repeat (first | (with_reducible first | exact HB.out | apply below_alloc | apply pw_below_drewN | apply below_drew1 | refine below_set ?_ GE150.out | refine below_set ?_ GE151.out) | exact HB.out)⟩
                   ·replace c59 := Bool.eq_false_iff.mpr c59
                    subst c59
                    have H1 : (if a1_0 = 11 then (spec_l12Wrong.j6 kj51 a1_0 (decide (a0_1 > 0)) a0_0 a0_1 a0_2 a0_3) else (spec_l12Wrong.j6 kj51 a1_0 false a0_0 a0_1 a0_2 a0_3)) = some r := by rw [if_neg (show ¬ (false = true) by decide)] at H; exact H
                    clear H
                    have H := H1
                    clear H1
                    have HC60 := Aside0.mk H
                    clear H
                    go_upto_region 20 with (fail)
                    repeat (go_quiet (fail); go_upto_region 20 with (fail))
                    go_cut [80] (fun v80 wc => ∃ (kq : Nat) (x80_59 : Bool), v80 = .bool x80_59 ∧ Aside0 (spec_l12Wrong.j6 kq a1_0 x80_59 a0_0 a0_1 a0_2 a0_3 = some r) ∧ Aside0 (kq ≤ kj51) ∧ Aside0 (wc.heap[gb150]? = some (.cells #[.int .i64 a0_0, .int .i64 a0_1, .bool a0_2, .bool a0_3] 65 (0, 0))) ∧ Aside0 (wc.heap[gb151]? = some (.cells #[.int .i64 a1_0, .int .i64 a1_1, (.slice A1_2 l1_2.length c1_2)] 38 (0, 0))) ∧ Aside0 (Below w.heap.size w wc))
                    case first =>
                     have H := HC60.out
                     clear HC60
                     by_cases c61 : a1_0 = 11
                     ·rw [if_pos c61] at H
                      have c61b0 : (a1_0 == 11) = true := beq_iff_eq.mpr c61
                      have c61b1 : (a1_0 != 11) = false := bne_eq_false_iff_eq.mpr c61
                      clear c61
                      (first | rw [c61b0] | (simp only [i64_w, i32_w]; rw [c61b0]) | skip)
                      have H' := Aside0.mk H
                      clear H
                      have hnb62 := NB150_151.out
                      have hnc62 := NB151_150.out
                      obtain ⟨hcz63_0, hcz63_1, hcz63_2, hcz63_3, hfz63_0, hfz63_1, hfz63_2, hfz63_3⟩ := cz4 BK150.out
                      go_wp2
                      repeat (go_quiet (fail); try go_wp2)
                      (first | go_meet | (refine Met.intro ?_; go_step; (repeat apply Exists.intro); refine ⟨?rel, ?eq_⟩; (case eq_ => (try simp only [ge_iff_le, gt_iff_lt] at c27b0); simp only [c27b0]; rfl)))
                      case rel => exact ⟨_, (decide (a0_1 > 0)), (by first | rfl | (simp; done) | (simp [*]; done)), H', ⟨by have := HJ2.out; have := HJ16.out; have := HJ25.out; have := HJ30.out; have := HJ46.out; have := HJ51.out; first | omega | exact Nat.le_refl _⟩, ⟨by (with_reducible repeat first | apply kN | apply kD | apply kA); exact BK150.out⟩, ⟨by (with_reducible repeat first | apply kN | apply kD | apply kA); exact BK151.out⟩, ⟨by repeat (first | (with_reducible first | exact HB.out | apply below_alloc | apply pw_below_drewN | apply below_drew1 | refine below_set ?_ GE150.out | refine below_set ?_ GE151.out) | exact HB.out)⟩⟩
                     ·rw [if_neg c61] at H
                      have c61b0 : (a1_0 == 11) = false := beq_eq_false_iff_ne.mpr c61
                      have c61b1 : (a1_0 != 11) = true := bne_iff_ne.mpr c61
                      (first | rw [c61b0] | (simp only [i64_w, i32_w]; rw [c61b0]) | skip)
                      have H' := Aside0.mk H
                      clear H
                      go_wp2
                      repeat (go_quiet (fail); try go_wp2)
                      (first | go_meet | (refine Met.intro ?_; go_step; (repeat apply Exists.intro); refine ⟨?rel, ?eq_⟩; (case eq_ => (try simp only [ge_iff_le, gt_iff_lt] at c27b0); simp only [c27b0]; rfl)))
                      case rel => exact ⟨_, (false), (by first | rfl | (simp; done) | (simp [*]; done)), H', ⟨by have := HJ2.out; have := HJ16.out; have := HJ25.out; have := HJ30.out; have := HJ46.out; have := HJ51.out; first | omega | exact Nat.le_refl _⟩, ⟨by (with_reducible repeat first | apply kN | apply kD | apply kA); exact BK150.out⟩, ⟨by (with_reducible repeat first | apply kN | apply kD | apply kA); exact BK151.out⟩, ⟨by repeat (first | (with_reducible first | exact HB.out | apply below_alloc | apply pw_below_drewN | apply below_drew1 | refine below_set ?_ GE150.out | refine below_set ?_ GE151.out) | exact HB.out)⟩⟩
                    case rest =>
                     clear HC60
                     obtain ⟨kq, x80_59, rfl, HA, HJ59, BK150, BK151, HB⟩ := hcut
                     cases kq with
                     | zero => exact absurd HA.out (by simp [spec_l12Wrong.j6])
                     | succ kj59 =>
                      have H := HA.out
                      clear HA
                      simp only [spec_l12Wrong.j6] at H
                      by_cases c64 : x80_59 = true
                      ·subst c64
                       have H1 : (some 7) = some r := by rw [if_pos rfl] at H; exact H
                       clear H
                       have H := H1
                       clear H1
                       obtain rfl := Option.some.inj H
                       go_wp2
                       repeat (go_quiet (fail); try go_wp2)
                       go_ret
                       exact ⟨by first | rfl | (simp [errW_none, errW_some] <;> rfl) | (simp [*, errW_none, errW_some] <;> rfl), by repeat (first | (with_reducible first | exact HB.out | apply below_alloc | apply pw_below_drewN | apply below_drew1 | refine below_set ?_ GE150.out | refine below_set ?_ GE151.out) | exact HB.out)⟩
                      ·replace c64 := Bool.eq_false_iff.mpr c64
                       subst c64
                       have H1 : (if a1_0 = 8 then (if a0_3 = true then (some 0) else (some 8)) else (if a1_0 = 9 then (if a0_3 = true then (some 0) else (some 8)) else (if a1_0 = 11 then (if a0_3 = true then (some 0) else (some 8)) else (some 0)))) = some r := by rw [if_neg (show ¬ (false = true) by decide)] at H; exact H
                       clear H
                       have H := H1
                       clear H1
                       by_cases c65 : a1_0 = 8
                       ·rw [if_pos c65] at H
                        have c65b0 : (a1_0 == 8) = true := beq_iff_eq.mpr c65
                        have c65b1 : (a1_0 != 8) = false := bne_eq_false_iff_eq.mpr c65
                        clear c65
                        by_cases c66 : a0_3 = true
                        ·subst c66
                         have H1 : (some 0) = some r := by rw [if_pos rfl] at H; exact H
                         clear H
                         have H := H1
                         clear H1
                         obtain rfl := Option.some.inj H
                         have hnb67 := NB150_151.out
                         have hnc67 := NB151_150.out
                         obtain ⟨hcz68_0, hcz68_1, hcz68_2, hcz68_3, hfz68_0, hfz68_1, hfz68_2, hfz68_3⟩ := cz4 BK150.out
                         go_wp2
                         repeat (go_quiet (fail); try go_wp2)
                         go_ret
                         exact ⟨by first | rfl | (simp [errW_none, errW_some] <;> rfl) | (simp [*, errW_none, errW_some] <;> rfl), by repeat (first | (with_reducible first | exact HB.out | apply below_alloc | apply pw_below_drewN | apply below_drew1 | refine below_set ?_ GE150.out | refine below_set ?_ GE151.out) | exact HB.out)⟩
                        ·replace c66 := Bool.eq_false_iff.mpr c66
                         subst c66
                         have H1 : (some 8) = some r := by rw [if_neg (show ¬ (false = true) by decide)] at H; exact H
                         clear H
                         have H := H1
                         clear H1
                         obtain rfl := Option.some.inj H
                         have hnb69 := NB150_151.out
                         have hnc69 := NB151_150.out
                         obtain ⟨hcz70_0, hcz70_1, hcz70_2, hcz70_3, hfz70_0, hfz70_1, hfz70_2, hfz70_3⟩ := cz4 BK150.out
                         go_wp2
                         repeat (go_quiet (fail); try go_wp2)
                         go_ret
                         exact ⟨by first | rfl | (simp [errW_none, errW_some] <;> rfl) | (simp [*, errW_none, errW_some] <;> rfl), by repeat (first | (with_reducible first | exact HB.out | apply below_alloc | apply pw_below_drewN | apply below_drew1 | refine below_set ?_ GE150.out | refine below_set ?_ GE151.out) | exact HB.out)⟩
                       ·rw [if_neg c65] at H
                        have c65b0 : (a1_0 == 8) = false := beq_eq_false_iff_ne.mpr c65
                        have c65b1 : (a1_0 != 8) = true := bne_iff_ne.mpr c65
                        by_cases c71 : a1_0 = 9
                        ·rw [if_pos c71] at H
                         have c71b0 : (a1_0 == 9) = true := beq_iff_eq.mpr c71
                         have c71b1 : (a1_0 != 9) = false := bne_eq_false_iff_eq.mpr c71
                         clear c71
                         by_cases c72 : a0_3 = true
                         ·subst c72
                          have H1 : (some 0) = some r := by rw [if_pos rfl] at H; exact H
                          clear H
                          have H := H1
                          clear H1
                          obtain rfl := Option.some.inj H
                          have hnb73 := NB150_151.out
                          have hnc73 := NB151_150.out
                          obtain ⟨hcz74_0, hcz74_1, hcz74_2, hcz74_3, hfz74_0, hfz74_1, hfz74_2, hfz74_3⟩ := cz4 BK150.out
                          go_wp2
                          repeat (go_quiet (fail); try go_wp2)
                          go_ret
                          exact ⟨by first | rfl | (simp [errW_none, errW_some] <;> rfl) | (simp [*, errW_none, errW_some] <;> rfl), by repeat (first | (with_reducible first | exact HB.out | apply below_alloc | apply pw_below_drewN | apply below_drew1 | refine below_set ?_ GE150.out | refine below_set ?_ GE151.out) | exact HB.out)⟩
                         ·replace c72 := Bool.eq_false_iff.mpr c72
                          subst c72
                          have H1 : (some 8) = some r := by rw [if_neg (show ¬ (false = true) by decide)] at H; exact H
                          clear H
                          have H := H1
                          clear H1
                          obtain rfl := Option.some.inj H
                          have hnb75 := NB150_151.out
                          have hnc75 := NB151_150.out
                          obtain ⟨hcz76_0, hcz76_1, hcz76_2, hcz76_3, hfz76_0, hfz76_1, hfz76_2, hfz76_3⟩ := cz4 BK150.out
                          go_wp2
                          repeat (go_quiet (fail); try go_wp2)
                          go_ret
                          exact ⟨by first | rfl | (simp [errW_none, errW_some] <;> rfl) | (simp [*, errW_none, errW_some] <;> rfl), by repeat (first | (with_reducible first | exact HB.out | apply below_alloc | apply pw_below_drewN | apply below_drew1 | refine below_set ?_ GE150.out | refine below_set ?_ GE151.out) | exact HB.out)⟩
                        ·rw [if_neg c71] at H
                         have c71b0 : (a1_0 == 9) = false := beq_eq_false_iff_ne.mpr c71
                         have c71b1 : (a1_0 != 9) = true := bne_iff_ne.mpr c71
                         by_cases c77 : a1_0 = 11
                         ·rw [if_pos c77] at H
                          have c77b0 : (a1_0 == 11) = true := beq_iff_eq.mpr c77
                          have c77b1 : (a1_0 != 11) = false := bne_eq_false_iff_eq.mpr c77
                          clear c77
                          by_cases c78 : a0_3 = true
                          ·subst c78
                           have H1 : (some 0) = some r := by rw [if_pos rfl] at H; exact H
                           clear H
                           have H := H1
                           clear H1
                           obtain rfl := Option.some.inj H
                           have hnb79 := NB150_151.out
                           have hnc79 := NB151_150.out
                           obtain ⟨hcz80_0, hcz80_1, hcz80_2, hcz80_3, hfz80_0, hfz80_1, hfz80_2, hfz80_3⟩ := cz4 BK150.out
                           go_wp2
                           repeat (go_quiet (fail); try go_wp2)
                           go_ret
                           exact ⟨by first | rfl | (simp [errW_none, errW_some] <;> rfl) | (simp [*, errW_none, errW_some] <;> rfl), by repeat (first | (with_reducible first | exact HB.out | apply below_alloc | apply pw_below_drewN | apply below_drew1 | refine below_set ?_ GE150.out | refine below_set ?_ GE151.out) | exact HB.out)⟩
                          ·replace c78 := Bool.eq_false_iff.mpr c78
                           subst c78
                           have H1 : (some 8) = some r := by rw [if_neg (show ¬ (false = true) by decide)] at H; exact H
                           clear H
                           have H := H1
                           clear H1
                           obtain rfl := Option.some.inj H
                           have hnb81 := NB150_151.out
                           have hnc81 := NB151_150.out
                           obtain ⟨hcz82_0, hcz82_1, hcz82_2, hcz82_3, hfz82_0, hfz82_1, hfz82_2, hfz82_3⟩ := cz4 BK150.out
                           go_wp2
                           repeat (go_quiet (fail); try go_wp2)
                           go_ret
                           exact ⟨by first | rfl | (simp [errW_none, errW_some] <;> rfl) | (simp [*, errW_none, errW_some] <;> rfl), by repeat (first | (with_reducible first | exact HB.out | apply below_alloc | apply pw_below_drewN | apply below_drew1 | refine below_set ?_ GE150.out | refine below_set ?_ GE151.out) | exact HB.out)⟩
                         ·rw [if_neg c77] at H
                          have c77b0 : (a1_0 == 11) = false := beq_eq_false_iff_ne.mpr c77
                          have c77b1 : (a1_0 != 11) = true := bne_iff_ne.mpr c77
                          obtain rfl := Option.some.inj H
                          go_wp2
                          repeat (go_quiet (fail); try go_wp2)
                          go_ret
                          exact ⟨by first | rfl | (simp [errW_none, errW_some] <;> rfl) | (simp [*, errW_none, errW_some] <;> rfl), by repeat (first | (with_reducible first | exact HB.out | apply below_alloc | apply pw_below_drewN | apply below_drew1 | refine below_set ?_ GE150.out | refine below_set ?_ GE151.out) | exact HB.out)⟩
   ·replace c10 := Bool.eq_false_iff.mpr c10
    subst c10
    have H1 : (some 2) = some r := by rw [if_neg (show ¬ (false = true) by decide)] at H; exact H
    clear H
    have H := H1
    clear H1
    obtain rfl := Option.some.inj H
    have hnb83 := NB151_150.out
    have hnc83 := NB150_151.out
    obtain ⟨hcz84_0, hcz84_1, hcz84_2, hfz84_0, hfz84_1, hfz84_2⟩ := cz3 BK151.out
    go_wp2_with (first | (go_at_call 12; (with_reducible refine (spec_ListOk.calls kj2 a1_0 a1_1 _ _ l1_2 false _ ?side1 ?side2 A9.out).mono ?_); (case side1 => repeat (first | exact (Kd.C_below HR1_2.out HB.out) | (with_reducible refine Kd.C_alloc ?_ _) | (with_reducible refine Kd.C_drewN ?_ _) | (with_reducible refine Kd.C_drew ?_))); (case side2 => exact HC1_2.out); rintro e w85 ⟨rfl, hb⟩; have n0_ := Aside0.mk (blk_below (g := gb150) (o := .cells #[.int .i64 a0_0, .int .i64 a0_1, .bool a0_2, .bool a0_3] 65 (0, 0)) (by (with_reducible repeat first | apply kN | apply kD | apply kA); exact BK150.out) hb); have n1_ := Aside0.mk (blk_below (g := gb151) (o := .cells #[.int .i64 a1_0, .int .i64 a1_1, .slice A1_2 l1_2.length c1_2] 38 (0, 0)) (by (with_reducible repeat first | apply kN | apply kD | apply kA); exact BK151.out) hb); have n2_ := Aside0.mk (below_step (by with_reducible repeat first | exact HB.out | apply bA | apply bN | apply bD | refine bS ?_ GE150.out | refine bS ?_ GE151.out) hb); clear BK150; clear BK151; clear HB; have BK150 := n0_; have BK151 := n1_; have HB := n2_; clear n0_ n1_ n2_; (try clear hb); (try clear hb2); (try clear hk); (try clear hi)))
    repeat (go_quiet (first | (go_at_call 12; (with_reducible refine (spec_ListOk.calls kj2 a1_0 a1_1 _ _ l1_2 false _ ?side1 ?side2 A9.out).mono ?_); (case side1 => repeat (first | exact (Kd.C_below HR1_2.out HB.out) | (with_reducible refine Kd.C_alloc ?_ _) | (with_reducible refine Kd.C_drewN ?_ _) | (with_reducible refine Kd.C_drew ?_))); (case side2 => exact HC1_2.out); rintro e w85 ⟨rfl, hb⟩; have n0_ := Aside0.mk (blk_below (g := gb150) (o := .cells #[.int .i64 a0_0, .int .i64 a0_1, .bool a0_2, .bool a0_3] 65 (0, 0)) (by (with_reducible repeat first | apply kN | apply kD | apply kA); exact BK150.out) hb); have n1_ := Aside0.mk (blk_below (g := gb151) (o := .cells #[.int .i64 a1_0, .int .i64 a1_1, .slice A1_2 l1_2.length c1_2] 38 (0, 0)) (by (with_reducible repeat first | apply kN | apply kD | apply kA); exact BK151.out) hb); have n2_ := Aside0.mk (below_step (by with_reducible repeat first | exact HB.out | apply bA | apply bN | apply bD | refine bS ?_ GE150.out | refine bS ?_ GE151.out) hb); clear BK150; clear BK151; clear HB; have BK150 := n0_; have BK151 := n1_; have HB := n2_; clear n0_ n1_ n2_; (try clear hb); (try clear hb2); (try clear hk); (try clear hi))); try go_wp2_with (first | (go_at_call 12; (with_reducible refine (spec_ListOk.calls kj2 a1_0 a1_1 _ _ l1_2 false _ ?side1 ?side2 A9.out).mono ?_); (case side1 => repeat (first | exact (Kd.C_below HR1_2.out HB.out) | (with_reducible refine Kd.C_alloc ?_ _) | (with_reducible refine Kd.C_drewN ?_ _) | (with_reducible refine Kd.C_drew ?_))); (case side2 => exact HC1_2.out); rintro e w85 ⟨rfl, hb⟩; have n0_ := Aside0.mk (blk_below (g := gb150) (o := .cells #[.int .i64 a0_0, .int .i64 a0_1, .bool a0_2, .bool a0_3] 65 (0, 0)) (by (with_reducible repeat first | apply kN | apply kD | apply kA); exact BK150.out) hb); have n1_ := Aside0.mk (blk_below (g := gb151) (o := .cells #[.int .i64 a1_0, .int .i64 a1_1, .slice A1_2 l1_2.length c1_2] 38 (0, 0)) (by (with_reducible repeat first | apply kN | apply kD | apply kA); exact BK151.out) hb); have n2_ := Aside0.mk (below_step (by with_reducible repeat first | exact HB.out | apply bA | apply bN | apply bD | refine bS ?_ GE150.out | refine bS ?_ GE151.out) hb); clear BK150; clear BK151; clear HB; have BK150 := n0_; have BK151 := n1_; have HB := n2_; clear n0_ n1_ n2_; (try clear hb); (try clear hb2); (try clear hk); (try clear hi))))
    go_ret
    exact ⟨by first | rfl | (simp [errW_none, errW_some] <;> rfl) | (simp [*, errW_none, errW_some] <;> rfl), by repeat (first | (with_reducible first | exact HB.out | apply below_alloc | apply pw_below_drewN | apply below_drew1 | refine below_set ?_ GE150.out | refine below_set ?_ GE151.out) | exact HB.out)⟩

end Go.Proofs.YtkmfdlcmdgdepaaDoor.U
