/- Functions of this seat as Lean functions, and that the Go code comes to their answers: laid by a program (the kit's printer over all laws of the seat at once, some walks turned by the session's own fix.py). -/
import Derived.Test.YtpjkpmgelmjlnaaFx0
import Derived.Test.YtpjkpmgelmjlnaaFx1
import Derived.Test.YtpjkpmgelmjlnaaFx4
import Derived.Test.YtpjkpmgelmjlnaaFx5
import Derived.Test.YtpjkpmgelmjlnaaFx7
import Derived.Test.YtpjkpmgelmjlnaaFx8
import Derived.Test.YtpjkpmgelmjlnaaFx9
import Derived.Test.YtpjkpmgelmjlnaaFx18
import Derived.Test.YtpjkpmgelmjlnaaFx22
namespace Go.Proofs.Ytpjkpmgelmjlnaa.F
open Go.RowKit Go.Proofs.YtpjkpmgelmjlnaaW.PrintWords Go.Proofs.YtpjkpmgelmjlnaaW.PrintLast Go.Proofs.YtpjkpmgelmjlnaaW.PrintMore
attribute [local go_sem] max2_int min2_int max_two min_two max_three min_three max_four min_four   -- for this text's walks alone
set_option linter.unusedVariables false
set_option linter.unusedSimpArgs false

attribute [local go_sem high] eqA26
/-! ### laws_FnBitTurn: function 15 -/
def laws_FnBitTurn.j0 : Nat → Bool → List Bool → Bool → Bool → Int → Int → Option (Bool)
  | 0, _, _, _, _, _, _ => none
  | k + 1, x4, x5, x8, x35, x519000, x519001 => if x35 = true then (some false) else (if (x5.length : Int) = 0 then (if (x519000 == 0 && (x519001 == 0)) = true then (some (!x8)) else (some false)) else (if 0 ≤ (wrap64 ((x5.length : Int) - 1)) then (if (wrap64 ((x5.length : Int) - 1)) < (x5.length : Int) then (if (x8 != (rdOf false x5 (wrap64 ((x5.length : Int) - 1)))) = true then (some false) else ((impl_BitList.f k x519000 x519001).bind fun t527 => ((laws_wbSame.f k t527 (x5.set ((wrap64 ((x5.length : Int) - 1)) : Int).toNat x4)).bind fun t530 => (some t530)))) else (none)) else (none)))
def laws_FnBitTurn.f (k : Nat) (l0 : List Int) : Option (Bool) := if (l0.length : Int) > 1048576 then (some true) else ((spec_DrawBitTurn.f k l0).bind fun bt509 => ((spec_BitList.f k bt509.1 bt509.2.1).bind fun t513 => ((impl_BitTurn.f bt509.1 bt509.2.1 bt509.2.2).bind fun bt516 => ((impl_BitPop.f bt509.1 bt509.2.1).bind fun bt519 => ((impl_BitTop.f bt509.1 bt509.2.1).bind fun t523 => (if (t523 != bt519.2.2) = true then (laws_FnBitTurn.j0 k bt509.2.2 t513 bt519.2.2 true bt516.1 bt516.2) else ((impl_BitOk.f bt516.1 bt516.2).bind fun t524 => (laws_FnBitTurn.j0 k bt509.2.2 t513 bt519.2.2 (!t524) bt516.1 bt516.2))))))))
theorem laws_FnBitTurn.mono_l : ∀ k, (∀ y0 y1 y2 y3 y4 y5, LeO (laws_FnBitTurn.j0 k y0 y1 y2 y3 y4 y5) (laws_FnBitTurn.j0 (k + 1) y0 y1 y2 y3 y4 y5))
  | 0 => fun _ _ _ _ _ _ r h => by simp [laws_FnBitTurn.j0] at h
  | k + 1 => by
    have ih0 := laws_FnBitTurn.mono_l k
    · intro y0 y1 y2 y3 y4 y5
      unfold laws_FnBitTurn.j0
      repeat' first
      | (with_reducible exact ih0 _ _ _ _ _ _)
      | (with_reducible exact impl_BitList.mono _ _ _)
      | (with_reducible exact laws_wbSame.mono _ _ _)
      | (with_reducible exact spec_BitList.mono _ _ _)
      | (with_reducible exact spec_DrawBitTurn.mono _ _)
      | (with_reducible exact LeO.refl _)
      | (with_reducible exact LeO.none _)
      | (with_reducible refine LeO.ite ?_ ?_)
      | (with_reducible refine LeO.bind ?_ (fun _ => ?_))
      | exact ih0 _ _ _ _ _ _
      | exact impl_BitList.mono _ _ _
      | exact laws_wbSame.mono _ _ _
      | exact spec_BitList.mono _ _ _
      | exact spec_DrawBitTurn.mono _ _
      | exact LeO.none _
      | refine LeO.ite ?_ ?_
      | refine LeO.bind ?_ (fun _ => ?_)
theorem laws_FnBitTurn.mono : ∀ a0 k, LeO (laws_FnBitTurn.f k a0) (laws_FnBitTurn.f (k + 1) a0) := by
  intro a0 k
  have ih0 := laws_FnBitTurn.mono_l k
  unfold laws_FnBitTurn.f
  repeat' first
      | (with_reducible exact ih0 _ _ _ _ _ _)
      | (with_reducible exact impl_BitList.mono _ _ _)
      | (with_reducible exact laws_wbSame.mono _ _ _)
      | (with_reducible exact spec_BitList.mono _ _ _)
      | (with_reducible exact spec_DrawBitTurn.mono _ _)
      | (with_reducible exact LeO.refl _)
      | (with_reducible exact LeO.none _)
      | (with_reducible refine LeO.ite ?_ ?_)
      | (with_reducible refine LeO.bind ?_ (fun _ => ?_))
      | exact ih0 _ _ _ _ _ _
      | exact impl_BitList.mono _ _ _
      | exact laws_wbSame.mono _ _ _
      | exact spec_BitList.mono _ _ _
      | exact spec_DrawBitTurn.mono _ _
      | exact LeO.none _
      | refine LeO.ite ?_ ?_
      | refine LeO.bind ?_ (fun _ => ?_)
set_option maxHeartbeats 8000000 in
set_option maxRecDepth 100000 in
theorem laws_FnBitTurn.calls (k : Nat) (A0 : Option Addr) (c0 : Nat) (l0 : List Int) (r : Bool) (w : World) (hr0 : Kd.C (Kd.int .u8) w A0 l0.length l0) (hc0 : l0.length ≤ c0) (h : laws_FnBitTurn.f k l0 = some r) :
    Calls Try.prog 15 #[.slice A0 l0.length c0] w fun e w' => e = .returned (.bool r) ∧ Below w.heap.size w w' := by
  have hu26 := Try.underlying26
  have HR0 := Aside0.mk hr0
  have HC0 := Aside0.mk hc0
  clear hr0 hc0
  have HB := Aside0.mk (Below.refl w.heap.size w)
  have H : (if (l0.length : Int) > 1048576 then (some true) else ((spec_DrawBitTurn.f k l0).bind fun bt509 => ((spec_BitList.f k bt509.1 bt509.2.1).bind fun t513 => ((impl_BitTurn.f bt509.1 bt509.2.1 bt509.2.2).bind fun bt516 => ((impl_BitPop.f bt509.1 bt509.2.1).bind fun bt519 => ((impl_BitTop.f bt509.1 bt509.2.1).bind fun t523 => (if (t523 != bt519.2.2) = true then (laws_FnBitTurn.j0 k bt509.2.2 t513 bt519.2.2 true bt516.1 bt516.2) else ((impl_BitOk.f bt516.1 bt516.2).bind fun t524 => (laws_FnBitTurn.j0 k bt509.2.2 t513 bt519.2.2 (!t524) bt516.1 bt516.2))))))))) = some r := h
  clear h
  by_cases c2 : (l0.length : Int) > 1048576
  · rw [if_pos c2] at H
    have c2b0 : decide (1048576 < (l0.length : Int)) = true := decide_eq_true c2
    have c2b1 : decide (1048576 < l0.length) = true := decide_eq_true (by omega)
    clear c2
    obtain rfl := Option.some.inj H
    go_enter Try.func15, Try.ntmps15
    go_wp2
    go_ret
    exact ⟨by first | rfl | (simp [errW_none, errW_some] <;> rfl) | (simp [*, errW_none, errW_some] <;> rfl), by repeat (first | (with_reducible first | exact HB.out | apply below_alloc | apply pw_below_drewN | apply below_drew1) | exact HB.out)⟩
  · rw [if_neg c2] at H
    have c2b0 : decide (1048576 < (l0.length : Int)) = false := decide_eq_false c2
    have c2b1 : decide (1048576 < l0.length) = false := decide_eq_false (by omega)
    clear c2
    replace H := Option.bind_eq_some_iff.mp H
    obtain ⟨⟨t509, t510, t511⟩, A30, H⟩ := H
    replace H : ((spec_BitList.f k t509 t510).bind fun t513 => ((impl_BitTurn.f t509 t510 t511).bind fun bt516 => ((impl_BitPop.f t509 t510).bind fun bt519 => ((impl_BitTop.f t509 t510).bind fun t523 => (if (t523 != bt519.2.2) = true then (laws_FnBitTurn.j0 k t511 t513 bt519.2.2 true bt516.1 bt516.2) else ((impl_BitOk.f bt516.1 bt516.2).bind fun t524 => (laws_FnBitTurn.j0 k t511 t513 bt519.2.2 (!t524) bt516.1 bt516.2))))))) = some r := H
    have A3 := Aside0.mk A30
    clear A30
    replace H := Option.bind_eq_some_iff.mp H
    obtain ⟨t513, A40, H⟩ := H
    replace H : ((impl_BitTurn.f t509 t510 t511).bind fun bt516 => ((impl_BitPop.f t509 t510).bind fun bt519 => ((impl_BitTop.f t509 t510).bind fun t523 => (if (t523 != bt519.2.2) = true then (laws_FnBitTurn.j0 k t511 t513 bt519.2.2 true bt516.1 bt516.2) else ((impl_BitOk.f bt516.1 bt516.2).bind fun t524 => (laws_FnBitTurn.j0 k t511 t513 bt519.2.2 (!t524) bt516.1 bt516.2)))))) = some r := H
    have A4 := Aside0.mk A40
    clear A40
    replace H := Option.bind_eq_some_iff.mp H
    obtain ⟨⟨t516, t517⟩, A50, H⟩ := H
    replace H : ((impl_BitPop.f t509 t510).bind fun bt519 => ((impl_BitTop.f t509 t510).bind fun t523 => (if (t523 != bt519.2.2) = true then (laws_FnBitTurn.j0 k t511 t513 bt519.2.2 true t516 t517) else ((impl_BitOk.f t516 t517).bind fun t524 => (laws_FnBitTurn.j0 k t511 t513 bt519.2.2 (!t524) t516 t517))))) = some r := H
    have A5 := Aside0.mk A50
    clear A50
    replace H := Option.bind_eq_some_iff.mp H
    obtain ⟨⟨t519, t520, t521⟩, A60, H⟩ := H
    replace H : ((impl_BitTop.f t509 t510).bind fun t523 => (if (t523 != t521) = true then (laws_FnBitTurn.j0 k t511 t513 t521 true t516 t517) else ((impl_BitOk.f t516 t517).bind fun t524 => (laws_FnBitTurn.j0 k t511 t513 t521 (!t524) t516 t517)))) = some r := H
    have A6 := Aside0.mk A60
    clear A60
    have HC7 := Aside0.mk H
    clear H
    go_enter Try.func15, Try.ntmps15
    go_upto_region 7 with (first | ((with_reducible refine gate_callee (f := 50) rfl ?_); refine goesL_ (some 14) rfl rfl Try.func50 (by kernel_rfl) rfl #[.slice A0 l0.length c0] rfl (by (try simp only [List.map_toArray, List.map_cons, List.map_nil]); first | done | rfl | (simp only [List.length_drop, List.length_take]; rfl)) ?_; (with_reducible refine (spec_DrawBitTurn.calls k _ _ l0 t509 t510 t511 _ ?side1 ?side2 A3.out).mono ?_); (case side1 => repeat (first | exact HR0.out | (with_reducible refine Kd.C_alloc ?_ _) | (with_reducible refine Kd.C_drewN ?_ _) | (with_reducible refine Kd.C_drew ?_))); (case side2 => exact HC0.out); rintro e w8 ⟨rfl, hb⟩; refine ⟨_, rfl, ?_⟩; have n0_ := Aside0.mk (below_step (by repeat (first | (with_reducible first | exact HB.out | apply below_alloc | apply pw_below_drewN | apply below_drew1) | exact HB.out)) hb); clear HB; have HB := n0_; clear n0_; (try clear hb); (try clear hb2); (try clear hk); (try clear hi)) | ((with_reducible refine gate_dst (N := 3) rfl ?_); refine box_event ?hg (N := 3) ?hd (cs := #[.int .u16 0, .int .i64 0]) (t := 26) ?hr ?_; (case hd => rfl); (case hg => rfl); (case hr => first | (go_simp; done) | (go_simp; rfl)); intro gb512 hg w9 hbox hb; have n0_ := Aside0.mk (below_step (by repeat (first | (with_reducible first | exact HB.out | apply below_alloc | apply pw_below_drewN | apply below_drew1) | exact HB.out)) hb); have n1_ := Aside0.mk (hbox); have n2_ := Aside0.mk ((by rw [hg]; exact (below_size (by repeat (first | (with_reducible first | exact HB.out | apply below_alloc | apply pw_below_drewN | apply below_drew1) | exact HB.out))) : w.heap.size ≤ gb512)); have n3_ := Aside0.mk ((by rw [hg]; exact (below_size (by repeat (first | (with_reducible first | exact HB.out | apply below_alloc | apply pw_below_drewN | apply below_drew1) | exact HB.out))) : w.heap.size ≤ gb512)); clear HB; have HB := n0_; have BK512 := n1_; have GW512 := n2_; have GE512 := n3_; clear n0_ n1_ n2_ n3_; clear hb hbox hg; have hcz10_0 : w9.cell? ⟨gb512, 0, none⟩ = some (.int .u16 0) := (blk_cell BK512.out 0).trans rfl; have hcz10_1 : w9.cell? ⟨gb512, 1, none⟩ = some (.int .i64 0) := (blk_cell BK512.out 1).trans rfl; have hfz10_0 := blk_frozen BK512.out 0; have hfz10_1 := blk_frozen BK512.out 1) | ((with_reducible refine gate_callee (f := 34) rfl ?_); refine goesL_ (some 18) rfl rfl Try.func34 (by kernel_rfl) rfl #[.agg #[.int .u16 t509, .int .i64 t510]] rfl (by (try simp only [List.map_toArray, List.map_cons, List.map_nil]); first | done | rfl | (simp only [List.length_drop, List.length_take]; rfl)) ?_; (with_reducible refine (spec_BitList.calls k t509 t510 t513 _ A4.out).mono ?_); rintro e w11 ⟨v514, rfl, ho0, hb⟩; refine ⟨_, rfl, ?_⟩; have n0_ := Aside0.mk (Kd.R_lower ho0 (below_size (by repeat (first | (with_reducible first | exact HB.out | apply below_alloc | apply pw_below_drewN | apply below_drew1 | refine below_set ?_ GE512.out) | exact HB.out)))); have n1_ := Aside0.mk (blk_below (g := gb512) (o := .cells #[.int .u16 t509, .int .i64 t510] 26 (0, 0)) (by (with_reducible repeat (first | refine blk_drewN ?_ _ | refine blk_drew ?_ | refine blk_alloc ?_ _)); refine blk_put (cs := #[.int .u16 t509, .int .i64 0]) ?_ 1 _ rfl; (with_reducible repeat (first | refine blk_drewN ?_ _ | refine blk_drew ?_ | refine blk_alloc ?_ _)); refine blk_put (cs := #[.int .u16 0, .int .i64 0]) ?_ 0 _ rfl; (with_reducible repeat (first | refine blk_drewN ?_ _ | refine blk_drew ?_ | refine blk_alloc ?_ _)); exact BK512.out) hb); have n2_ := Aside0.mk (below_step (by repeat (first | (with_reducible first | exact HB.out | apply below_alloc | apply pw_below_drewN | apply below_drew1 | refine below_set ?_ GE512.out) | exact HB.out)) hb); clear BK512; clear HB; have HO515 := n0_; have BK512 := n1_; have HB := n2_; clear n0_ n1_ n2_; (try clear hb); (try clear hb2); (try clear hk); (try clear hi); (try clear ho0); have hcz12_0 : w11.cell? ⟨gb512, 0, none⟩ = some (.int .u16 t509) := (blk_cell BK512.out 0).trans rfl; have hcz12_1 : w11.cell? ⟨gb512, 1, none⟩ = some (.int .i64 t510) := (blk_cell BK512.out 1).trans rfl; have hfz12_0 := blk_frozen BK512.out 0; have hfz12_1 := blk_frozen BK512.out 1) | ((with_reducible refine gate_callee (f := 42) rfl ?_); refine goesL_ (some 21) rfl rfl Try.func42 (by kernel_rfl) rfl #[.agg #[.int .u16 t509, .int .i64 t510], .bool t511] rfl (by (try simp only [List.map_toArray, List.map_cons, List.map_nil]); first | done | rfl | (simp only [List.length_drop, List.length_take]; rfl)) ?_; (with_reducible refine (impl_BitTurn.calls t509 t510 t511 t516 t517 _ A5.out).mono ?_); rintro e w13 ⟨rfl, hb⟩; refine ⟨_, rfl, ?_⟩; have n0_ := Aside0.mk (Kd.R_below (by (with_reducible repeat (first | apply Kd.R_alloc | apply Kd.R_drewN | apply Kd.R_drew)); exact HO515.out) hb); have n1_ := Aside0.mk (blk_below (g := gb512) (o := .cells #[.int .u16 t509, .int .i64 t510] 26 (0, 0)) (by (with_reducible repeat (first | refine blk_drewN ?_ _ | refine blk_drew ?_ | refine blk_alloc ?_ _)); exact BK512.out) hb); have n2_ := Aside0.mk (below_step (by repeat (first | (with_reducible first | exact HB.out | apply below_alloc | apply pw_below_drewN | apply below_drew1 | refine below_set ?_ GE512.out) | exact HB.out)) hb); clear HO515; clear BK512; clear HB; have HO515 := n0_; have BK512 := n1_; have HB := n2_; clear n0_ n1_ n2_; (try clear hb); (try clear hb2); (try clear hk); (try clear hi)) | ((with_reducible refine gate_dst (N := 6) rfl ?_); refine box_event ?hg (N := 6) ?hd (cs := #[.int .u16 0, .int .i64 0]) (t := 26) ?hr ?_; (case hd => rfl); (case hg => rfl); (case hr => first | (go_simp; done) | (go_simp; rfl)); intro gb518 hg w14 hbox hb; have n0_ := Aside0.mk (Kd.R_below (by (with_reducible repeat (first | apply Kd.R_alloc | apply Kd.R_drewN | apply Kd.R_drew)); exact HO515.out) hb); have n1_ := Aside0.mk (blk_below (g := gb512) (o := .cells #[.int .u16 t509, .int .i64 t510] 26 (0, 0)) (by (with_reducible repeat (first | refine blk_drewN ?_ _ | refine blk_drew ?_ | refine blk_alloc ?_ _)); exact BK512.out) hb); have n2_ := Aside0.mk (below_step (by repeat (first | (with_reducible first | exact HB.out | apply below_alloc | apply pw_below_drewN | apply below_drew1 | refine below_set ?_ GE512.out) | exact HB.out)) hb); have n3_ := Aside0.mk (hbox); have n4_ := Aside0.mk ((by rw [hg]; exact (below_size (by repeat (first | (with_reducible first | exact HB.out | apply below_alloc | apply pw_below_drewN | apply below_drew1 | refine below_set ?_ GE512.out) | exact HB.out))) : w.heap.size ≤ gb518)); have n5_ := Aside0.mk ((by rw [hg]; exact (below_size (by repeat (first | (with_reducible first | exact HB.out | apply below_alloc | apply pw_below_drewN | apply below_drew1 | refine below_set ?_ GE512.out) | exact HB.out))) : w.heap.size ≤ gb518)); have n6_ := Aside0.mk ((by rw [hg]; exact Nat.ne_of_lt (blk_lt (g := gb512) (o := .cells #[.int .u16 t509, .int .i64 t510] 26 (0, 0)) (by (with_reducible repeat (first | refine blk_drewN ?_ _ | refine blk_drew ?_ | refine blk_alloc ?_ _)); exact BK512.out)) : gb512 ≠ gb518)); have n7_ := Aside0.mk ((by rw [hg]; exact Nat.ne_of_gt (blk_lt (g := gb512) (o := .cells #[.int .u16 t509, .int .i64 t510] 26 (0, 0)) (by (with_reducible repeat (first | refine blk_drewN ?_ _ | refine blk_drew ?_ | refine blk_alloc ?_ _)); exact BK512.out)) : gb518 ≠ gb512)); clear HO515; clear BK512; clear HB; have HO515 := n0_; have BK512 := n1_; have HB := n2_; have BK518 := n3_; have GW518 := n4_; have GE518 := n5_; have NB512_518 := n6_; have NB518_512 := n7_; clear n0_ n1_ n2_ n3_ n4_ n5_ n6_ n7_; clear hb hbox hg; have hnb15 := NB518_512.out; have hnc15 := NB512_518.out; have hcz16_0 : w14.cell? ⟨gb518, 0, none⟩ = some (.int .u16 0) := (blk_cell BK518.out 0).trans rfl; have hcz16_1 : w14.cell? ⟨gb518, 1, none⟩ = some (.int .i64 0) := (blk_cell BK518.out 1).trans rfl; have hfz16_0 := blk_frozen BK518.out 0; have hfz16_1 := blk_frozen BK518.out 1; have hcz17_0 : w14.cell? ⟨gb512, 0, none⟩ = some (.int .u16 t509) := (blk_cell BK512.out 0).trans rfl; have hcz17_1 : w14.cell? ⟨gb512, 1, none⟩ = some (.int .i64 t510) := (blk_cell BK512.out 1).trans rfl; have hfz17_0 := blk_frozen BK512.out 0; have hfz17_1 := blk_frozen BK512.out 1) | ((with_reducible refine gate_callee (f := 26) rfl ?_); refine goesL_ (some 24) rfl rfl Try.func26 (by kernel_rfl) rfl #[.agg #[.int .u16 t509, .int .i64 t510]] rfl (by (try simp only [List.map_toArray, List.map_cons, List.map_nil]); first | done | rfl | (simp only [List.length_drop, List.length_take]; rfl)) ?_; (with_reducible refine (impl_BitPop.calls t509 t510 t519 t520 t521 _ A6.out).mono ?_); rintro e w18 ⟨rfl, hb⟩; refine ⟨_, rfl, ?_⟩; have n0_ := Aside0.mk (Kd.R_below (by (with_reducible repeat (first | apply Kd.R_alloc | apply Kd.R_drewN | apply Kd.R_drew)); exact (Kd.R_mono (Kd.R_far (p := ⟨gb518, 1, none⟩) (Kd.R_far (p := ⟨gb518, 0, none⟩) (Kd.R_types HO515.out BK518.out (by decide)) (fun _ hk => hk.2) (.int .u16 t516)) (fun _ hk => hk.2) (.int .i64 t517)) (fun _ h_ => h_.1))) hb); have n1_ := Aside0.mk (blk_below (g := gb512) (o := .cells #[.int .u16 t509, .int .i64 t510] 26 (0, 0)) (by (with_reducible repeat (first | refine blk_drewN ?_ _ | refine blk_drew ?_ | refine blk_alloc ?_ _)); refine blk_far ?_ NB512_518.out _; (with_reducible repeat (first | refine blk_drewN ?_ _ | refine blk_drew ?_ | refine blk_alloc ?_ _)); refine blk_far ?_ NB512_518.out _; (with_reducible repeat (first | refine blk_drewN ?_ _ | refine blk_drew ?_ | refine blk_alloc ?_ _)); exact BK512.out) hb); have n2_ := Aside0.mk (blk_below (g := gb518) (o := .cells #[.int .u16 t516, .int .i64 t517] 26 (0, 0)) (by (with_reducible repeat (first | refine blk_drewN ?_ _ | refine blk_drew ?_ | refine blk_alloc ?_ _)); refine blk_put (cs := #[.int .u16 t516, .int .i64 0]) ?_ 1 _ rfl; (with_reducible repeat (first | refine blk_drewN ?_ _ | refine blk_drew ?_ | refine blk_alloc ?_ _)); refine blk_put (cs := #[.int .u16 0, .int .i64 0]) ?_ 0 _ rfl; (with_reducible repeat (first | refine blk_drewN ?_ _ | refine blk_drew ?_ | refine blk_alloc ?_ _)); exact BK518.out) hb); have n3_ := Aside0.mk (below_step (by repeat (first | (with_reducible first | exact HB.out | apply below_alloc | apply pw_below_drewN | apply below_drew1 | refine below_set ?_ GE512.out | refine below_set ?_ GE518.out) | exact HB.out)) hb); clear HO515; clear BK512; clear BK518; clear HB; have HO515 := n0_; have BK512 := n1_; have BK518 := n2_; have HB := n3_; clear n0_ n1_ n2_ n3_; (try clear hb); (try clear hb2); (try clear hk); (try clear hi)) | ((with_reducible refine gate_dst (N := 7) rfl ?_); refine box_event ?hg (N := 7) ?hd (cs := #[.int .u16 0, .int .i64 0]) (t := 26) ?hr ?_; (case hd => rfl); (case hg => rfl); (case hr => first | (go_simp; done) | (go_simp; rfl)); intro gb522 hg w19 hbox hb; have n0_ := Aside0.mk (Kd.R_below (by (with_reducible repeat (first | apply Kd.R_alloc | apply Kd.R_drewN | apply Kd.R_drew)); exact HO515.out) hb); have n1_ := Aside0.mk (blk_below (g := gb512) (o := .cells #[.int .u16 t509, .int .i64 t510] 26 (0, 0)) (by (with_reducible repeat (first | refine blk_drewN ?_ _ | refine blk_drew ?_ | refine blk_alloc ?_ _)); exact BK512.out) hb); have n2_ := Aside0.mk (blk_below (g := gb518) (o := .cells #[.int .u16 t516, .int .i64 t517] 26 (0, 0)) (by (with_reducible repeat (first | refine blk_drewN ?_ _ | refine blk_drew ?_ | refine blk_alloc ?_ _)); exact BK518.out) hb); have n3_ := Aside0.mk (below_step (by repeat (first | (with_reducible first | exact HB.out | apply below_alloc | apply pw_below_drewN | apply below_drew1 | refine below_set ?_ GE512.out | refine below_set ?_ GE518.out) | exact HB.out)) hb); have n4_ := Aside0.mk (hbox); have n5_ := Aside0.mk ((by rw [hg]; exact (below_size (by repeat (first | (with_reducible first | exact HB.out | apply below_alloc | apply pw_below_drewN | apply below_drew1 | refine below_set ?_ GE512.out | refine below_set ?_ GE518.out) | exact HB.out))) : w.heap.size ≤ gb522)); have n6_ := Aside0.mk ((by rw [hg]; exact (below_size (by repeat (first | (with_reducible first | exact HB.out | apply below_alloc | apply pw_below_drewN | apply below_drew1 | refine below_set ?_ GE512.out | refine below_set ?_ GE518.out) | exact HB.out))) : w.heap.size ≤ gb522)); have n7_ := Aside0.mk ((by rw [hg]; exact Nat.ne_of_lt (blk_lt (g := gb512) (o := .cells #[.int .u16 t509, .int .i64 t510] 26 (0, 0)) (by (with_reducible repeat (first | refine blk_drewN ?_ _ | refine blk_drew ?_ | refine blk_alloc ?_ _)); exact BK512.out)) : gb512 ≠ gb522)); have n8_ := Aside0.mk ((by rw [hg]; exact Nat.ne_of_gt (blk_lt (g := gb512) (o := .cells #[.int .u16 t509, .int .i64 t510] 26 (0, 0)) (by (with_reducible repeat (first | refine blk_drewN ?_ _ | refine blk_drew ?_ | refine blk_alloc ?_ _)); exact BK512.out)) : gb522 ≠ gb512)); have n9_ := Aside0.mk ((by rw [hg]; exact Nat.ne_of_lt (blk_lt (g := gb518) (o := .cells #[.int .u16 t516, .int .i64 t517] 26 (0, 0)) (by (with_reducible repeat (first | refine blk_drewN ?_ _ | refine blk_drew ?_ | refine blk_alloc ?_ _)); exact BK518.out)) : gb518 ≠ gb522)); have n10_ := Aside0.mk ((by rw [hg]; exact Nat.ne_of_gt (blk_lt (g := gb518) (o := .cells #[.int .u16 t516, .int .i64 t517] 26 (0, 0)) (by (with_reducible repeat (first | refine blk_drewN ?_ _ | refine blk_drew ?_ | refine blk_alloc ?_ _)); exact BK518.out)) : gb522 ≠ gb518)); clear HO515; clear BK512; clear BK518; clear HB; have HO515 := n0_; have BK512 := n1_; have BK518 := n2_; have HB := n3_; have BK522 := n4_; have GW522 := n5_; have GE522 := n6_; have NB512_522 := n7_; have NB522_512 := n8_; have NB518_522 := n9_; have NB522_518 := n10_; clear n0_ n1_ n2_ n3_ n4_ n5_ n6_ n7_ n8_ n9_ n10_; clear hb hbox hg; have hnb20 := NB522_512.out; have hnc20 := NB512_522.out; have hnb21 := NB522_518.out; have hnc21 := NB518_522.out; have hcz22_0 : w19.cell? ⟨gb522, 0, none⟩ = some (.int .u16 0) := (blk_cell BK522.out 0).trans rfl; have hcz22_1 : w19.cell? ⟨gb522, 1, none⟩ = some (.int .i64 0) := (blk_cell BK522.out 1).trans rfl; have hfz22_0 := blk_frozen BK522.out 0; have hfz22_1 := blk_frozen BK522.out 1))
    (try simp only [Act.put, List.setIfInBounds_toArray, List.set_cons_zero, List.set_cons_succ])
    go_cut [35] (fun v35 wc => ∃ (kq : Nat) (x35_6 : Bool), v35 = .bool x35_6 ∧ Aside0 (laws_FnBitTurn.j0 kq t511 t513 t521 x35_6 t516 t517 = some r) ∧ Aside0 (kq ≤ k) ∧ Aside0 (Kd.R Kd.bool 4 wc w.heap.size (fun _ => True) v514 t513) ∧ Aside0 (wc.heap[gb512]? = some (.cells #[.int .u16 t509, .int .i64 t510] 26 (0, 0))) ∧ Aside0 (wc.heap[gb518]? = some (.cells #[.int .u16 t516, .int .i64 t517] 26 (0, 0))) ∧ Aside0 (wc.heap[gb522]? = some (.cells #[.int .u16 t519, .int .i64 t520] 26 (0, 0))) ∧ Aside0 (Below w.heap.size w wc))
    case first =>
      have H := HC7.out
      clear HC7
      replace H := Option.bind_eq_some_iff.mp H
      obtain ⟨t523, A230, H⟩ := H
      replace H : (if (t523 != t521) = true then (laws_FnBitTurn.j0 k t511 t513 t521 true t516 t517) else ((impl_BitOk.f t516 t517).bind fun t524 => (laws_FnBitTurn.j0 k t511 t513 t521 (!t524) t516 t517))) = some r := H
      have A23 := Aside0.mk A230
      clear A230
      by_cases c24 : (t523 != t521) = true
      · rw [if_pos c24] at H
        have c24b0 : (t523 != t521) = true := c24
        (try (have c24b1 : decide (t523 = t521) = false := by simpa using c24))
        (try (have c24b2 : (t523 == t521) = false := by simpa using c24))
        (try (have c24b3 : ¬ (t523 = t521) := by simpa using c24))
        clear c24
        (first | rw [c24b0] | (simp only [i64_w, i32_w]; rw [c24b0]) | skip)
        have H' := Aside0.mk H
        clear H
        have hnb25 := NB512_518.out
        have hnc25 := NB518_512.out
        have hnb26 := NB512_522.out
        have hnc26 := NB522_512.out
        have hcz27_0 : w19.cell? ⟨gb512, 0, none⟩ = some (.int .u16 t509) := (blk_cell BK512.out 0).trans rfl
        have hcz27_1 : w19.cell? ⟨gb512, 1, none⟩ = some (.int .i64 t510) := (blk_cell BK512.out 1).trans rfl
        have hfz27_0 := blk_frozen BK512.out 0
        have hfz27_1 := blk_frozen BK512.out 1
        go_wp2_with (first | ((with_reducible refine gate_callee (f := 20) rfl ?_); refine goesL_ (some 28) rfl rfl Try.func20 (by kernel_rfl) rfl #[.agg #[.int .u16 t509, .int .i64 t510]] rfl (by (try simp only [List.map_toArray, List.map_cons, List.map_nil]); first | done | rfl | (simp only [List.length_drop, List.length_take]; rfl)) ?_; (with_reducible refine (impl_BitTop.calls t509 t510 t523 _ A23.out).mono ?_); rintro e w28 ⟨rfl, hb⟩; refine ⟨_, rfl, ?_⟩; have n0_ := Aside0.mk (Kd.R_below (by (with_reducible repeat (first | apply Kd.R_alloc | apply Kd.R_drewN | apply Kd.R_drew)); exact (Kd.R_mono (Kd.R_far (p := ⟨gb522, 1, none⟩) (Kd.R_far (p := ⟨gb522, 0, none⟩) (Kd.R_types HO515.out BK522.out (by decide)) (fun _ hk => hk.2) (.int .u16 t519)) (fun _ hk => hk.2) (.int .i64 t520)) (fun _ h_ => h_.1))) hb); have n1_ := Aside0.mk (blk_below (g := gb512) (o := .cells #[.int .u16 t509, .int .i64 t510] 26 (0, 0)) (by (with_reducible repeat (first | refine blk_drewN ?_ _ | refine blk_drew ?_ | refine blk_alloc ?_ _)); refine blk_far ?_ NB512_522.out _; (with_reducible repeat (first | refine blk_drewN ?_ _ | refine blk_drew ?_ | refine blk_alloc ?_ _)); refine blk_far ?_ NB512_522.out _; (with_reducible repeat (first | refine blk_drewN ?_ _ | refine blk_drew ?_ | refine blk_alloc ?_ _)); exact BK512.out) hb); have n2_ := Aside0.mk (blk_below (g := gb518) (o := .cells #[.int .u16 t516, .int .i64 t517] 26 (0, 0)) (by (with_reducible repeat (first | refine blk_drewN ?_ _ | refine blk_drew ?_ | refine blk_alloc ?_ _)); refine blk_far ?_ NB518_522.out _; (with_reducible repeat (first | refine blk_drewN ?_ _ | refine blk_drew ?_ | refine blk_alloc ?_ _)); refine blk_far ?_ NB518_522.out _; (with_reducible repeat (first | refine blk_drewN ?_ _ | refine blk_drew ?_ | refine blk_alloc ?_ _)); exact BK518.out) hb); have n3_ := Aside0.mk (blk_below (g := gb522) (o := .cells #[.int .u16 t519, .int .i64 t520] 26 (0, 0)) (by (with_reducible repeat (first | refine blk_drewN ?_ _ | refine blk_drew ?_ | refine blk_alloc ?_ _)); refine blk_put (cs := #[.int .u16 t519, .int .i64 0]) ?_ 1 _ rfl; (with_reducible repeat (first | refine blk_drewN ?_ _ | refine blk_drew ?_ | refine blk_alloc ?_ _)); refine blk_put (cs := #[.int .u16 0, .int .i64 0]) ?_ 0 _ rfl; (with_reducible repeat (first | refine blk_drewN ?_ _ | refine blk_drew ?_ | refine blk_alloc ?_ _)); exact BK522.out) hb); have n4_ := Aside0.mk (below_step (by repeat (first | (with_reducible first | exact HB.out | apply below_alloc | apply pw_below_drewN | apply below_drew1 | refine below_set ?_ GE512.out | refine below_set ?_ GE518.out | refine below_set ?_ GE522.out) | exact HB.out)) hb); clear HO515; clear BK512; clear BK518; clear BK522; clear HB; have HO515 := n0_; have BK512 := n1_; have BK518 := n2_; have BK522 := n3_; have HB := n4_; clear n0_ n1_ n2_ n3_ n4_; (try clear hb); (try clear hb2); (try clear hk); (try clear hi)))
        go_meet
        case rel => exact ⟨_, (true), (by first | rfl | (simp; done) | (simp [*]; done)), H', ⟨by first | omega | exact Nat.le_refl _⟩, ⟨by (with_reducible repeat (first | apply Kd.R_alloc | apply Kd.R_drewN | apply Kd.R_drew)); exact HO515.out⟩, ⟨by (with_reducible repeat (first | refine blk_drewN ?_ _ | refine blk_drew ?_ | refine blk_alloc ?_ _)); exact BK512.out⟩, ⟨by (with_reducible repeat (first | refine blk_drewN ?_ _ | refine blk_drew ?_ | refine blk_alloc ?_ _)); exact BK518.out⟩, ⟨by (with_reducible repeat (first | refine blk_drewN ?_ _ | refine blk_drew ?_ | refine blk_alloc ?_ _)); exact BK522.out⟩, ⟨by repeat (first | (with_reducible first | exact HB.out | apply below_alloc | apply pw_below_drewN | apply below_drew1 | refine below_set ?_ GE512.out | refine below_set ?_ GE518.out | refine below_set ?_ GE522.out) | exact HB.out)⟩⟩
      · rw [if_neg c24] at H
        have c24b0 : (t523 != t521) = false := by simpa using c24
        (try (have c24b1 : decide (t523 = t521) = true := by simpa using c24))
        (try (have c24b2 : (t523 == t521) = true := by simpa using c24))
        clear c24
        (first | rw [c24b0] | (simp only [i64_w, i32_w]; rw [c24b0]) | skip)
        replace H := Option.bind_eq_some_iff.mp H
        obtain ⟨t524, A290, H⟩ := H
        replace H : (laws_FnBitTurn.j0 k t511 t513 t521 (!t524) t516 t517) = some r := H
        have A29 := Aside0.mk A290
        clear A290
        have H' := Aside0.mk H
        clear H
        have hnb30 := NB512_518.out
        have hnc30 := NB518_512.out
        have hnb31 := NB512_522.out
        have hnc31 := NB522_512.out
        have hcz32_0 : w19.cell? ⟨gb512, 0, none⟩ = some (.int .u16 t509) := (blk_cell BK512.out 0).trans rfl
        have hcz32_1 : w19.cell? ⟨gb512, 1, none⟩ = some (.int .i64 t510) := (blk_cell BK512.out 1).trans rfl
        have hfz32_0 := blk_frozen BK512.out 0
        have hfz32_1 := blk_frozen BK512.out 1
        go_wp2_with (first | ((with_reducible refine gate_callee (f := 20) rfl ?_); refine goesL_ (some 28) rfl rfl Try.func20 (by kernel_rfl) rfl #[.agg #[.int .u16 t509, .int .i64 t510]] rfl (by (try simp only [List.map_toArray, List.map_cons, List.map_nil]); first | done | rfl | (simp only [List.length_drop, List.length_take]; rfl)) ?_; (with_reducible refine (impl_BitTop.calls t509 t510 t523 _ A23.out).mono ?_); rintro e w33 ⟨rfl, hb⟩; refine ⟨_, rfl, ?_⟩; have n0_ := Aside0.mk (Kd.R_below (by (with_reducible repeat (first | apply Kd.R_alloc | apply Kd.R_drewN | apply Kd.R_drew)); exact (Kd.R_mono (Kd.R_far (p := ⟨gb522, 1, none⟩) (Kd.R_far (p := ⟨gb522, 0, none⟩) (Kd.R_types HO515.out BK522.out (by decide)) (fun _ hk => hk.2) (.int .u16 t519)) (fun _ hk => hk.2) (.int .i64 t520)) (fun _ h_ => h_.1))) hb); have n1_ := Aside0.mk (blk_below (g := gb512) (o := .cells #[.int .u16 t509, .int .i64 t510] 26 (0, 0)) (by (with_reducible repeat (first | refine blk_drewN ?_ _ | refine blk_drew ?_ | refine blk_alloc ?_ _)); refine blk_far ?_ NB512_522.out _; (with_reducible repeat (first | refine blk_drewN ?_ _ | refine blk_drew ?_ | refine blk_alloc ?_ _)); refine blk_far ?_ NB512_522.out _; (with_reducible repeat (first | refine blk_drewN ?_ _ | refine blk_drew ?_ | refine blk_alloc ?_ _)); exact BK512.out) hb); have n2_ := Aside0.mk (blk_below (g := gb518) (o := .cells #[.int .u16 t516, .int .i64 t517] 26 (0, 0)) (by (with_reducible repeat (first | refine blk_drewN ?_ _ | refine blk_drew ?_ | refine blk_alloc ?_ _)); refine blk_far ?_ NB518_522.out _; (with_reducible repeat (first | refine blk_drewN ?_ _ | refine blk_drew ?_ | refine blk_alloc ?_ _)); refine blk_far ?_ NB518_522.out _; (with_reducible repeat (first | refine blk_drewN ?_ _ | refine blk_drew ?_ | refine blk_alloc ?_ _)); exact BK518.out) hb); have n3_ := Aside0.mk (blk_below (g := gb522) (o := .cells #[.int .u16 t519, .int .i64 t520] 26 (0, 0)) (by (with_reducible repeat (first | refine blk_drewN ?_ _ | refine blk_drew ?_ | refine blk_alloc ?_ _)); refine blk_put (cs := #[.int .u16 t519, .int .i64 0]) ?_ 1 _ rfl; (with_reducible repeat (first | refine blk_drewN ?_ _ | refine blk_drew ?_ | refine blk_alloc ?_ _)); refine blk_put (cs := #[.int .u16 0, .int .i64 0]) ?_ 0 _ rfl; (with_reducible repeat (first | refine blk_drewN ?_ _ | refine blk_drew ?_ | refine blk_alloc ?_ _)); exact BK522.out) hb); have n4_ := Aside0.mk (below_step (by repeat (first | (with_reducible first | exact HB.out | apply below_alloc | apply pw_below_drewN | apply below_drew1 | refine below_set ?_ GE512.out | refine below_set ?_ GE518.out | refine below_set ?_ GE522.out) | exact HB.out)) hb); clear HO515; clear BK512; clear BK518; clear BK522; clear HB; have HO515 := n0_; have BK512 := n1_; have BK518 := n2_; have BK522 := n3_; have HB := n4_; clear n0_ n1_ n2_ n3_ n4_; (try clear hb); (try clear hb2); (try clear hk); (try clear hi); have hnb34 := NB518_522.out; have hnc34 := NB522_518.out; have hcz35_0 : w33.cell? ⟨gb518, 0, none⟩ = some (.int .u16 t516) := (blk_cell BK518.out 0).trans rfl; have hcz35_1 : w33.cell? ⟨gb518, 1, none⟩ = some (.int .i64 t517) := (blk_cell BK518.out 1).trans rfl; have hfz35_0 := blk_frozen BK518.out 0; have hfz35_1 := blk_frozen BK518.out 1) | (go_at_call 28; (with_reducible refine (impl_BitOk.calls t516 t517 t524 _ A29.out).mono ?_); rintro e w36 ⟨rfl, hb⟩; have n0_ := Aside0.mk (Kd.R_below (by (with_reducible repeat (first | apply Kd.R_alloc | apply Kd.R_drewN | apply Kd.R_drew)); exact HO515.out) hb); have n1_ := Aside0.mk (blk_below (g := gb512) (o := .cells #[.int .u16 t509, .int .i64 t510] 26 (0, 0)) (by (with_reducible repeat (first | refine blk_drewN ?_ _ | refine blk_drew ?_ | refine blk_alloc ?_ _)); exact BK512.out) hb); have n2_ := Aside0.mk (blk_below (g := gb518) (o := .cells #[.int .u16 t516, .int .i64 t517] 26 (0, 0)) (by (with_reducible repeat (first | refine blk_drewN ?_ _ | refine blk_drew ?_ | refine blk_alloc ?_ _)); exact BK518.out) hb); have n3_ := Aside0.mk (blk_below (g := gb522) (o := .cells #[.int .u16 t519, .int .i64 t520] 26 (0, 0)) (by (with_reducible repeat (first | refine blk_drewN ?_ _ | refine blk_drew ?_ | refine blk_alloc ?_ _)); exact BK522.out) hb); have n4_ := Aside0.mk (below_step (by repeat (first | (with_reducible first | exact HB.out | apply below_alloc | apply pw_below_drewN | apply below_drew1 | refine below_set ?_ GE512.out | refine below_set ?_ GE518.out | refine below_set ?_ GE522.out) | exact HB.out)) hb); clear HO515; clear BK512; clear BK518; clear BK522; clear HB; have HO515 := n0_; have BK512 := n1_; have BK518 := n2_; have BK522 := n3_; have HB := n4_; clear n0_ n1_ n2_ n3_ n4_; (try clear hb); (try clear hb2); (try clear hk); (try clear hi)))
        go_meet
        case rel => exact ⟨_, (!t524), (by first | rfl | (simp; done) | (simp [*]; done)), H', ⟨by first | omega | exact Nat.le_refl _⟩, ⟨by (with_reducible repeat (first | apply Kd.R_alloc | apply Kd.R_drewN | apply Kd.R_drew)); exact HO515.out⟩, ⟨by (with_reducible repeat (first | refine blk_drewN ?_ _ | refine blk_drew ?_ | refine blk_alloc ?_ _)); exact BK512.out⟩, ⟨by (with_reducible repeat (first | refine blk_drewN ?_ _ | refine blk_drew ?_ | refine blk_alloc ?_ _)); exact BK518.out⟩, ⟨by (with_reducible repeat (first | refine blk_drewN ?_ _ | refine blk_drew ?_ | refine blk_alloc ?_ _)); exact BK522.out⟩, ⟨by repeat (first | (with_reducible first | exact HB.out | apply below_alloc | apply pw_below_drewN | apply below_drew1 | refine below_set ?_ GE512.out | refine below_set ?_ GE518.out | refine below_set ?_ GE522.out) | exact HB.out)⟩⟩
    case rest =>
      clear HC7
      try clear c1
      try clear c2
      try clear c2b0
      try clear c2b1
      try clear p2
      try clear c3
      try clear c4
      try clear c5
      try clear c15
      try clear c20
      try clear c21
      try clear c24
      try clear c24b0
      try clear c24b1
      try clear c24b2
      try clear c25
      try clear c26
      try clear c30
      try clear c31
      try clear c34
      try clear hcz10_0
      try clear hcz10_1
      try clear hcz12_0
      try clear hcz12_1
      try clear hcz16_0
      try clear hcz16_1
      try clear hcz17_0
      try clear hcz17_1
      try clear hcz22_0
      try clear hcz22_1
      try clear hcz27_0
      try clear hcz27_1
      try clear hcz32_0
      try clear hcz32_1
      try clear hcz35_0
      try clear hcz35_1
      try clear hfz10_0
      try clear hfz10_1
      try clear hfz12_0
      try clear hfz12_1
      try clear hfz16_0
      try clear hfz16_1
      try clear hfz17_0
      try clear hfz17_1
      try clear hfz22_0
      try clear hfz22_1
      try clear hfz27_0
      try clear hfz27_1
      try clear hfz32_0
      try clear hfz32_1
      try clear hfz35_0
      try clear hfz35_1
      obtain ⟨kq, x35_6, rfl, HA, HJ6, HO_5, BK512, BK518, BK522, HB⟩ := hcut
      cases kq with
      | zero => exact absurd HA.out (by simp [laws_FnBitTurn.j0])
      | succ kj6 =>
        have H := HA.out
        clear HA
        simp only [laws_FnBitTurn.j0] at H
        by_cases c37 : x35_6 = true
        · subst c37
          have H1 : (some false) = some r := by rw [if_pos rfl] at H; exact H
          clear H
          have H := H1
          clear H1
          obtain rfl := Option.some.inj H
          go_wp2
          go_ret
          exact ⟨by first | rfl | (simp [errW_none, errW_some] <;> rfl) | (simp [*, errW_none, errW_some] <;> rfl), by repeat (first | (with_reducible first | exact HB.out | apply below_alloc | apply pw_below_drewN | apply below_drew1 | refine below_set ?_ GE512.out | refine below_set ?_ GE518.out | refine below_set ?_ GE522.out) | exact HB.out)⟩
        · replace c37 := Bool.eq_false_iff.mpr c37
          subst c37
          have H1 : (if (t513.length : Int) = 0 then (if (t516 == 0 && (t517 == 0)) = true then (some (!t521)) else (some false)) else (if 0 ≤ (wrap64 ((t513.length : Int) - 1)) then (if (wrap64 ((t513.length : Int) - 1)) < (t513.length : Int) then (if (t521 != (rdOf false t513 (wrap64 ((t513.length : Int) - 1)))) = true then (some false) else ((impl_BitList.f kj6 t516 t517).bind fun t527 => ((laws_wbSame.f kj6 t527 (t513.set ((wrap64 ((t513.length : Int) - 1)) : Int).toNat t511)).bind fun t530 => (some t530)))) else (none)) else (none))) = some r := by rw [if_neg (show ¬ (false = true) by decide)] at H; exact H
          clear H
          have H := H1
          clear H1
          by_cases c38 : (t513.length : Int) = 0
          · rw [if_pos c38] at H
            have c38b0 : ((t513.length : Int) == 0) = true := beq_iff_eq.mpr c38
            have c38b1 : ((t513.length : Int) != 0) = false := bne_eq_false_iff_eq.mpr c38
            clear c38
            by_cases c39 : (t516 == 0 && (t517 == 0)) = true
            · rw [if_pos c39] at H
              have c39b0 : (t516 == 0 && (t517 == 0)) = true := c39
              (try (have c39b1 : decide (t516 = 0 && (t517 == 0)) = true := by simpa using c39))
              (try (have c39b2 : (t516 == 0 && (t517 == 0)) = true := by simpa using c39))
              clear c39
              obtain rfl := Option.some.inj H
              obtain ⟨Ao40, co40, eo40⟩ := Kd.R_slice HO_5.out
              subst eo40
              have hnb41 := NB518_512.out
              have hnc41 := NB512_518.out
              have hnb42 := NB518_522.out
              have hnc42 := NB522_518.out
              have hcz43_0 : wc.cell? ⟨gb518, 0, none⟩ = some (.int .u16 t516) := (blk_cell BK518.out 0).trans rfl
              have hcz43_1 : wc.cell? ⟨gb518, 1, none⟩ = some (.int .i64 t517) := (blk_cell BK518.out 1).trans rfl
              have hfz43_0 := blk_frozen BK518.out 0
              have hfz43_1 := blk_frozen BK518.out 1
              go_wp2
              go_ret
              exact ⟨by first | rfl | (simp [errW_none, errW_some] <;> rfl) | (simp [*, errW_none, errW_some] <;> rfl), by repeat (first | (with_reducible first | exact HB.out | apply below_alloc | apply pw_below_drewN | apply below_drew1 | refine below_set ?_ GE512.out | refine below_set ?_ GE518.out | refine below_set ?_ GE522.out) | exact HB.out)⟩
            · rw [if_neg c39] at H
              have c39b0 : (t516 == 0 && (t517 == 0)) = false := by simpa using c39
              (try (have c39b1 : decide (t516 = 0 && (t517 == 0)) = false := by simpa using c39))
              (try (have c39b2 : (t516 == 0 && (t517 == 0)) = false := by simpa using c39))
              (try (have c39b3 : ¬ (t516 = 0 && (t517 == 0)) := by simpa using c39))
              clear c39
              obtain rfl := Option.some.inj H
              obtain ⟨Ao44, co44, eo44⟩ := Kd.R_slice HO_5.out
              subst eo44
              have hnb45 := NB518_512.out
              have hnc45 := NB512_518.out
              have hnb46 := NB518_522.out
              have hnc46 := NB522_518.out
              have hcz47_0 : wc.cell? ⟨gb518, 0, none⟩ = some (.int .u16 t516) := (blk_cell BK518.out 0).trans rfl
              have hcz47_1 : wc.cell? ⟨gb518, 1, none⟩ = some (.int .i64 t517) := (blk_cell BK518.out 1).trans rfl
              have hfz47_0 := blk_frozen BK518.out 0
              have hfz47_1 := blk_frozen BK518.out 1
              go_wp2
              go_ret
              exact ⟨by first | rfl | (simp [errW_none, errW_some] <;> rfl) | (simp [*, errW_none, errW_some] <;> rfl), by repeat (first | (with_reducible first | exact HB.out | apply below_alloc | apply pw_below_drewN | apply below_drew1 | refine below_set ?_ GE512.out | refine below_set ?_ GE518.out | refine below_set ?_ GE522.out) | exact HB.out)⟩
          · rw [if_neg c38] at H
            have c38b0 : ((t513.length : Int) == 0) = false := beq_eq_false_iff_ne.mpr c38
            have c38b1 : ((t513.length : Int) != 0) = true := bne_iff_ne.mpr c38
            have c38b2 : ¬ (t513 = []) := fun h_ => c38 (by rw [h_]; rfl)
            obtain ⟨ji48, hji48⟩ : ∃ j_ : Int, (wrap64 ((t513.length : Int) - 1)) = j_ := ⟨_, rfl⟩
            replace H : (if 0 ≤ (ji48) then (if (ji48) < (t513.length : Int) then (if (t521 != (rdOf false t513 (ji48))) = true then (some false) else ((impl_BitList.f kj6 t516 t517).bind fun t527 => ((laws_wbSame.f kj6 t527 (t513.set ((ji48) : Int).toNat t511)).bind fun t530 => (some t530)))) else (none)) else (none)) = some r := by first | (rw [hji48] at H; exact H) | (simp only [hji48] at H ⊢; exact H)
            have hji48w : (IntKind.i64.wrap ((t513.length : Int) - 1)) = ji48 := (i64_w _).trans hji48
            by_cases c49 : 0 ≤ (ji48)
            · rw [if_pos c49] at H
              have c49b0 : decide (0 ≤ (ji48)) = true := decide_eq_true c49
              clear c49
              by_cases c50 : (ji48) < (t513.length : Int)
              · rw [if_pos c50] at H
                have c50b0 : decide ((ji48) < (t513.length : Int)) = true := decide_eq_true c50
                clear c50
                by_cases c51 : (t521 != (rdOf false t513 (ji48))) = true
                · rw [if_pos c51] at H
                  have c51b0 : (t521 != (rdOf false t513 (ji48))) = true := c51
                  (try (have c51b1 : decide (t521 = (rdOf false t513 (ji48))) = false := by simpa using c51))
                  (try (have c51b2 : (t521 == (rdOf false t513 (ji48))) = false := by simpa using c51))
                  (try (have c51b3 : ¬ (t521 = (rdOf false t513 (ji48))) := by simpa using c51))
                  clear c51
                  obtain rfl := Option.some.inj H
                  obtain ⟨Ao52, co52, eo52⟩ := Kd.R_slice HO_5.out
                  subst eo52
                  have p525 : 0 ≤ ((ji48) : Int) := of_decide_eq_true (by first | (with_reducible assumption) | assumption)
                  have q525 : (ji48) < (t513.length : Int) := of_decide_eq_true (by first | (with_reducible assumption) | assumption)
                  obtain ⟨ad525, e525, hx525_0⟩ := Kd.at_bool (Kd.R_reads' HO_5.out).2.2 (ji48) p525 q525
                  cases e525
                  replace p525 := eq_true p525
                  replace q525 := eq_true q525
                  go_wp2
                  go_ret
                  exact ⟨by first | rfl | (simp [errW_none, errW_some] <;> rfl) | (simp only [← hji48]; first | rfl | (simp [errW_none, errW_some] <;> rfl)) | (simp [*, errW_none, errW_some] <;> rfl), by repeat (first | (with_reducible first | exact HB.out | apply below_alloc | apply pw_below_drewN | apply below_drew1 | refine below_set ?_ GE512.out | refine below_set ?_ GE518.out | refine below_set ?_ GE522.out) | exact HB.out)⟩
                · rw [if_neg c51] at H
                  have c51b0 : (t521 != (rdOf false t513 (ji48))) = false := by simpa using c51
                  (try (have c51b1 : decide (t521 = (rdOf false t513 (ji48))) = true := by simpa using c51))
                  (try (have c51b2 : (t521 == (rdOf false t513 (ji48))) = true := by simpa using c51))
                  clear c51
                  obtain ⟨y526, hy526⟩ : ∃ y_ : List Bool, y_ = (t513.set ((ji48) : Int).toNat t511) := ⟨_, rfl⟩
                  replace H : ((impl_BitList.f kj6 t516 t517).bind fun t527 => ((laws_wbSame.f kj6 t527 y526).bind fun t530 => (some t530))) = some r := by first | (rw [hy526]; with_reducible exact H) | (have H2_ := (Option.bind_some _ _).symm.trans H; rw [hy526]; with_reducible exact H2_) | (have H2_ := (Option.bind_some _ _).symm.trans H; with_reducible exact H2_) | with_reducible exact H | (rw [hy526]; exact H) | exact H
                  have Ny526 := Aside0.mk hy526
                  clear hy526
                  replace H := Option.bind_eq_some_iff.mp H
                  obtain ⟨t527, A540, H⟩ := H
                  replace H : ((laws_wbSame.f kj6 t527 y526).bind fun t530 => (some t530)) = some r := H
                  have A54 := Aside0.mk A540
                  clear A540
                  replace H := Option.bind_eq_some_iff.mp H
                  obtain ⟨t530, A550, H⟩ := H
                  replace H : (some t530) = some r := H
                  have A55 := Aside0.mk A550
                  clear A550
                  obtain rfl := Option.some.inj H
                  obtain ⟨Ao56, co56, eo56⟩ := Kd.R_slice HO_5.out
                  subst eo56
                  have p525 : 0 ≤ ((ji48) : Int) := of_decide_eq_true (by first | (with_reducible assumption) | assumption)
                  have q525 : (ji48) < (t513.length : Int) := of_decide_eq_true (by first | (with_reducible assumption) | assumption)
                  obtain ⟨ad525, e525, hx525_0⟩ := Kd.at_bool (Kd.R_reads' HO_5.out).2.2 (ji48) p525 q525
                  cases e525
                  replace p525 := eq_true p525
                  replace q525 := eq_true q525
                  have p53 : 0 ≤ ((ji48) : Int) := of_decide_eq_true (by first | (with_reducible assumption) | assumption)
                  have q53 : ((ji48) : Int) < ((t513.length : Int) : Int) := of_decide_eq_true (by first | (with_reducible assumption) | assumption)
                  obtain ⟨go53, co53, eo53, gb53, gl53, cl53, HG53⟩ := Kd.R_form HO_5.out (by omega)
                  (first | cases eo53 | (injection eo53 with ea_ en_ ec_; (first | subst ea_ | (injection ea_ with ea_; subst ea_)); subst ec_; clear en_))
                  have GB53 := Aside0.mk gb53
                  have GG53 := Aside0.mk HG53
                  clear gb53 gl53 HG53
                  (first | simp only [add_plain] at hx525_0 | skip)
                  obtain ⟨hx53_0, hf53_0⟩ := Kd.R_celln false HO_5.out ((ji48) : Int) p53 q53
                  replace p53 := eq_true p53
                  replace q53 := eq_true q53
                  have HP57 := Kd.R_putg HO_5.out ((ji48) : Int) t511
                  go_wp2_with (first | ((with_reducible refine gate_store (t := 4) (p := 59) rfl ?_); refine store_event (t := 4) (p := 59) (v := ?vo_w58) (w1 := (wc.setCell ⟨go53, ((ji48) : Int).toNat, none⟩ (.bool t511))) ?hg ?ho ?hn ?hr ?_; (case ho => rfl); (case hg => rfl); (case hn => rfl); (case hr => first | (go_simp; done) | (go_simp; rfl)); intro w58 hw; have hg : wc.grownBy w58 (some go53) := (by rw [hw]; exact HP57.2); have hp_ : Kd.R Kd.bool 4 w58 w.heap.size (fun _ => True) (.slice (some ⟨go53, 0, none⟩) t513.length co56) y526 := (by rw [hw, Ny526.out]; exact HP57.1); clear HP57; have n0_ := Aside0.mk (hp_); have n1_ := Aside0.mk (blk_grown (g := gb512) (o := .cells #[.int .u16 t509, .int .i64 t510] 26 (0, 0)) (by (with_reducible repeat (first | refine blk_drewN ?_ _ | refine blk_drew ?_ | refine blk_alloc ?_ _)); exact BK512.out) hg (Kd.R_ne HO_5.out BK512.out (by decide))); have n2_ := Aside0.mk (blk_grown (g := gb518) (o := .cells #[.int .u16 t516, .int .i64 t517] 26 (0, 0)) (by (with_reducible repeat (first | refine blk_drewN ?_ _ | refine blk_drew ?_ | refine blk_alloc ?_ _)); exact BK518.out) hg (Kd.R_ne HO_5.out BK518.out (by decide))); have n3_ := Aside0.mk (blk_grown (g := gb522) (o := .cells #[.int .u16 t519, .int .i64 t520] 26 (0, 0)) (by (with_reducible repeat (first | refine blk_drewN ?_ _ | refine blk_drew ?_ | refine blk_alloc ?_ _)); exact BK522.out) hg (Kd.R_ne HO_5.out BK522.out (by decide))); have n4_ := Aside0.mk ((by rw [hw]; exact below_set (HB.out) GB53.out : Below w.heap.size w w58)); clear HO_5; clear BK512; clear BK518; clear BK522; clear HB; have HO_5 := n0_; have BK512 := n1_; have BK518 := n2_; have BK522 := n3_; have HB := n4_; clear n0_ n1_ n2_ n3_ n4_; clear hg hw hp_; have hnb59 := NB518_512.out; have hnc59 := NB512_518.out; have hnb60 := NB518_522.out; have hnc60 := NB522_518.out; have hcz61_0 : w58.cell? ⟨gb518, 0, none⟩ = some (.int .u16 t516) := (blk_cell BK518.out 0).trans rfl; have hcz61_1 : w58.cell? ⟨gb518, 1, none⟩ = some (.int .i64 t517) := (blk_cell BK518.out 1).trans rfl; have hfz61_0 := blk_frozen BK518.out 0; have hfz61_1 := blk_frozen BK518.out 1) | ((with_reducible refine gate_callee (f := 31) rfl ?_); refine goesL_ (some 61) rfl rfl Try.func31 (by kernel_rfl) rfl #[.agg #[.int .u16 t516, .int .i64 t517]] rfl (by (try simp only [List.map_toArray, List.map_cons, List.map_nil]); first | done | rfl | (simp only [List.length_drop, List.length_take]; rfl)) ?_; (with_reducible refine (impl_BitList.calls kj6 t516 t517 t527 _ A54.out).mono ?_); rintro e w62 ⟨v528, rfl, ho0, hb⟩; refine ⟨_, rfl, ?_⟩; have n0_ := Aside0.mk (Kd.R_elder' (by (with_reducible repeat (first | apply Kd.R_alloc | apply Kd.R_drewN | apply Kd.R_drew)); exact HO_5.out) (Kd.R_base ho0) hb); have n1_ := Aside0.mk (Kd.R_lower (Kd.R_new' ho0 (Kd.R_lt (by (with_reducible repeat (first | apply Kd.R_alloc | apply Kd.R_drewN | apply Kd.R_drew)); exact HO_5.out))) (below_size (by repeat (first | (with_reducible first | exact HB.out | apply below_alloc | apply pw_below_drewN | apply below_drew1 | refine below_set ?_ GE512.out | refine below_set ?_ GE518.out | refine below_set ?_ GE522.out) | exact HB.out)))); have n2_ := Aside0.mk (blk_below (g := gb512) (o := .cells #[.int .u16 t509, .int .i64 t510] 26 (0, 0)) (by (with_reducible repeat (first | refine blk_drewN ?_ _ | refine blk_drew ?_ | refine blk_alloc ?_ _)); exact BK512.out) hb); have n3_ := Aside0.mk (blk_below (g := gb518) (o := .cells #[.int .u16 t516, .int .i64 t517] 26 (0, 0)) (by (with_reducible repeat (first | refine blk_drewN ?_ _ | refine blk_drew ?_ | refine blk_alloc ?_ _)); exact BK518.out) hb); have n4_ := Aside0.mk (blk_below (g := gb522) (o := .cells #[.int .u16 t519, .int .i64 t520] 26 (0, 0)) (by (with_reducible repeat (first | refine blk_drewN ?_ _ | refine blk_drew ?_ | refine blk_alloc ?_ _)); exact BK522.out) hb); have n5_ := Aside0.mk (below_step (by repeat (first | (with_reducible first | exact HB.out | apply below_alloc | apply pw_below_drewN | apply below_drew1 | refine below_set ?_ GE512.out | refine below_set ?_ GE518.out | refine below_set ?_ GE522.out) | exact HB.out)) hb); clear HO_5; clear BK512; clear BK518; clear BK522; clear HB; have HO_5 := n0_; have HO529 := n1_; have BK512 := n2_; have BK518 := n3_; have BK522 := n4_; have HB := n5_; clear n0_ n1_ n2_ n3_ n4_ n5_; (try clear hb); (try clear hb2); (try clear hk); (try clear hi); (try clear ho0); obtain ⟨Ao63, co63, eo63⟩ := Kd.R_slice HO529.out; subst eo63) | ((with_reducible refine gate_callee (f := 30) rfl ?_); refine goesL_ (some 63) rfl rfl Try.func30 (by kernel_rfl) rfl #[.slice Ao63 t527.length co63, .slice (some ⟨go53, 0, none⟩) y526.length co56] rfl (by (try simp only [List.map_toArray, List.map_cons, List.map_nil]); first | done | (rw [show y526.length = t513.length from (Kd.R_reads' HO_5.out).1.symm] <;> rfl) | rfl | (simp only [List.length_drop, List.length_take]; rfl)) ?_; (with_reducible refine (laws_wbSame.calls kj6 _ _ t527 _ _ y526 t530 _ ?side1 ?side2 ?side3 ?side4 A55.out).mono ?_); (case side1 => repeat (first | exact (Kd.R_reads' HO529.out).2.2 | (with_reducible refine Kd.C_alloc ?_ _) | (with_reducible refine Kd.C_drewN ?_ _) | (with_reducible refine Kd.C_drew ?_))); (case side2 => exact (Kd.R_reads' HO529.out).2.1); (case side3 => repeat (first | exact (Kd.R_reads' HO_5.out).2.2 | (with_reducible refine Kd.C_alloc ?_ _) | (with_reducible refine Kd.C_drewN ?_ _) | (with_reducible refine Kd.C_drew ?_))); (case side4 => rw [show y526.length = t513.length from (Kd.R_reads' HO_5.out).1.symm]; exact (Kd.R_reads' HO_5.out).2.1); rintro e w' ⟨rfl, ⟨nd, rfl⟩⟩; refine ⟨_, rfl, ?_⟩))
                  go_ret
                  exact ⟨by first | rfl | (simp [errW_none, errW_some] <;> rfl) | (simp only [← hji48]; first | rfl | (simp [errW_none, errW_some] <;> rfl)) | (simp [*, errW_none, errW_some] <;> rfl), by repeat (first | (with_reducible first | exact HB.out | apply below_alloc | apply pw_below_drewN | apply below_drew1 | refine below_set ?_ GE512.out | refine below_set ?_ GE518.out | refine below_set ?_ GE522.out) | exact HB.out)⟩
              · rw [if_neg c50] at H
                exact absurd H (by simp)
            · rw [if_neg c49] at H
              exact absurd H (by simp)

/-- THE ONE PURE STATEMENT of laws_FnBitTurn: yours. -/
def laws_FnBitTurn.Pure : Prop := ∀ (l0 : List Int), l0.length ≤ maxLen → l0.length * 1 ≤ 140737488351232 → (∀ x ∈ l0, (Lit.int .u8 x).wf = true) → ∃ k, laws_FnBitTurn.f k l0 = some true
theorem laws_FnBitTurn.walk (P : laws_FnBitTurn.Pure) (a0 : Option Addr) (len0 cap0 : Nat) (z0 : List Int) (w : World) (w0 : (a0 = none ∧ len0 = 0 ∧ cap0 = 0 ∧ z0 = []) ∨ ∃ x, a0 = some x ∧ len0 ≤ cap0 ∧ cap0 ≤ maxLen ∧ z0.length = cap0 ∧ (∀ i, i < z0.length → w.cell? (x.add i) = some (.int .u8 (z0.getD i 0))) ∧ ∀ n ∈ z0, (Lit.int .u8 n).wf = true) (y0 : len0 * 1 ≤ 140737488351232) :
    Calls Try.prog 15 #[.slice a0 len0 cap0] w fun e w' => e = .returned (.bool true) ∧ Below w.heap.size w w' := by
  obtain ⟨l0, rfl, hr0, hm0, hw0, hc0⟩ := ReadsInt.ofRowC w0
  obtain ⟨k, h⟩ := P l0 hm0 y0 hw0
  refine (laws_FnBitTurn.calls k _ _ l0 true w (Kd.C_of_reads (d := (0 : Int)) (h1 := fun _ => rfl) hr0) hc0 h).mono ?_
  rintro e w' ⟨rfl, hd⟩
  exact ⟨rfl, hd⟩

end Go.Proofs.Ytpjkpmgelmjlnaa.F
