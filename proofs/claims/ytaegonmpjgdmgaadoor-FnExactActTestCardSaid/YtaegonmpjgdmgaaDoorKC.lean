/- Walks over the ladders' memory: what the functions of this seat answer. -/
import Derived.Test.YtaegonmpjgdmgaaDoorProg
import Derived.Test.YtaegonmpjgdmgaaDoorMW
import Derived.WalkKit
import Derived.Deep.LoopGhost
import Derived.Deep.DeepCutAuto
import Derived.BigFrame
import Derived.Deep.QuietTactic
import Derived.BigQuiet
import Derived.Test.YtaegonmpjgdmgaaDoorKA
import Derived.Test.YtaegonmpjgdmgaaDoorFL
import Derived.WalkLawsBesides
namespace Go.Proofs.YtaegonmpjgdmgaaDoor.K
open Go Go.RowKit Go.Proofs.YtaegonmpjgdmgaaDoorW Go.Proofs.YtaegonmpjgdmgaaDoorW.PrintWords Go.Proofs.YtaegonmpjgdmgaaDoor.MW
set_option linter.unusedVariables false
set_option linter.unusedSimpArgs false
set_option maxRecDepth 100000

set_option maxHeartbeats 4000000 in
set_option maxRecDepth 100000 in
theorem c_eqMemTimer (x : Bool) (y : Int) (w : World) : Calls Tryd.prog 63 #[.agg #[.bool x, .int .u16 y], .agg #[.bool x, .int .u16 y]] w (Ret w (· = .bool true)) := by
 have HS := Aside0.mk (Priv.nil w)
 go_enter Tryd.func63, Tryd.ntmps63
 go_wp2_with ((first
   | ((with_reducible refine gate_dst (N := 2) rfl ?_); (with_reducible refine box_new HS.out rfl rfl (by first | exact eval_tmp rfl | exact eval_const) ?_); intro g2 W2_ HP; clear HS; have HS := Aside0.mk HP; clear HP)
   | ((with_reducible refine gate_dst (N := 3) rfl ?_); (with_reducible refine box_new HS.out rfl rfl (by first | exact eval_tmp rfl | exact eval_const) ?_); intro g3 W3_ HP; clear HS; have HS := Aside0.mk HP; clear HP)
   | ((with_reducible refine gate_dst (N := 5) rfl ?_); (with_reducible refine field_at rfl rfl rfl fo41_0 ?_); (try simp only [toNat_16, toNat_12, Int.toNat_natCast, Nat.zero_add, Nat.add_zero, Nat.mul_one]))
   | ((with_reducible refine gate_dst (N := 6) rfl ?_); (with_reducible refine load_one HS.out rfl rfl on4 rfl (by first | exact at0 | exact at1 | exact at2 | exact at3 | exact at4 | exact at5 | exact at6) (by with_reducible first | exact dc_get _ _ (by omega) | exact rc_get _ _ (by omega) | exact at0a | exact at1a | exact at2a | exact at3a) ?_))
   | ((with_reducible refine gate_dst (N := 7) rfl ?_); (with_reducible refine field_at rfl rfl rfl fo41_0 ?_); (try simp only [toNat_16, toNat_12, Int.toNat_natCast, Nat.zero_add, Nat.add_zero, Nat.mul_one]))
   | ((with_reducible refine gate_dst (N := 8) rfl ?_); (with_reducible refine load_one HS.out rfl rfl on4 rfl (by first | exact at0 | exact at1 | exact at2 | exact at3 | exact at4 | exact at5 | exact at6) (by with_reducible first | exact dc_get _ _ (by omega) | exact rc_get _ _ (by omega) | exact at0a | exact at1a | exact at2a | exact at3a) ?_))
   | ((with_reducible refine gate_dst (N := 10) rfl ?_); (with_reducible refine field_at rfl rfl rfl fo41_1 ?_); (try simp only [toNat_16, toNat_12, Int.toNat_natCast, Nat.zero_add, Nat.add_zero, Nat.mul_one]))
   | ((with_reducible refine gate_dst (N := 11) rfl ?_); (with_reducible refine load_one HS.out rfl rfl on24 rfl (by first | exact at0 | exact at1 | exact at2 | exact at3 | exact at4 | exact at5 | exact at6) (by with_reducible first | exact dc_get _ _ (by omega) | exact rc_get _ _ (by omega) | exact at0a | exact at1a | exact at2a | exact at3a) ?_))
   | ((with_reducible refine gate_dst (N := 12) rfl ?_); (with_reducible refine field_at rfl rfl rfl fo41_1 ?_); (try simp only [toNat_16, toNat_12, Int.toNat_natCast, Nat.zero_add, Nat.add_zero, Nat.mul_one]))
   | ((with_reducible refine gate_dst (N := 13) rfl ?_); (with_reducible refine load_one HS.out rfl rfl on24 rfl (by first | exact at0 | exact at1 | exact at2 | exact at3 | exact at4 | exact at5 | exact at6) (by with_reducible first | exact dc_get _ _ (by omega) | exact rc_get _ _ (by omega) | exact at0a | exact at1a | exact at2a | exact at3a) ?_))); (try simp only [Act.put, List.setIfInBounds_toArray, List.set_cons_zero, List.set_cons_succ]))
 go_ret
 exact ⟨_, rfl, rfl, HS.out.below⟩

set_option maxHeartbeats 4000000 in
set_option maxRecDepth 100000 in
theorem c_eqMemCounter (x y : Bool) (z : Int) (w : World) : Calls Tryd.prog 64 #[.agg #[.bool x, .bool y, .int .u16 z], .agg #[.bool x, .bool y, .int .u16 z]] w (Ret w (· = .bool true)) := by
 have HS := Aside0.mk (Priv.nil w)
 go_enter Tryd.func64, Tryd.ntmps64
 go_wp2_with ((first
   | ((with_reducible refine gate_dst (N := 2) rfl ?_); (with_reducible refine box_new HS.out rfl rfl (by first | exact eval_tmp rfl | exact eval_const) ?_); intro g2 W2_ HP; clear HS; have HS := Aside0.mk HP; clear HP)
   | ((with_reducible refine gate_dst (N := 3) rfl ?_); (with_reducible refine box_new HS.out rfl rfl (by first | exact eval_tmp rfl | exact eval_const) ?_); intro g3 W3_ HP; clear HS; have HS := Aside0.mk HP; clear HP)
   | ((with_reducible refine gate_dst (N := 5) rfl ?_); (with_reducible refine field_at rfl rfl rfl fo43_0 ?_); (try simp only [toNat_16, toNat_12, Int.toNat_natCast, Nat.zero_add, Nat.add_zero, Nat.mul_one]))
   | ((with_reducible refine gate_dst (N := 6) rfl ?_); (with_reducible refine load_one HS.out rfl rfl on4 rfl (by first | exact at0 | exact at1 | exact at2 | exact at3 | exact at4 | exact at5 | exact at6) (by with_reducible first | exact dc_get _ _ (by omega) | exact rc_get _ _ (by omega) | exact at0a | exact at1a | exact at2a | exact at3a) ?_))
   | ((with_reducible refine gate_dst (N := 7) rfl ?_); (with_reducible refine field_at rfl rfl rfl fo43_0 ?_); (try simp only [toNat_16, toNat_12, Int.toNat_natCast, Nat.zero_add, Nat.add_zero, Nat.mul_one]))
   | ((with_reducible refine gate_dst (N := 8) rfl ?_); (with_reducible refine load_one HS.out rfl rfl on4 rfl (by first | exact at0 | exact at1 | exact at2 | exact at3 | exact at4 | exact at5 | exact at6) (by with_reducible first | exact dc_get _ _ (by omega) | exact rc_get _ _ (by omega) | exact at0a | exact at1a | exact at2a | exact at3a) ?_))
   | ((with_reducible refine gate_dst (N := 10) rfl ?_); (with_reducible refine field_at rfl rfl rfl fo43_1 ?_); (try simp only [toNat_16, toNat_12, Int.toNat_natCast, Nat.zero_add, Nat.add_zero, Nat.mul_one]))
   | ((with_reducible refine gate_dst (N := 11) rfl ?_); (with_reducible refine load_one HS.out rfl rfl on4 rfl (by first | exact at0 | exact at1 | exact at2 | exact at3 | exact at4 | exact at5 | exact at6) (by with_reducible first | exact dc_get _ _ (by omega) | exact rc_get _ _ (by omega) | exact at0a | exact at1a | exact at2a | exact at3a) ?_))
   | ((with_reducible refine gate_dst (N := 12) rfl ?_); (with_reducible refine field_at rfl rfl rfl fo43_1 ?_); (try simp only [toNat_16, toNat_12, Int.toNat_natCast, Nat.zero_add, Nat.add_zero, Nat.mul_one]))
   | ((with_reducible refine gate_dst (N := 13) rfl ?_); (with_reducible refine load_one HS.out rfl rfl on4 rfl (by first | exact at0 | exact at1 | exact at2 | exact at3 | exact at4 | exact at5 | exact at6) (by with_reducible first | exact dc_get _ _ (by omega) | exact rc_get _ _ (by omega) | exact at0a | exact at1a | exact at2a | exact at3a) ?_))
   | ((with_reducible refine gate_dst (N := 15) rfl ?_); (with_reducible refine field_at rfl rfl rfl fo43_2 ?_); (try simp only [toNat_16, toNat_12, Int.toNat_natCast, Nat.zero_add, Nat.add_zero, Nat.mul_one]))
   | ((with_reducible refine gate_dst (N := 16) rfl ?_); (with_reducible refine load_one HS.out rfl rfl on24 rfl (by first | exact at0 | exact at1 | exact at2 | exact at3 | exact at4 | exact at5 | exact at6) (by with_reducible first | exact dc_get _ _ (by omega) | exact rc_get _ _ (by omega) | exact at0a | exact at1a | exact at2a | exact at3a) ?_))
   | ((with_reducible refine gate_dst (N := 17) rfl ?_); (with_reducible refine field_at rfl rfl rfl fo43_2 ?_); (try simp only [toNat_16, toNat_12, Int.toNat_natCast, Nat.zero_add, Nat.add_zero, Nat.mul_one]))
   | ((with_reducible refine gate_dst (N := 18) rfl ?_); (with_reducible refine load_one HS.out rfl rfl on24 rfl (by first | exact at0 | exact at1 | exact at2 | exact at3 | exact at4 | exact at5 | exact at6) (by with_reducible first | exact dc_get _ _ (by omega) | exact rc_get _ _ (by omega) | exact at0a | exact at1a | exact at2a | exact at3a) ?_))); (try simp only [Act.put, List.setIfInBounds_toArray, List.set_cons_zero, List.set_cons_succ]))
 go_ret
 exact ⟨_, rfl, rfl, HS.out.below⟩

set_option maxHeartbeats 4000000 in
set_option maxRecDepth 100000 in
theorem c_sameFloat (x y : Nat) (h : fsame x y) (w : World) : Calls Tryd.prog 65 #[.float .f64 x, .float .f64 y] w (Ret w (· = .bool true)) := by
 rcases h with rfl | ⟨h1, h2⟩
 ·rcases order_self x with h | h
  ·have hn : (FloatKind.f64.format.order x x != some .eq) = true := by rw [h]; rfl
   clear h
   go_enter Tryd.func65, Tryd.ntmps65
   go_wp2
   go_ret
   exact ⟨_, rfl, rfl, Below.refl _ _⟩
  ·have hn : (FloatKind.f64.format.order x x != some .eq) = false := by rw [h]; rfl
   have hn2 : (FloatKind.f64.format.order x x == some .eq) = true := by rw [h]; rfl
   clear h
   by_cases h0 : FloatKind.f64.format.order x 0 = some .eq
   ·obtain ⟨r, hr⟩ := quo_zero h0
    have hz : (FloatKind.f64.format.order x 0 == some .eq) = true := by rw [h0]; rfl
    have hq := fun (w : World) => run_float_arith (P := Tryd.prog) w .quo 33 .f64 _ x r hr
    clear h0 hr
    go_enter Tryd.func65, Tryd.ntmps65
    go_wp2
    go_ret
    exact ⟨_, rfl, by simp, Below.refl _ _⟩
   ·have hz : (FloatKind.f64.format.order x 0 == some .eq) = false := beq_eq_false_iff_ne.mpr h0
    clear h0
    go_enter Tryd.func65, Tryd.ntmps65
    go_wp2
    go_ret
    exact ⟨_, rfl, by simp [hn2], Below.refl _ _⟩
 ·have hx : (FloatKind.f64.format.order x x != some .eq) = true := by rw [h1]; rfl
  have hy : (FloatKind.f64.format.order y y != some .eq) = true := by rw [h2]; rfl
  clear h1 h2
  go_enter Tryd.func65, Tryd.ntmps65
  go_wp2
  go_ret
  exact ⟨_, rfl, rfl, Below.refl _ _⟩

set_option maxHeartbeats 4000000 in
set_option maxRecDepth 100000 in
theorem c_eqMemTimerA16 (T : Nat → Bool × Int) (w : World) : Calls Tryd.prog 37 #[.agg (tc T), .agg (tc T)] w (Ret w (· = .bool true)) := by
 have HS := Aside0.mk (Priv.nil w)
 skip
 go_enter Tryd.func37, Tryd.ntmps37
 go_wp2_with ((first
   | ((with_reducible refine gate_region (id := 4) ?_); refine region_tail HS.out 6 (by kernel_rfl) (by kernel_rfl) ?_; intro W_ HP HB_; clear HS; have HS := Aside0.mk HP; clear HP; clear HB_; simp only [List.take_succ_cons, List.take_zero, List.drop_succ_cons, List.drop_zero]; (repeat (first
     | ((with_reducible refine st_gate (N := 11) rfl ?_); (with_reducible refine st_index_at rfl rfl rfl rfl ar42 (by omega) (by omega) ?_); (try simp only [toNat_16, toNat_12, Int.toNat_natCast, Nat.zero_add, Nat.add_zero, Nat.mul_one]))
     | ((with_reducible refine st_gate (N := 12) rfl ?_); (with_reducible refine st_load_seg HS.out rfl rfl ag41 rfl (by first | exact at0 | exact at1 | exact at2 | exact at3 | exact at4 | exact at5 | exact at6) (by with_reducible first | exact get_T _ | exact get_C _ | exact get_D _ | exact get_R _ | exact el_T _ _ (by omega) | exact el_C _ _ (by omega) | exact tc_el _ _ (by omega) | exact cc_el _ _ (by omega) | exact whole _) (by with_reducible first | exact mc_size _ | exact tc_size _ | exact cc_size _ | exact dc_size _ | exact rc_size _ | exact sz1 | exact sz2 | exact sz3 | exact sz4) ?_))
     | ((with_reducible refine st_gate (N := 14) rfl ?_); (with_reducible refine st_index_at rfl rfl rfl rfl ar42 (by omega) (by omega) ?_); (try simp only [toNat_16, toNat_12, Int.toNat_natCast, Nat.zero_add, Nat.add_zero, Nat.mul_one]))
     | ((with_reducible refine st_gate (N := 15) rfl ?_); (with_reducible refine st_load_seg HS.out rfl rfl ag41 rfl (by first | exact at0 | exact at1 | exact at2 | exact at3 | exact at4 | exact at5 | exact at6) (by with_reducible first | exact get_T _ | exact get_C _ | exact get_D _ | exact get_R _ | exact el_T _ _ (by omega) | exact el_C _ _ (by omega) | exact tc_el _ _ (by omega) | exact cc_el _ _ (by omega) | exact whole _) (by with_reducible first | exact mc_size _ | exact tc_size _ | exact cc_size _ | exact dc_size _ | exact rc_size _ | exact sz1 | exact sz2 | exact sz3 | exact sz4) ?_))
     | still_step)); refine wpStill_nil ?_)
   | ((with_reducible refine gate_dst (N := 2) rfl ?_); (with_reducible refine box_new HS.out rfl rfl (by first | exact eval_tmp rfl | exact eval_const) ?_); intro g2 W2_ HP; clear HS; have HS := Aside0.mk HP; clear HP)
   | ((with_reducible refine gate_dst (N := 3) rfl ?_); (with_reducible refine box_new HS.out rfl rfl (by first | exact eval_tmp rfl | exact eval_const) ?_); intro g3 W3_ HP; clear HS; have HS := Aside0.mk HP; clear HP)
   | ((with_reducible refine gate_dst (N := 11) rfl ?_); (with_reducible refine index_at rfl rfl rfl rfl ar42 (by omega) (by omega) ?_); (try simp only [toNat_16, toNat_12, Int.toNat_natCast, Nat.zero_add, Nat.add_zero, Nat.mul_one]))
   | ((with_reducible refine gate_dst (N := 12) rfl ?_); (with_reducible refine load_seg HS.out rfl rfl ag41 rfl (by first | exact at0 | exact at1 | exact at2 | exact at3 | exact at4 | exact at5 | exact at6) (by with_reducible first | exact tc_el _ _ (by omega) | exact cc_el _ _ (by omega) | exact whole _) (by with_reducible first | exact mc_size _ | exact tc_size _ | exact cc_size _ | exact dc_size _ | exact rc_size _ | exact sz1 | exact sz2 | exact sz3 | exact sz4) ?_))
   | ((with_reducible refine gate_dst (N := 14) rfl ?_); (with_reducible refine index_at rfl rfl rfl rfl ar42 (by omega) (by omega) ?_); (try simp only [toNat_16, toNat_12, Int.toNat_natCast, Nat.zero_add, Nat.add_zero, Nat.mul_one]))
   | ((with_reducible refine gate_dst (N := 15) rfl ?_); (with_reducible refine load_seg HS.out rfl rfl ag41 rfl (by first | exact at0 | exact at1 | exact at2 | exact at3 | exact at4 | exact at5 | exact at6) (by with_reducible first | exact tc_el _ _ (by omega) | exact cc_el _ _ (by omega) | exact whole _) (by with_reducible first | exact mc_size _ | exact tc_size _ | exact cc_size _ | exact dc_size _ | exact rc_size _ | exact sz1 | exact sz2 | exact sz3 | exact sz4) ?_))); (try simp only [Act.put, List.setIfInBounds_toArray, List.set_cons_zero, List.set_cons_succ]))
 go_loopw [5] (fun v5 W => ∃ (k : Nat), v5 = .int .i64 k ∧ k ≤ 16 ∧ Aside0 (Priv w W [(g3, tc T), (g2, tc T)])) (fun v5 _ => 16 - (intOf v5).toNat)
 case atStart => exact ⟨0, rfl, by omega, HS⟩
 case round =>
  clear HS
  obtain ⟨k, rfl, hk, HS⟩ := hrel
  by_cases hlt : k < 16
  ·go_wp2_with ((first
   | ((with_reducible refine gate_region (id := 4) ?_); refine region_tail HS.out 6 (by kernel_rfl) (by kernel_rfl) ?_; intro W_ HP HB_; clear HS; have HS := Aside0.mk HP; clear HP; clear HB_; simp only [List.take_succ_cons, List.take_zero, List.drop_succ_cons, List.drop_zero]; (repeat (first
     | ((with_reducible refine st_gate (N := 11) rfl ?_); (with_reducible refine st_index_at rfl rfl rfl rfl ar42 (Int.natCast_nonneg _) (by omega) ?_); (try simp only [toNat_16, toNat_12, Int.toNat_natCast, Nat.zero_add, Nat.add_zero, Nat.mul_one]))
     | ((with_reducible refine st_gate (N := 12) rfl ?_); (with_reducible refine st_load_seg HS.out rfl rfl ag41 rfl (by first | exact at0 | exact at1 | exact at2 | exact at3 | exact at4 | exact at5 | exact at6) (by with_reducible first | exact get_T _ | exact get_C _ | exact get_D _ | exact get_R _ | exact el_T _ _ (by omega) | exact el_C _ _ (by omega) | exact tc_el _ _ (by omega) | exact cc_el _ _ (by omega) | exact whole _) (by with_reducible first | exact mc_size _ | exact tc_size _ | exact cc_size _ | exact dc_size _ | exact rc_size _ | exact sz1 | exact sz2 | exact sz3 | exact sz4) ?_))
     | ((with_reducible refine st_gate (N := 14) rfl ?_); (with_reducible refine st_index_at rfl rfl rfl rfl ar42 (Int.natCast_nonneg _) (by omega) ?_); (try simp only [toNat_16, toNat_12, Int.toNat_natCast, Nat.zero_add, Nat.add_zero, Nat.mul_one]))
     | ((with_reducible refine st_gate (N := 15) rfl ?_); (with_reducible refine st_load_seg HS.out rfl rfl ag41 rfl (by first | exact at0 | exact at1 | exact at2 | exact at3 | exact at4 | exact at5 | exact at6) (by with_reducible first | exact get_T _ | exact get_C _ | exact get_D _ | exact get_R _ | exact el_T _ _ (by omega) | exact el_C _ _ (by omega) | exact tc_el _ _ (by omega) | exact cc_el _ _ (by omega) | exact whole _) (by with_reducible first | exact mc_size _ | exact tc_size _ | exact cc_size _ | exact dc_size _ | exact rc_size _ | exact sz1 | exact sz2 | exact sz3 | exact sz4) ?_))
     | still_step)); refine wpStill_nil ?_)
   | ((with_reducible refine gate_dst (N := 2) rfl ?_); (with_reducible refine box_new HS.out rfl rfl (by first | exact eval_tmp rfl | exact eval_const) ?_); intro g2 W2_ HP; clear HS; have HS := Aside0.mk HP; clear HP)
   | ((with_reducible refine gate_dst (N := 3) rfl ?_); (with_reducible refine box_new HS.out rfl rfl (by first | exact eval_tmp rfl | exact eval_const) ?_); intro g3 W3_ HP; clear HS; have HS := Aside0.mk HP; clear HP)
   | ((with_reducible refine gate_dst (N := 11) rfl ?_); (with_reducible refine index_at rfl rfl rfl rfl ar42 (Int.natCast_nonneg _) (by omega) ?_); (try simp only [toNat_16, toNat_12, Int.toNat_natCast, Nat.zero_add, Nat.add_zero, Nat.mul_one]))
   | ((with_reducible refine gate_dst (N := 12) rfl ?_); (with_reducible refine load_seg HS.out rfl rfl ag41 rfl (by first | exact at0 | exact at1 | exact at2 | exact at3 | exact at4 | exact at5 | exact at6) (by with_reducible first | exact tc_el _ _ (by omega) | exact cc_el _ _ (by omega) | exact whole _) (by with_reducible first | exact mc_size _ | exact tc_size _ | exact cc_size _ | exact dc_size _ | exact rc_size _ | exact sz1 | exact sz2 | exact sz3 | exact sz4) ?_))
   | ((with_reducible refine gate_dst (N := 14) rfl ?_); (with_reducible refine index_at rfl rfl rfl rfl ar42 (Int.natCast_nonneg _) (by omega) ?_); (try simp only [toNat_16, toNat_12, Int.toNat_natCast, Nat.zero_add, Nat.add_zero, Nat.mul_one]))
   | ((with_reducible refine gate_dst (N := 15) rfl ?_); (with_reducible refine load_seg HS.out rfl rfl ag41 rfl (by first | exact at0 | exact at1 | exact at2 | exact at3 | exact at4 | exact at5 | exact at6) (by with_reducible first | exact tc_el _ _ (by omega) | exact cc_el _ _ (by omega) | exact whole _) (by with_reducible first | exact mc_size _ | exact tc_size _ | exact cc_size _ | exact dc_size _ | exact rc_size _ | exact sz1 | exact sz2 | exact sz3 | exact sz4) ?_))
   | ((with_reducible refine gate_dst (N := 16) rfl ?_); refine call_ev HS.out rfl rfl Tryd.func63 (by kernel_rfl) rfl (c_eqMemTimer _ _ _) (by (try simp only [List.map_toArray, List.map_cons, List.map_nil]); first | done | rfl) ?_; rintro v_ W_ rfl HP HB_; clear HS; have HS := Aside0.mk HP; clear HP; clear HB_)); (try simp only [Act.put, List.setIfInBounds_toArray, List.set_cons_zero, List.set_cons_succ]))
   go_roundw
   case rel => exact ⟨k + 1, by go_num, by omega, HS⟩
   case measure => simp [intOf]; omega
  ·go_wp2_with ((first
   | ((with_reducible refine gate_region (id := 4) ?_); refine region_tail HS.out 6 (by kernel_rfl) (by kernel_rfl) ?_; intro W_ HP HB_; clear HS; have HS := Aside0.mk HP; clear HP; clear HB_; simp only [List.take_succ_cons, List.take_zero, List.drop_succ_cons, List.drop_zero]; (repeat (first
     | ((with_reducible refine st_gate (N := 11) rfl ?_); (with_reducible refine st_index_at rfl rfl rfl rfl ar42 (by omega) (by omega) ?_); (try simp only [toNat_16, toNat_12, Int.toNat_natCast, Nat.zero_add, Nat.add_zero, Nat.mul_one]))
     | ((with_reducible refine st_gate (N := 12) rfl ?_); (with_reducible refine st_load_seg HS.out rfl rfl ag41 rfl (by first | exact at0 | exact at1 | exact at2 | exact at3 | exact at4 | exact at5 | exact at6) (by with_reducible first | exact get_T _ | exact get_C _ | exact get_D _ | exact get_R _ | exact el_T _ _ (by omega) | exact el_C _ _ (by omega) | exact tc_el _ _ (by omega) | exact cc_el _ _ (by omega) | exact whole _) (by with_reducible first | exact mc_size _ | exact tc_size _ | exact cc_size _ | exact dc_size _ | exact rc_size _ | exact sz1 | exact sz2 | exact sz3 | exact sz4) ?_))
     | ((with_reducible refine st_gate (N := 14) rfl ?_); (with_reducible refine st_index_at rfl rfl rfl rfl ar42 (by omega) (by omega) ?_); (try simp only [toNat_16, toNat_12, Int.toNat_natCast, Nat.zero_add, Nat.add_zero, Nat.mul_one]))
     | ((with_reducible refine st_gate (N := 15) rfl ?_); (with_reducible refine st_load_seg HS.out rfl rfl ag41 rfl (by first | exact at0 | exact at1 | exact at2 | exact at3 | exact at4 | exact at5 | exact at6) (by with_reducible first | exact get_T _ | exact get_C _ | exact get_D _ | exact get_R _ | exact el_T _ _ (by omega) | exact el_C _ _ (by omega) | exact tc_el _ _ (by omega) | exact cc_el _ _ (by omega) | exact whole _) (by with_reducible first | exact mc_size _ | exact tc_size _ | exact cc_size _ | exact dc_size _ | exact rc_size _ | exact sz1 | exact sz2 | exact sz3 | exact sz4) ?_))
     | still_step)); refine wpStill_nil ?_)
   | ((with_reducible refine gate_dst (N := 2) rfl ?_); (with_reducible refine box_new HS.out rfl rfl (by first | exact eval_tmp rfl | exact eval_const) ?_); intro g2 W2_ HP; clear HS; have HS := Aside0.mk HP; clear HP)
   | ((with_reducible refine gate_dst (N := 3) rfl ?_); (with_reducible refine box_new HS.out rfl rfl (by first | exact eval_tmp rfl | exact eval_const) ?_); intro g3 W3_ HP; clear HS; have HS := Aside0.mk HP; clear HP)
   | ((with_reducible refine gate_dst (N := 11) rfl ?_); (with_reducible refine index_at rfl rfl rfl rfl ar42 (by omega) (by omega) ?_); (try simp only [toNat_16, toNat_12, Int.toNat_natCast, Nat.zero_add, Nat.add_zero, Nat.mul_one]))
   | ((with_reducible refine gate_dst (N := 12) rfl ?_); (with_reducible refine load_seg HS.out rfl rfl ag41 rfl (by first | exact at0 | exact at1 | exact at2 | exact at3 | exact at4 | exact at5 | exact at6) (by with_reducible first | exact tc_el _ _ (by omega) | exact cc_el _ _ (by omega) | exact whole _) (by with_reducible first | exact mc_size _ | exact tc_size _ | exact cc_size _ | exact dc_size _ | exact rc_size _ | exact sz1 | exact sz2 | exact sz3 | exact sz4) ?_))
   | ((with_reducible refine gate_dst (N := 14) rfl ?_); (with_reducible refine index_at rfl rfl rfl rfl ar42 (by omega) (by omega) ?_); (try simp only [toNat_16, toNat_12, Int.toNat_natCast, Nat.zero_add, Nat.add_zero, Nat.mul_one]))
   | ((with_reducible refine gate_dst (N := 15) rfl ?_); (with_reducible refine load_seg HS.out rfl rfl ag41 rfl (by first | exact at0 | exact at1 | exact at2 | exact at3 | exact at4 | exact at5 | exact at6) (by with_reducible first | exact tc_el _ _ (by omega) | exact cc_el _ _ (by omega) | exact whole _) (by with_reducible first | exact mc_size _ | exact tc_size _ | exact cc_size _ | exact dc_size _ | exact rc_size _ | exact sz1 | exact sz2 | exact sz3 | exact sz4) ?_))); (try simp only [Act.put, List.setIfInBounds_toArray, List.set_cons_zero, List.set_cons_succ]))
   go_ret
   exact ⟨_, rfl, rfl, HS.out.below⟩

set_option maxHeartbeats 4000000 in
set_option maxRecDepth 100000 in
theorem c_eqMemCounterA16 (T : Nat → Bool × Bool × Int) (w : World) : Calls Tryd.prog 38 #[.agg (cc T), .agg (cc T)] w (Ret w (· = .bool true)) := by
 have HS := Aside0.mk (Priv.nil w)
 skip
 go_enter Tryd.func38, Tryd.ntmps38
 go_wp2_with ((first
   | ((with_reducible refine gate_region (id := 4) ?_); refine region_tail HS.out 6 (by kernel_rfl) (by kernel_rfl) ?_; intro W_ HP HB_; clear HS; have HS := Aside0.mk HP; clear HP; clear HB_; simp only [List.take_succ_cons, List.take_zero, List.drop_succ_cons, List.drop_zero]; (repeat (first
     | ((with_reducible refine st_gate (N := 11) rfl ?_); (with_reducible refine st_index_at rfl rfl rfl rfl ar44 (by omega) (by omega) ?_); (try simp only [toNat_16, toNat_12, Int.toNat_natCast, Nat.zero_add, Nat.add_zero, Nat.mul_one]))
     | ((with_reducible refine st_gate (N := 12) rfl ?_); (with_reducible refine st_load_seg HS.out rfl rfl ag43 rfl (by first | exact at0 | exact at1 | exact at2 | exact at3 | exact at4 | exact at5 | exact at6) (by with_reducible first | exact get_T _ | exact get_C _ | exact get_D _ | exact get_R _ | exact el_T _ _ (by omega) | exact el_C _ _ (by omega) | exact tc_el _ _ (by omega) | exact cc_el _ _ (by omega) | exact whole _) (by with_reducible first | exact mc_size _ | exact tc_size _ | exact cc_size _ | exact dc_size _ | exact rc_size _ | exact sz1 | exact sz2 | exact sz3 | exact sz4) ?_))
     | ((with_reducible refine st_gate (N := 14) rfl ?_); (with_reducible refine st_index_at rfl rfl rfl rfl ar44 (by omega) (by omega) ?_); (try simp only [toNat_16, toNat_12, Int.toNat_natCast, Nat.zero_add, Nat.add_zero, Nat.mul_one]))
     | ((with_reducible refine st_gate (N := 15) rfl ?_); (with_reducible refine st_load_seg HS.out rfl rfl ag43 rfl (by first | exact at0 | exact at1 | exact at2 | exact at3 | exact at4 | exact at5 | exact at6) (by with_reducible first | exact get_T _ | exact get_C _ | exact get_D _ | exact get_R _ | exact el_T _ _ (by omega) | exact el_C _ _ (by omega) | exact tc_el _ _ (by omega) | exact cc_el _ _ (by omega) | exact whole _) (by with_reducible first | exact mc_size _ | exact tc_size _ | exact cc_size _ | exact dc_size _ | exact rc_size _ | exact sz1 | exact sz2 | exact sz3 | exact sz4) ?_))
     | still_step)); refine wpStill_nil ?_)
   | ((with_reducible refine gate_dst (N := 2) rfl ?_); (with_reducible refine box_new HS.out rfl rfl (by first | exact eval_tmp rfl | exact eval_const) ?_); intro g2 W2_ HP; clear HS; have HS := Aside0.mk HP; clear HP)
   | ((with_reducible refine gate_dst (N := 3) rfl ?_); (with_reducible refine box_new HS.out rfl rfl (by first | exact eval_tmp rfl | exact eval_const) ?_); intro g3 W3_ HP; clear HS; have HS := Aside0.mk HP; clear HP)
   | ((with_reducible refine gate_dst (N := 11) rfl ?_); (with_reducible refine index_at rfl rfl rfl rfl ar44 (by omega) (by omega) ?_); (try simp only [toNat_16, toNat_12, Int.toNat_natCast, Nat.zero_add, Nat.add_zero, Nat.mul_one]))
   | ((with_reducible refine gate_dst (N := 12) rfl ?_); (with_reducible refine load_seg HS.out rfl rfl ag43 rfl (by first | exact at0 | exact at1 | exact at2 | exact at3 | exact at4 | exact at5 | exact at6) (by with_reducible first | exact tc_el _ _ (by omega) | exact cc_el _ _ (by omega) | exact whole _) (by with_reducible first | exact mc_size _ | exact tc_size _ | exact cc_size _ | exact dc_size _ | exact rc_size _ | exact sz1 | exact sz2 | exact sz3 | exact sz4) ?_))
   | ((with_reducible refine gate_dst (N := 14) rfl ?_); (with_reducible refine index_at rfl rfl rfl rfl ar44 (by omega) (by omega) ?_); (try simp only [toNat_16, toNat_12, Int.toNat_natCast, Nat.zero_add, Nat.add_zero, Nat.mul_one]))
   | ((with_reducible refine gate_dst (N := 15) rfl ?_); (with_reducible refine load_seg HS.out rfl rfl ag43 rfl (by first | exact at0 | exact at1 | exact at2 | exact at3 | exact at4 | exact at5 | exact at6) (by with_reducible first | exact tc_el _ _ (by omega) | exact cc_el _ _ (by omega) | exact whole _) (by with_reducible first | exact mc_size _ | exact tc_size _ | exact cc_size _ | exact dc_size _ | exact rc_size _ | exact sz1 | exact sz2 | exact sz3 | exact sz4) ?_))); (try simp only [Act.put, List.setIfInBounds_toArray, List.set_cons_zero, List.set_cons_succ]))
 go_loopw [5] (fun v5 W => ∃ (k : Nat), v5 = .int .i64 k ∧ k ≤ 16 ∧ Aside0 (Priv w W [(g3, cc T), (g2, cc T)])) (fun v5 _ => 16 - (intOf v5).toNat)
 case atStart => exact ⟨0, rfl, by omega, HS⟩
 case round =>
  clear HS
  obtain ⟨k, rfl, hk, HS⟩ := hrel
  by_cases hlt : k < 16
  ·go_wp2_with ((first
   | ((with_reducible refine gate_region (id := 4) ?_); refine region_tail HS.out 6 (by kernel_rfl) (by kernel_rfl) ?_; intro W_ HP HB_; clear HS; have HS := Aside0.mk HP; clear HP; clear HB_; simp only [List.take_succ_cons, List.take_zero, List.drop_succ_cons, List.drop_zero]; (repeat (first
     | ((with_reducible refine st_gate (N := 11) rfl ?_); (with_reducible refine st_index_at rfl rfl rfl rfl ar44 (Int.natCast_nonneg _) (by omega) ?_); (try simp only [toNat_16, toNat_12, Int.toNat_natCast, Nat.zero_add, Nat.add_zero, Nat.mul_one]))
     | ((with_reducible refine st_gate (N := 12) rfl ?_); (with_reducible refine st_load_seg HS.out rfl rfl ag43 rfl (by first | exact at0 | exact at1 | exact at2 | exact at3 | exact at4 | exact at5 | exact at6) (by with_reducible first | exact get_T _ | exact get_C _ | exact get_D _ | exact get_R _ | exact el_T _ _ (by omega) | exact el_C _ _ (by omega) | exact tc_el _ _ (by omega) | exact cc_el _ _ (by omega) | exact whole _) (by with_reducible first | exact mc_size _ | exact tc_size _ | exact cc_size _ | exact dc_size _ | exact rc_size _ | exact sz1 | exact sz2 | exact sz3 | exact sz4) ?_))
     | ((with_reducible refine st_gate (N := 14) rfl ?_); (with_reducible refine st_index_at rfl rfl rfl rfl ar44 (Int.natCast_nonneg _) (by omega) ?_); (try simp only [toNat_16, toNat_12, Int.toNat_natCast, Nat.zero_add, Nat.add_zero, Nat.mul_one]))
     | ((with_reducible refine st_gate (N := 15) rfl ?_); (with_reducible refine st_load_seg HS.out rfl rfl ag43 rfl (by first | exact at0 | exact at1 | exact at2 | exact at3 | exact at4 | exact at5 | exact at6) (by with_reducible first | exact get_T _ | exact get_C _ | exact get_D _ | exact get_R _ | exact el_T _ _ (by omega) | exact el_C _ _ (by omega) | exact tc_el _ _ (by omega) | exact cc_el _ _ (by omega) | exact whole _) (by with_reducible first | exact mc_size _ | exact tc_size _ | exact cc_size _ | exact dc_size _ | exact rc_size _ | exact sz1 | exact sz2 | exact sz3 | exact sz4) ?_))
     | still_step)); refine wpStill_nil ?_)
   | ((with_reducible refine gate_dst (N := 2) rfl ?_); (with_reducible refine box_new HS.out rfl rfl (by first | exact eval_tmp rfl | exact eval_const) ?_); intro g2 W2_ HP; clear HS; have HS := Aside0.mk HP; clear HP)
   | ((with_reducible refine gate_dst (N := 3) rfl ?_); (with_reducible refine box_new HS.out rfl rfl (by first | exact eval_tmp rfl | exact eval_const) ?_); intro g3 W3_ HP; clear HS; have HS := Aside0.mk HP; clear HP)
   | ((with_reducible refine gate_dst (N := 11) rfl ?_); (with_reducible refine index_at rfl rfl rfl rfl ar44 (Int.natCast_nonneg _) (by omega) ?_); (try simp only [toNat_16, toNat_12, Int.toNat_natCast, Nat.zero_add, Nat.add_zero, Nat.mul_one]))
   | ((with_reducible refine gate_dst (N := 12) rfl ?_); (with_reducible refine load_seg HS.out rfl rfl ag43 rfl (by first | exact at0 | exact at1 | exact at2 | exact at3 | exact at4 | exact at5 | exact at6) (by with_reducible first | exact tc_el _ _ (by omega) | exact cc_el _ _ (by omega) | exact whole _) (by with_reducible first | exact mc_size _ | exact tc_size _ | exact cc_size _ | exact dc_size _ | exact rc_size _ | exact sz1 | exact sz2 | exact sz3 | exact sz4) ?_))
   | ((with_reducible refine gate_dst (N := 14) rfl ?_); (with_reducible refine index_at rfl rfl rfl rfl ar44 (Int.natCast_nonneg _) (by omega) ?_); (try simp only [toNat_16, toNat_12, Int.toNat_natCast, Nat.zero_add, Nat.add_zero, Nat.mul_one]))
   | ((with_reducible refine gate_dst (N := 15) rfl ?_); (with_reducible refine load_seg HS.out rfl rfl ag43 rfl (by first | exact at0 | exact at1 | exact at2 | exact at3 | exact at4 | exact at5 | exact at6) (by with_reducible first | exact tc_el _ _ (by omega) | exact cc_el _ _ (by omega) | exact whole _) (by with_reducible first | exact mc_size _ | exact tc_size _ | exact cc_size _ | exact dc_size _ | exact rc_size _ | exact sz1 | exact sz2 | exact sz3 | exact sz4) ?_))
   | ((with_reducible refine gate_dst (N := 16) rfl ?_); refine call_ev HS.out rfl rfl Tryd.func64 (by kernel_rfl) rfl (c_eqMemCounter _ _ _ _) (by (try simp only [List.map_toArray, List.map_cons, List.map_nil]); first | done | rfl) ?_; rintro v_ W_ rfl HP HB_; clear HS; have HS := Aside0.mk HP; clear HP; clear HB_)); (try simp only [Act.put, List.setIfInBounds_toArray, List.set_cons_zero, List.set_cons_succ]))
   go_roundw
   case rel => exact ⟨k + 1, by go_num, by omega, HS⟩
   case measure => simp [intOf]; omega
  ·go_wp2_with ((first
   | ((with_reducible refine gate_region (id := 4) ?_); refine region_tail HS.out 6 (by kernel_rfl) (by kernel_rfl) ?_; intro W_ HP HB_; clear HS; have HS := Aside0.mk HP; clear HP; clear HB_; simp only [List.take_succ_cons, List.take_zero, List.drop_succ_cons, List.drop_zero]; (repeat (first
     | ((with_reducible refine st_gate (N := 11) rfl ?_); (with_reducible refine st_index_at rfl rfl rfl rfl ar44 (by omega) (by omega) ?_); (try simp only [toNat_16, toNat_12, Int.toNat_natCast, Nat.zero_add, Nat.add_zero, Nat.mul_one]))
     | ((with_reducible refine st_gate (N := 12) rfl ?_); (with_reducible refine st_load_seg HS.out rfl rfl ag43 rfl (by first | exact at0 | exact at1 | exact at2 | exact at3 | exact at4 | exact at5 | exact at6) (by with_reducible first | exact get_T _ | exact get_C _ | exact get_D _ | exact get_R _ | exact el_T _ _ (by omega) | exact el_C _ _ (by omega) | exact tc_el _ _ (by omega) | exact cc_el _ _ (by omega) | exact whole _) (by with_reducible first | exact mc_size _ | exact tc_size _ | exact cc_size _ | exact dc_size _ | exact rc_size _ | exact sz1 | exact sz2 | exact sz3 | exact sz4) ?_))
     | ((with_reducible refine st_gate (N := 14) rfl ?_); (with_reducible refine st_index_at rfl rfl rfl rfl ar44 (by omega) (by omega) ?_); (try simp only [toNat_16, toNat_12, Int.toNat_natCast, Nat.zero_add, Nat.add_zero, Nat.mul_one]))
     | ((with_reducible refine st_gate (N := 15) rfl ?_); (with_reducible refine st_load_seg HS.out rfl rfl ag43 rfl (by first | exact at0 | exact at1 | exact at2 | exact at3 | exact at4 | exact at5 | exact at6) (by with_reducible first | exact get_T _ | exact get_C _ | exact get_D _ | exact get_R _ | exact el_T _ _ (by omega) | exact el_C _ _ (by omega) | exact tc_el _ _ (by omega) | exact cc_el _ _ (by omega) | exact whole _) (by with_reducible first | exact mc_size _ | exact tc_size _ | exact cc_size _ | exact dc_size _ | exact rc_size _ | exact sz1 | exact sz2 | exact sz3 | exact sz4) ?_))
     | still_step)); refine wpStill_nil ?_)
   | ((with_reducible refine gate_dst (N := 2) rfl ?_); (with_reducible refine box_new HS.out rfl rfl (by first | exact eval_tmp rfl | exact eval_const) ?_); intro g2 W2_ HP; clear HS; have HS := Aside0.mk HP; clear HP)
   | ((with_reducible refine gate_dst (N := 3) rfl ?_); (with_reducible refine box_new HS.out rfl rfl (by first | exact eval_tmp rfl | exact eval_const) ?_); intro g3 W3_ HP; clear HS; have HS := Aside0.mk HP; clear HP)
   | ((with_reducible refine gate_dst (N := 11) rfl ?_); (with_reducible refine index_at rfl rfl rfl rfl ar44 (by omega) (by omega) ?_); (try simp only [toNat_16, toNat_12, Int.toNat_natCast, Nat.zero_add, Nat.add_zero, Nat.mul_one]))
   | ((with_reducible refine gate_dst (N := 12) rfl ?_); (with_reducible refine load_seg HS.out rfl rfl ag43 rfl (by first | exact at0 | exact at1 | exact at2 | exact at3 | exact at4 | exact at5 | exact at6) (by with_reducible first | exact tc_el _ _ (by omega) | exact cc_el _ _ (by omega) | exact whole _) (by with_reducible first | exact mc_size _ | exact tc_size _ | exact cc_size _ | exact dc_size _ | exact rc_size _ | exact sz1 | exact sz2 | exact sz3 | exact sz4) ?_))
   | ((with_reducible refine gate_dst (N := 14) rfl ?_); (with_reducible refine index_at rfl rfl rfl rfl ar44 (by omega) (by omega) ?_); (try simp only [toNat_16, toNat_12, Int.toNat_natCast, Nat.zero_add, Nat.add_zero, Nat.mul_one]))
   | ((with_reducible refine gate_dst (N := 15) rfl ?_); (with_reducible refine load_seg HS.out rfl rfl ag43 rfl (by first | exact at0 | exact at1 | exact at2 | exact at3 | exact at4 | exact at5 | exact at6) (by with_reducible first | exact tc_el _ _ (by omega) | exact cc_el _ _ (by omega) | exact whole _) (by with_reducible first | exact mc_size _ | exact tc_size _ | exact cc_size _ | exact dc_size _ | exact rc_size _ | exact sz1 | exact sz2 | exact sz3 | exact sz4) ?_))); (try simp only [Act.put, List.setIfInBounds_toArray, List.set_cons_zero, List.set_cons_succ]))
   go_ret
   exact ⟨_, rfl, rfl, HS.out.below⟩

set_option maxHeartbeats 4000000 in
set_option maxRecDepth 100000 in
theorem c_eqInt16A32 (T : Nat → Int) (w : World) : Calls Tryd.prog 39 #[.agg (dc T), .agg (dc T)] w (Ret w (· = .bool true)) := by
 have HS := Aside0.mk (Priv.nil w)
 skip
 go_enter Tryd.func39, Tryd.ntmps39
 go_wp2_with ((first
   | ((with_reducible refine gate_region (id := 4) ?_); refine region_lit HS.out (by kernel_rfl) (by kernel_rfl) ?_; intro W_ HP HB_; clear HS; have HS := Aside0.mk HP; clear HP; clear HB_; (repeat (first
     | ((with_reducible refine st_gate (N := 11) rfl ?_); (with_reducible refine st_index_at rfl rfl rfl rfl ar32 (by omega) (by omega) ?_); (try simp only [toNat_16, toNat_12, Int.toNat_natCast, Nat.zero_add, Nat.add_zero, Nat.mul_one]))
     | ((with_reducible refine st_gate (N := 12) rfl ?_); (with_reducible refine st_load_one HS.out rfl rfl on31 rfl (by first | exact at0 | exact at1 | exact at2 | exact at3 | exact at4 | exact at5 | exact at6) (by with_reducible first | exact get_X _ | exact get_Y _ | exact get_M _ | exact get_S _ | exact get_E _ | exact get_Time _ | exact get_Ran _ | exact get_Fault _ | exact el_T0 _ _ (by omega) | exact el_T1 _ _ (by omega) | exact el_C0 _ _ (by omega) | exact el_C1 _ _ (by omega) | exact el_C2 _ _ (by omega) | exact el_D _ _ (by omega) | exact el_R _ _ (by omega) | exact dc_get _ _ (by omega) | exact rc_get _ _ (by omega) | exact at0a | exact at1a | exact at2a | exact at3a) ?_))
     | ((with_reducible refine st_gate (N := 14) rfl ?_); (with_reducible refine st_index_at rfl rfl rfl rfl ar32 (by omega) (by omega) ?_); (try simp only [toNat_16, toNat_12, Int.toNat_natCast, Nat.zero_add, Nat.add_zero, Nat.mul_one]))
     | ((with_reducible refine st_gate (N := 15) rfl ?_); (with_reducible refine st_load_one HS.out rfl rfl on31 rfl (by first | exact at0 | exact at1 | exact at2 | exact at3 | exact at4 | exact at5 | exact at6) (by with_reducible first | exact get_X _ | exact get_Y _ | exact get_M _ | exact get_S _ | exact get_E _ | exact get_Time _ | exact get_Ran _ | exact get_Fault _ | exact el_T0 _ _ (by omega) | exact el_T1 _ _ (by omega) | exact el_C0 _ _ (by omega) | exact el_C1 _ _ (by omega) | exact el_C2 _ _ (by omega) | exact el_D _ _ (by omega) | exact el_R _ _ (by omega) | exact dc_get _ _ (by omega) | exact rc_get _ _ (by omega) | exact at0a | exact at1a | exact at2a | exact at3a) ?_))
     | still_step)); refine wpStill_nil ?_)
   | ((with_reducible refine gate_dst (N := 2) rfl ?_); (with_reducible refine box_new HS.out rfl rfl (by first | exact eval_tmp rfl | exact eval_const) ?_); intro g2 W2_ HP; clear HS; have HS := Aside0.mk HP; clear HP)
   | ((with_reducible refine gate_dst (N := 3) rfl ?_); (with_reducible refine box_new HS.out rfl rfl (by first | exact eval_tmp rfl | exact eval_const) ?_); intro g3 W3_ HP; clear HS; have HS := Aside0.mk HP; clear HP)
   | ((with_reducible refine gate_dst (N := 11) rfl ?_); (with_reducible refine index_at rfl rfl rfl rfl ar32 (by omega) (by omega) ?_); (try simp only [toNat_16, toNat_12, Int.toNat_natCast, Nat.zero_add, Nat.add_zero, Nat.mul_one]))
   | ((with_reducible refine gate_dst (N := 12) rfl ?_); (with_reducible refine load_one HS.out rfl rfl on31 rfl (by first | exact at0 | exact at1 | exact at2 | exact at3 | exact at4 | exact at5 | exact at6) (by with_reducible first | exact dc_get _ _ (by omega) | exact rc_get _ _ (by omega) | exact at0a | exact at1a | exact at2a | exact at3a) ?_))
   | ((with_reducible refine gate_dst (N := 14) rfl ?_); (with_reducible refine index_at rfl rfl rfl rfl ar32 (by omega) (by omega) ?_); (try simp only [toNat_16, toNat_12, Int.toNat_natCast, Nat.zero_add, Nat.add_zero, Nat.mul_one]))
   | ((with_reducible refine gate_dst (N := 15) rfl ?_); (with_reducible refine load_one HS.out rfl rfl on31 rfl (by first | exact at0 | exact at1 | exact at2 | exact at3 | exact at4 | exact at5 | exact at6) (by with_reducible first | exact dc_get _ _ (by omega) | exact rc_get _ _ (by omega) | exact at0a | exact at1a | exact at2a | exact at3a) ?_))); (try simp only [Act.put, List.setIfInBounds_toArray, List.set_cons_zero, List.set_cons_succ]))
 go_loopw [5] (fun v5 W => ∃ (k : Nat), v5 = .int .i64 k ∧ k ≤ 32 ∧ Aside0 (Priv w W [(g3, dc T), (g2, dc T)])) (fun v5 _ => 32 - (intOf v5).toNat)
 case atStart => exact ⟨0, rfl, by omega, HS⟩
 case round =>
  clear HS
  obtain ⟨k, rfl, hk, HS⟩ := hrel
  by_cases hlt : k < 32
  ·go_wp2_with ((first
   | ((with_reducible refine gate_region (id := 4) ?_); refine region_lit HS.out (by kernel_rfl) (by kernel_rfl) ?_; intro W_ HP HB_; clear HS; have HS := Aside0.mk HP; clear HP; clear HB_; (repeat (first
     | ((with_reducible refine st_gate (N := 11) rfl ?_); (with_reducible refine st_index_at rfl rfl rfl rfl ar32 (Int.natCast_nonneg _) (by omega) ?_); (try simp only [toNat_16, toNat_12, Int.toNat_natCast, Nat.zero_add, Nat.add_zero, Nat.mul_one]))
     | ((with_reducible refine st_gate (N := 12) rfl ?_); (with_reducible refine st_load_one HS.out rfl rfl on31 rfl (by first | exact at0 | exact at1 | exact at2 | exact at3 | exact at4 | exact at5 | exact at6) (by with_reducible first | exact get_X _ | exact get_Y _ | exact get_M _ | exact get_S _ | exact get_E _ | exact get_Time _ | exact get_Ran _ | exact get_Fault _ | exact el_T0 _ _ (by omega) | exact el_T1 _ _ (by omega) | exact el_C0 _ _ (by omega) | exact el_C1 _ _ (by omega) | exact el_C2 _ _ (by omega) | exact el_D _ _ (by omega) | exact el_R _ _ (by omega) | exact dc_get _ _ (by omega) | exact rc_get _ _ (by omega) | exact at0a | exact at1a | exact at2a | exact at3a) ?_))
     | ((with_reducible refine st_gate (N := 14) rfl ?_); (with_reducible refine st_index_at rfl rfl rfl rfl ar32 (Int.natCast_nonneg _) (by omega) ?_); (try simp only [toNat_16, toNat_12, Int.toNat_natCast, Nat.zero_add, Nat.add_zero, Nat.mul_one]))
     | ((with_reducible refine st_gate (N := 15) rfl ?_); (with_reducible refine st_load_one HS.out rfl rfl on31 rfl (by first | exact at0 | exact at1 | exact at2 | exact at3 | exact at4 | exact at5 | exact at6) (by with_reducible first | exact get_X _ | exact get_Y _ | exact get_M _ | exact get_S _ | exact get_E _ | exact get_Time _ | exact get_Ran _ | exact get_Fault _ | exact el_T0 _ _ (by omega) | exact el_T1 _ _ (by omega) | exact el_C0 _ _ (by omega) | exact el_C1 _ _ (by omega) | exact el_C2 _ _ (by omega) | exact el_D _ _ (by omega) | exact el_R _ _ (by omega) | exact dc_get _ _ (by omega) | exact rc_get _ _ (by omega) | exact at0a | exact at1a | exact at2a | exact at3a) ?_))
     | still_step)); refine wpStill_nil ?_)
   | ((with_reducible refine gate_dst (N := 2) rfl ?_); (with_reducible refine box_new HS.out rfl rfl (by first | exact eval_tmp rfl | exact eval_const) ?_); intro g2 W2_ HP; clear HS; have HS := Aside0.mk HP; clear HP)
   | ((with_reducible refine gate_dst (N := 3) rfl ?_); (with_reducible refine box_new HS.out rfl rfl (by first | exact eval_tmp rfl | exact eval_const) ?_); intro g3 W3_ HP; clear HS; have HS := Aside0.mk HP; clear HP)
   | ((with_reducible refine gate_dst (N := 11) rfl ?_); (with_reducible refine index_at rfl rfl rfl rfl ar32 (Int.natCast_nonneg _) (by omega) ?_); (try simp only [toNat_16, toNat_12, Int.toNat_natCast, Nat.zero_add, Nat.add_zero, Nat.mul_one]))
   | ((with_reducible refine gate_dst (N := 12) rfl ?_); (with_reducible refine load_one HS.out rfl rfl on31 rfl (by first | exact at0 | exact at1 | exact at2 | exact at3 | exact at4 | exact at5 | exact at6) (by with_reducible first | exact dc_get _ _ (by omega) | exact rc_get _ _ (by omega) | exact at0a | exact at1a | exact at2a | exact at3a) ?_))
   | ((with_reducible refine gate_dst (N := 14) rfl ?_); (with_reducible refine index_at rfl rfl rfl rfl ar32 (Int.natCast_nonneg _) (by omega) ?_); (try simp only [toNat_16, toNat_12, Int.toNat_natCast, Nat.zero_add, Nat.add_zero, Nat.mul_one]))
   | ((with_reducible refine gate_dst (N := 15) rfl ?_); (with_reducible refine load_one HS.out rfl rfl on31 rfl (by first | exact at0 | exact at1 | exact at2 | exact at3 | exact at4 | exact at5 | exact at6) (by with_reducible first | exact dc_get _ _ (by omega) | exact rc_get _ _ (by omega) | exact at0a | exact at1a | exact at2a | exact at3a) ?_))); (try simp only [Act.put, List.setIfInBounds_toArray, List.set_cons_zero, List.set_cons_succ]))
   go_roundw
   case rel => exact ⟨k + 1, by go_num, by omega, HS⟩
   case measure => simp [intOf]; omega
  ·go_wp2_with ((first
   | ((with_reducible refine gate_region (id := 4) ?_); refine region_lit HS.out (by kernel_rfl) (by kernel_rfl) ?_; intro W_ HP HB_; clear HS; have HS := Aside0.mk HP; clear HP; clear HB_; (repeat (first
     | ((with_reducible refine st_gate (N := 11) rfl ?_); (with_reducible refine st_index_at rfl rfl rfl rfl ar32 (by omega) (by omega) ?_); (try simp only [toNat_16, toNat_12, Int.toNat_natCast, Nat.zero_add, Nat.add_zero, Nat.mul_one]))
     | ((with_reducible refine st_gate (N := 12) rfl ?_); (with_reducible refine st_load_one HS.out rfl rfl on31 rfl (by first | exact at0 | exact at1 | exact at2 | exact at3 | exact at4 | exact at5 | exact at6) (by with_reducible first | exact get_X _ | exact get_Y _ | exact get_M _ | exact get_S _ | exact get_E _ | exact get_Time _ | exact get_Ran _ | exact get_Fault _ | exact el_T0 _ _ (by omega) | exact el_T1 _ _ (by omega) | exact el_C0 _ _ (by omega) | exact el_C1 _ _ (by omega) | exact el_C2 _ _ (by omega) | exact el_D _ _ (by omega) | exact el_R _ _ (by omega) | exact dc_get _ _ (by omega) | exact rc_get _ _ (by omega) | exact at0a | exact at1a | exact at2a | exact at3a) ?_))
     | ((with_reducible refine st_gate (N := 14) rfl ?_); (with_reducible refine st_index_at rfl rfl rfl rfl ar32 (by omega) (by omega) ?_); (try simp only [toNat_16, toNat_12, Int.toNat_natCast, Nat.zero_add, Nat.add_zero, Nat.mul_one]))
     | ((with_reducible refine st_gate (N := 15) rfl ?_); (with_reducible refine st_load_one HS.out rfl rfl on31 rfl (by first | exact at0 | exact at1 | exact at2 | exact at3 | exact at4 | exact at5 | exact at6) (by with_reducible first | exact get_X _ | exact get_Y _ | exact get_M _ | exact get_S _ | exact get_E _ | exact get_Time _ | exact get_Ran _ | exact get_Fault _ | exact el_T0 _ _ (by omega) | exact el_T1 _ _ (by omega) | exact el_C0 _ _ (by omega) | exact el_C1 _ _ (by omega) | exact el_C2 _ _ (by omega) | exact el_D _ _ (by omega) | exact el_R _ _ (by omega) | exact dc_get _ _ (by omega) | exact rc_get _ _ (by omega) | exact at0a | exact at1a | exact at2a | exact at3a) ?_))
     | still_step)); refine wpStill_nil ?_)
   | ((with_reducible refine gate_dst (N := 2) rfl ?_); (with_reducible refine box_new HS.out rfl rfl (by first | exact eval_tmp rfl | exact eval_const) ?_); intro g2 W2_ HP; clear HS; have HS := Aside0.mk HP; clear HP)
   | ((with_reducible refine gate_dst (N := 3) rfl ?_); (with_reducible refine box_new HS.out rfl rfl (by first | exact eval_tmp rfl | exact eval_const) ?_); intro g3 W3_ HP; clear HS; have HS := Aside0.mk HP; clear HP)
   | ((with_reducible refine gate_dst (N := 11) rfl ?_); (with_reducible refine index_at rfl rfl rfl rfl ar32 (by omega) (by omega) ?_); (try simp only [toNat_16, toNat_12, Int.toNat_natCast, Nat.zero_add, Nat.add_zero, Nat.mul_one]))
   | ((with_reducible refine gate_dst (N := 12) rfl ?_); (with_reducible refine load_one HS.out rfl rfl on31 rfl (by first | exact at0 | exact at1 | exact at2 | exact at3 | exact at4 | exact at5 | exact at6) (by with_reducible first | exact dc_get _ _ (by omega) | exact rc_get _ _ (by omega) | exact at0a | exact at1a | exact at2a | exact at3a) ?_))
   | ((with_reducible refine gate_dst (N := 14) rfl ?_); (with_reducible refine index_at rfl rfl rfl rfl ar32 (by omega) (by omega) ?_); (try simp only [toNat_16, toNat_12, Int.toNat_natCast, Nat.zero_add, Nat.add_zero, Nat.mul_one]))
   | ((with_reducible refine gate_dst (N := 15) rfl ?_); (with_reducible refine load_one HS.out rfl rfl on31 rfl (by first | exact at0 | exact at1 | exact at2 | exact at3 | exact at4 | exact at5 | exact at6) (by with_reducible first | exact dc_get _ _ (by omega) | exact rc_get _ _ (by omega) | exact at0a | exact at1a | exact at2a | exact at3a) ?_))); (try simp only [Act.put, List.setIfInBounds_toArray, List.set_cons_zero, List.set_cons_succ]))
   go_ret
   exact ⟨_, rfl, rfl, HS.out.below⟩

set_option maxHeartbeats 4000000 in
set_option maxRecDepth 100000 in
theorem c_eqFloat64A16 (T T2 : Nat → Nat) (hr : ∀ i, i < 16 → fsame (T i) (T2 i)) (w : World) : Calls Tryd.prog 40 #[.agg (rc T), .agg (rc T2)] w (Ret w (· = .bool true)) := by
 have HS := Aside0.mk (Priv.nil w)
 have HR := Aside0.mk hr; clear hr
 go_enter Tryd.func40, Tryd.ntmps40
 go_wp2_with ((first
   | ((with_reducible refine gate_region (id := 4) ?_); refine region_tail HS.out 6 (by kernel_rfl) (by kernel_rfl) ?_; intro W_ HP HB_; clear HS; have HS := Aside0.mk HP; clear HP; clear HB_; simp only [List.take_succ_cons, List.take_zero, List.drop_succ_cons, List.drop_zero]; (repeat (first
     | ((with_reducible refine st_gate (N := 11) rfl ?_); (with_reducible refine st_index_at rfl rfl rfl rfl ar34 (by omega) (by omega) ?_); (try simp only [toNat_16, toNat_12, Int.toNat_natCast, Nat.zero_add, Nat.add_zero, Nat.mul_one]))
     | ((with_reducible refine st_gate (N := 12) rfl ?_); (with_reducible refine st_load_one HS.out rfl rfl on33 rfl (by first | exact at0 | exact at1 | exact at2 | exact at3 | exact at4 | exact at5 | exact at6) (by with_reducible first | exact get_X _ | exact get_Y _ | exact get_M _ | exact get_S _ | exact get_E _ | exact get_Time _ | exact get_Ran _ | exact get_Fault _ | exact el_T0 _ _ (by omega) | exact el_T1 _ _ (by omega) | exact el_C0 _ _ (by omega) | exact el_C1 _ _ (by omega) | exact el_C2 _ _ (by omega) | exact el_D _ _ (by omega) | exact el_R _ _ (by omega) | exact dc_get _ _ (by omega) | exact rc_get _ _ (by omega) | exact at0a | exact at1a | exact at2a | exact at3a) ?_))
     | ((with_reducible refine st_gate (N := 14) rfl ?_); (with_reducible refine st_index_at rfl rfl rfl rfl ar34 (by omega) (by omega) ?_); (try simp only [toNat_16, toNat_12, Int.toNat_natCast, Nat.zero_add, Nat.add_zero, Nat.mul_one]))
     | ((with_reducible refine st_gate (N := 15) rfl ?_); (with_reducible refine st_load_one HS.out rfl rfl on33 rfl (by first | exact at0 | exact at1 | exact at2 | exact at3 | exact at4 | exact at5 | exact at6) (by with_reducible first | exact get_X _ | exact get_Y _ | exact get_M _ | exact get_S _ | exact get_E _ | exact get_Time _ | exact get_Ran _ | exact get_Fault _ | exact el_T0 _ _ (by omega) | exact el_T1 _ _ (by omega) | exact el_C0 _ _ (by omega) | exact el_C1 _ _ (by omega) | exact el_C2 _ _ (by omega) | exact el_D _ _ (by omega) | exact el_R _ _ (by omega) | exact dc_get _ _ (by omega) | exact rc_get _ _ (by omega) | exact at0a | exact at1a | exact at2a | exact at3a) ?_))
     | still_step)); refine wpStill_nil ?_)
   | ((with_reducible refine gate_dst (N := 2) rfl ?_); (with_reducible refine box_new HS.out rfl rfl (by first | exact eval_tmp rfl | exact eval_const) ?_); intro g2 W2_ HP; clear HS; have HS := Aside0.mk HP; clear HP)
   | ((with_reducible refine gate_dst (N := 3) rfl ?_); (with_reducible refine box_new HS.out rfl rfl (by first | exact eval_tmp rfl | exact eval_const) ?_); intro g3 W3_ HP; clear HS; have HS := Aside0.mk HP; clear HP)
   | ((with_reducible refine gate_dst (N := 11) rfl ?_); (with_reducible refine index_at rfl rfl rfl rfl ar34 (by omega) (by omega) ?_); (try simp only [toNat_16, toNat_12, Int.toNat_natCast, Nat.zero_add, Nat.add_zero, Nat.mul_one]))
   | ((with_reducible refine gate_dst (N := 12) rfl ?_); (with_reducible refine load_one HS.out rfl rfl on33 rfl (by first | exact at0 | exact at1 | exact at2 | exact at3 | exact at4 | exact at5 | exact at6) (by with_reducible first | exact dc_get _ _ (by omega) | exact rc_get _ _ (by omega) | exact at0a | exact at1a | exact at2a | exact at3a) ?_))
   | ((with_reducible refine gate_dst (N := 14) rfl ?_); (with_reducible refine index_at rfl rfl rfl rfl ar34 (by omega) (by omega) ?_); (try simp only [toNat_16, toNat_12, Int.toNat_natCast, Nat.zero_add, Nat.add_zero, Nat.mul_one]))
   | ((with_reducible refine gate_dst (N := 15) rfl ?_); (with_reducible refine load_one HS.out rfl rfl on33 rfl (by first | exact at0 | exact at1 | exact at2 | exact at3 | exact at4 | exact at5 | exact at6) (by with_reducible first | exact dc_get _ _ (by omega) | exact rc_get _ _ (by omega) | exact at0a | exact at1a | exact at2a | exact at3a) ?_))); (try simp only [Act.put, List.setIfInBounds_toArray, List.set_cons_zero, List.set_cons_succ]))
 go_loopw [5] (fun v5 W => ∃ (k : Nat), v5 = .int .i64 k ∧ k ≤ 16 ∧ Aside0 (Priv w W [(g3, rc T2), (g2, rc T)])) (fun v5 _ => 16 - (intOf v5).toNat)
 case atStart => exact ⟨0, rfl, by omega, HS⟩
 case round =>
  clear HS
  obtain ⟨k, rfl, hk, HS⟩ := hrel
  by_cases hlt : k < 16
  ·go_wp2_with ((first
   | ((with_reducible refine gate_region (id := 4) ?_); refine region_tail HS.out 6 (by kernel_rfl) (by kernel_rfl) ?_; intro W_ HP HB_; clear HS; have HS := Aside0.mk HP; clear HP; clear HB_; simp only [List.take_succ_cons, List.take_zero, List.drop_succ_cons, List.drop_zero]; (repeat (first
     | ((with_reducible refine st_gate (N := 11) rfl ?_); (with_reducible refine st_index_at rfl rfl rfl rfl ar34 (Int.natCast_nonneg _) (by omega) ?_); (try simp only [toNat_16, toNat_12, Int.toNat_natCast, Nat.zero_add, Nat.add_zero, Nat.mul_one]))
     | ((with_reducible refine st_gate (N := 12) rfl ?_); (with_reducible refine st_load_one HS.out rfl rfl on33 rfl (by first | exact at0 | exact at1 | exact at2 | exact at3 | exact at4 | exact at5 | exact at6) (by with_reducible first | exact get_X _ | exact get_Y _ | exact get_M _ | exact get_S _ | exact get_E _ | exact get_Time _ | exact get_Ran _ | exact get_Fault _ | exact el_T0 _ _ (by omega) | exact el_T1 _ _ (by omega) | exact el_C0 _ _ (by omega) | exact el_C1 _ _ (by omega) | exact el_C2 _ _ (by omega) | exact el_D _ _ (by omega) | exact el_R _ _ (by omega) | exact dc_get _ _ (by omega) | exact rc_get _ _ (by omega) | exact at0a | exact at1a | exact at2a | exact at3a) ?_))
     | ((with_reducible refine st_gate (N := 14) rfl ?_); (with_reducible refine st_index_at rfl rfl rfl rfl ar34 (Int.natCast_nonneg _) (by omega) ?_); (try simp only [toNat_16, toNat_12, Int.toNat_natCast, Nat.zero_add, Nat.add_zero, Nat.mul_one]))
     | ((with_reducible refine st_gate (N := 15) rfl ?_); (with_reducible refine st_load_one HS.out rfl rfl on33 rfl (by first | exact at0 | exact at1 | exact at2 | exact at3 | exact at4 | exact at5 | exact at6) (by with_reducible first | exact get_X _ | exact get_Y _ | exact get_M _ | exact get_S _ | exact get_E _ | exact get_Time _ | exact get_Ran _ | exact get_Fault _ | exact el_T0 _ _ (by omega) | exact el_T1 _ _ (by omega) | exact el_C0 _ _ (by omega) | exact el_C1 _ _ (by omega) | exact el_C2 _ _ (by omega) | exact el_D _ _ (by omega) | exact el_R _ _ (by omega) | exact dc_get _ _ (by omega) | exact rc_get _ _ (by omega) | exact at0a | exact at1a | exact at2a | exact at3a) ?_))
     | still_step)); refine wpStill_nil ?_)
   | ((with_reducible refine gate_dst (N := 2) rfl ?_); (with_reducible refine box_new HS.out rfl rfl (by first | exact eval_tmp rfl | exact eval_const) ?_); intro g2 W2_ HP; clear HS; have HS := Aside0.mk HP; clear HP)
   | ((with_reducible refine gate_dst (N := 3) rfl ?_); (with_reducible refine box_new HS.out rfl rfl (by first | exact eval_tmp rfl | exact eval_const) ?_); intro g3 W3_ HP; clear HS; have HS := Aside0.mk HP; clear HP)
   | ((with_reducible refine gate_dst (N := 11) rfl ?_); (with_reducible refine index_at rfl rfl rfl rfl ar34 (Int.natCast_nonneg _) (by omega) ?_); (try simp only [toNat_16, toNat_12, Int.toNat_natCast, Nat.zero_add, Nat.add_zero, Nat.mul_one]))
   | ((with_reducible refine gate_dst (N := 12) rfl ?_); (with_reducible refine load_one HS.out rfl rfl on33 rfl (by first | exact at0 | exact at1 | exact at2 | exact at3 | exact at4 | exact at5 | exact at6) (by with_reducible first | exact dc_get _ _ (by omega) | exact rc_get _ _ (by omega) | exact at0a | exact at1a | exact at2a | exact at3a) ?_))
   | ((with_reducible refine gate_dst (N := 14) rfl ?_); (with_reducible refine index_at rfl rfl rfl rfl ar34 (Int.natCast_nonneg _) (by omega) ?_); (try simp only [toNat_16, toNat_12, Int.toNat_natCast, Nat.zero_add, Nat.add_zero, Nat.mul_one]))
   | ((with_reducible refine gate_dst (N := 15) rfl ?_); (with_reducible refine load_one HS.out rfl rfl on33 rfl (by first | exact at0 | exact at1 | exact at2 | exact at3 | exact at4 | exact at5 | exact at6) (by with_reducible first | exact dc_get _ _ (by omega) | exact rc_get _ _ (by omega) | exact at0a | exact at1a | exact at2a | exact at3a) ?_))
   | ((with_reducible refine gate_dst (N := 16) rfl ?_); refine call_ev HS.out rfl rfl Tryd.func65 (by kernel_rfl) rfl (c_sameFloat _ _ (HR.out _ hlt) _) (by (try simp only [List.map_toArray, List.map_cons, List.map_nil]); first | done | rfl) ?_; rintro v_ W_ rfl HP HB_; clear HS; have HS := Aside0.mk HP; clear HP; clear HB_)); (try simp only [Act.put, List.setIfInBounds_toArray, List.set_cons_zero, List.set_cons_succ]))
   go_roundw
   case rel => exact ⟨k + 1, by go_num, by omega, HS⟩
   case measure => simp [intOf]; omega
  ·go_wp2_with ((first
   | ((with_reducible refine gate_region (id := 4) ?_); refine region_tail HS.out 6 (by kernel_rfl) (by kernel_rfl) ?_; intro W_ HP HB_; clear HS; have HS := Aside0.mk HP; clear HP; clear HB_; simp only [List.take_succ_cons, List.take_zero, List.drop_succ_cons, List.drop_zero]; (repeat (first
     | ((with_reducible refine st_gate (N := 11) rfl ?_); (with_reducible refine st_index_at rfl rfl rfl rfl ar34 (by omega) (by omega) ?_); (try simp only [toNat_16, toNat_12, Int.toNat_natCast, Nat.zero_add, Nat.add_zero, Nat.mul_one]))
     | ((with_reducible refine st_gate (N := 12) rfl ?_); (with_reducible refine st_load_one HS.out rfl rfl on33 rfl (by first | exact at0 | exact at1 | exact at2 | exact at3 | exact at4 | exact at5 | exact at6) (by with_reducible first | exact get_X _ | exact get_Y _ | exact get_M _ | exact get_S _ | exact get_E _ | exact get_Time _ | exact get_Ran _ | exact get_Fault _ | exact el_T0 _ _ (by omega) | exact el_T1 _ _ (by omega) | exact el_C0 _ _ (by omega) | exact el_C1 _ _ (by omega) | exact el_C2 _ _ (by omega) | exact el_D _ _ (by omega) | exact el_R _ _ (by omega) | exact dc_get _ _ (by omega) | exact rc_get _ _ (by omega) | exact at0a | exact at1a | exact at2a | exact at3a) ?_))
     | ((with_reducible refine st_gate (N := 14) rfl ?_); (with_reducible refine st_index_at rfl rfl rfl rfl ar34 (by omega) (by omega) ?_); (try simp only [toNat_16, toNat_12, Int.toNat_natCast, Nat.zero_add, Nat.add_zero, Nat.mul_one]))
     | ((with_reducible refine st_gate (N := 15) rfl ?_); (with_reducible refine st_load_one HS.out rfl rfl on33 rfl (by first | exact at0 | exact at1 | exact at2 | exact at3 | exact at4 | exact at5 | exact at6) (by with_reducible first | exact get_X _ | exact get_Y _ | exact get_M _ | exact get_S _ | exact get_E _ | exact get_Time _ | exact get_Ran _ | exact get_Fault _ | exact el_T0 _ _ (by omega) | exact el_T1 _ _ (by omega) | exact el_C0 _ _ (by omega) | exact el_C1 _ _ (by omega) | exact el_C2 _ _ (by omega) | exact el_D _ _ (by omega) | exact el_R _ _ (by omega) | exact dc_get _ _ (by omega) | exact rc_get _ _ (by omega) | exact at0a | exact at1a | exact at2a | exact at3a) ?_))
     | still_step)); refine wpStill_nil ?_)
   | ((with_reducible refine gate_dst (N := 2) rfl ?_); (with_reducible refine box_new HS.out rfl rfl (by first | exact eval_tmp rfl | exact eval_const) ?_); intro g2 W2_ HP; clear HS; have HS := Aside0.mk HP; clear HP)
   | ((with_reducible refine gate_dst (N := 3) rfl ?_); (with_reducible refine box_new HS.out rfl rfl (by first | exact eval_tmp rfl | exact eval_const) ?_); intro g3 W3_ HP; clear HS; have HS := Aside0.mk HP; clear HP)
   | ((with_reducible refine gate_dst (N := 11) rfl ?_); (with_reducible refine index_at rfl rfl rfl rfl ar34 (by omega) (by omega) ?_); (try simp only [toNat_16, toNat_12, Int.toNat_natCast, Nat.zero_add, Nat.add_zero, Nat.mul_one]))
   | ((with_reducible refine gate_dst (N := 12) rfl ?_); (with_reducible refine load_one HS.out rfl rfl on33 rfl (by first | exact at0 | exact at1 | exact at2 | exact at3 | exact at4 | exact at5 | exact at6) (by with_reducible first | exact dc_get _ _ (by omega) | exact rc_get _ _ (by omega) | exact at0a | exact at1a | exact at2a | exact at3a) ?_))
   | ((with_reducible refine gate_dst (N := 14) rfl ?_); (with_reducible refine index_at rfl rfl rfl rfl ar34 (by omega) (by omega) ?_); (try simp only [toNat_16, toNat_12, Int.toNat_natCast, Nat.zero_add, Nat.add_zero, Nat.mul_one]))
   | ((with_reducible refine gate_dst (N := 15) rfl ?_); (with_reducible refine load_one HS.out rfl rfl on33 rfl (by first | exact at0 | exact at1 | exact at2 | exact at3 | exact at4 | exact at5 | exact at6) (by with_reducible first | exact dc_get _ _ (by omega) | exact rc_get _ _ (by omega) | exact at0a | exact at1a | exact at2a | exact at3a) ?_))); (try simp only [Act.put, List.setIfInBounds_toArray, List.set_cons_zero, List.set_cons_succ]))
   go_ret
   exact ⟨_, rfl, rfl, HS.out.below⟩

set_option maxHeartbeats 4000000 in
set_option maxRecDepth 100000 in
theorem c_eqMem (m : Mm) (R2 : Nat → Nat) (hr : ∀ i, i < 16 → fsame (m.R i) (R2 i)) (w : World) : Calls Tryd.prog 10 #[.agg (mc m), .agg (mc { m with R := R2 })] w (Ret w (· = .bool true)) := by
 have HS := Aside0.mk (Priv.nil w)
 have HR := Aside0.mk hr; clear hr
 go_enter Tryd.func10, Tryd.ntmps10
 go_wp2_with ((first
   | ((with_reducible refine gate_dst (N := 2) rfl ?_); (with_reducible refine box_new HS.out rfl rfl (by first | exact eval_tmp rfl | exact eval_const) ?_); intro g2 W2_ HP; clear HS; have HS := Aside0.mk HP; clear HP)
   | ((with_reducible refine gate_dst (N := 3) rfl ?_); (with_reducible refine box_new HS.out rfl rfl (by first | exact eval_tmp rfl | exact eval_const) ?_); intro g3 W3_ HP; clear HS; have HS := Aside0.mk HP; clear HP)
   | ((with_reducible refine gate_dst (N := 5) rfl ?_); (with_reducible refine field_at rfl rfl rfl fo46_0 ?_); (try simp only [toNat_16, toNat_12, Int.toNat_natCast, Nat.zero_add, Nat.add_zero, Nat.mul_one]))
   | ((with_reducible refine gate_dst (N := 6) rfl ?_); (with_reducible refine load_one HS.out rfl rfl on22 rfl (by first | exact at0 | exact at1 | exact at2 | exact at3 | exact at4 | exact at5 | exact at6) (by with_reducible exact get_X _) ?_))
   | ((with_reducible refine gate_dst (N := 7) rfl ?_); (with_reducible refine field_at rfl rfl rfl fo46_0 ?_); (try simp only [toNat_16, toNat_12, Int.toNat_natCast, Nat.zero_add, Nat.add_zero, Nat.mul_one]))
   | ((with_reducible refine gate_dst (N := 8) rfl ?_); (with_reducible refine load_one HS.out rfl rfl on22 rfl (by first | exact at0 | exact at1 | exact at2 | exact at3 | exact at4 | exact at5 | exact at6) (by with_reducible exact get_X _) ?_))
   | ((with_reducible refine gate_dst (N := 10) rfl ?_); (with_reducible refine field_at rfl rfl rfl fo46_1 ?_); (try simp only [toNat_16, toNat_12, Int.toNat_natCast, Nat.zero_add, Nat.add_zero, Nat.mul_one]))
   | ((with_reducible refine gate_dst (N := 11) rfl ?_); (with_reducible refine load_one HS.out rfl rfl on22 rfl (by first | exact at0 | exact at1 | exact at2 | exact at3 | exact at4 | exact at5 | exact at6) (by with_reducible exact get_Y _) ?_))
   | ((with_reducible refine gate_dst (N := 12) rfl ?_); (with_reducible refine field_at rfl rfl rfl fo46_1 ?_); (try simp only [toNat_16, toNat_12, Int.toNat_natCast, Nat.zero_add, Nat.add_zero, Nat.mul_one]))
   | ((with_reducible refine gate_dst (N := 13) rfl ?_); (with_reducible refine load_one HS.out rfl rfl on22 rfl (by first | exact at0 | exact at1 | exact at2 | exact at3 | exact at4 | exact at5 | exact at6) (by with_reducible exact get_Y _) ?_))
   | ((with_reducible refine gate_dst (N := 15) rfl ?_); (with_reducible refine field_at rfl rfl rfl fo46_2 ?_); (try simp only [toNat_16, toNat_12, Int.toNat_natCast, Nat.zero_add, Nat.add_zero, Nat.mul_one]))
   | ((with_reducible refine gate_dst (N := 16) rfl ?_); (with_reducible refine load_one HS.out rfl rfl on23 rfl (by first | exact at0 | exact at1 | exact at2 | exact at3 | exact at4 | exact at5 | exact at6) (by with_reducible exact get_M _) ?_))
   | ((with_reducible refine gate_dst (N := 17) rfl ?_); (with_reducible refine field_at rfl rfl rfl fo46_2 ?_); (try simp only [toNat_16, toNat_12, Int.toNat_natCast, Nat.zero_add, Nat.add_zero, Nat.mul_one]))
   | ((with_reducible refine gate_dst (N := 18) rfl ?_); (with_reducible refine load_one HS.out rfl rfl on23 rfl (by first | exact at0 | exact at1 | exact at2 | exact at3 | exact at4 | exact at5 | exact at6) (by with_reducible exact get_M _) ?_))
   | ((with_reducible refine gate_dst (N := 20) rfl ?_); (with_reducible refine field_at rfl rfl rfl fo46_3 ?_); (try simp only [toNat_16, toNat_12, Int.toNat_natCast, Nat.zero_add, Nat.add_zero, Nat.mul_one]))
   | ((with_reducible refine gate_dst (N := 21) rfl ?_); (with_reducible refine load_one HS.out rfl rfl on24 rfl (by first | exact at0 | exact at1 | exact at2 | exact at3 | exact at4 | exact at5 | exact at6) (by with_reducible exact get_S _) ?_))
   | ((with_reducible refine gate_dst (N := 22) rfl ?_); (with_reducible refine field_at rfl rfl rfl fo46_3 ?_); (try simp only [toNat_16, toNat_12, Int.toNat_natCast, Nat.zero_add, Nat.add_zero, Nat.mul_one]))
   | ((with_reducible refine gate_dst (N := 23) rfl ?_); (with_reducible refine load_one HS.out rfl rfl on24 rfl (by first | exact at0 | exact at1 | exact at2 | exact at3 | exact at4 | exact at5 | exact at6) (by with_reducible exact get_S _) ?_))
   | ((with_reducible refine gate_dst (N := 25) rfl ?_); (with_reducible refine field_at rfl rfl rfl fo46_4 ?_); (try simp only [toNat_16, toNat_12, Int.toNat_natCast, Nat.zero_add, Nat.add_zero, Nat.mul_one]))
   | ((with_reducible refine gate_dst (N := 26) rfl ?_); (with_reducible refine load_one HS.out rfl rfl on22 rfl (by first | exact at0 | exact at1 | exact at2 | exact at3 | exact at4 | exact at5 | exact at6) (by with_reducible exact get_E _) ?_))
   | ((with_reducible refine gate_dst (N := 27) rfl ?_); (with_reducible refine field_at rfl rfl rfl fo46_4 ?_); (try simp only [toNat_16, toNat_12, Int.toNat_natCast, Nat.zero_add, Nat.add_zero, Nat.mul_one]))
   | ((with_reducible refine gate_dst (N := 28) rfl ?_); (with_reducible refine load_one HS.out rfl rfl on22 rfl (by first | exact at0 | exact at1 | exact at2 | exact at3 | exact at4 | exact at5 | exact at6) (by with_reducible exact get_E _) ?_))
   | ((with_reducible refine gate_dst (N := 30) rfl ?_); (with_reducible refine field_at rfl rfl rfl fo46_5 ?_); (try simp only [toNat_16, toNat_12, Int.toNat_natCast, Nat.zero_add, Nat.add_zero, Nat.mul_one]))
   | ((with_reducible refine gate_dst (N := 31) rfl ?_); (with_reducible refine load_seg HS.out rfl rfl ag42 rfl (by first | exact at0 | exact at1 | exact at2 | exact at3 | exact at4 | exact at5 | exact at6) (by with_reducible first | exact get_T _ | exact el_T _ _ (by omega)) (by with_reducible first | exact mc_size _ | exact tc_size _ | exact cc_size _ | exact dc_size _ | exact rc_size _ | exact sz1 | exact sz2 | exact sz3 | exact sz4) ?_))
   | ((with_reducible refine gate_dst (N := 32) rfl ?_); (with_reducible refine field_at rfl rfl rfl fo46_5 ?_); (try simp only [toNat_16, toNat_12, Int.toNat_natCast, Nat.zero_add, Nat.add_zero, Nat.mul_one]))
   | ((with_reducible refine gate_dst (N := 33) rfl ?_); (with_reducible refine load_seg HS.out rfl rfl ag42 rfl (by first | exact at0 | exact at1 | exact at2 | exact at3 | exact at4 | exact at5 | exact at6) (by with_reducible first | exact get_T _ | exact el_T _ _ (by omega)) (by with_reducible first | exact mc_size _ | exact tc_size _ | exact cc_size _ | exact dc_size _ | exact rc_size _ | exact sz1 | exact sz2 | exact sz3 | exact sz4) ?_))
   | ((with_reducible refine gate_dst (N := 34) rfl ?_); refine call_ev HS.out rfl rfl Tryd.func37 (by kernel_rfl) rfl (c_eqMemTimerA16 _ _) (by (try simp only [List.map_toArray, List.map_cons, List.map_nil]); first | done | rfl) ?_; rintro v_ W_ rfl HP HB_; clear HS; have HS := Aside0.mk HP; clear HP; clear HB_)
   | ((with_reducible refine gate_dst (N := 36) rfl ?_); (with_reducible refine field_at rfl rfl rfl fo46_6 ?_); (try simp only [toNat_16, toNat_12, Int.toNat_natCast, Nat.zero_add, Nat.add_zero, Nat.mul_one]))
   | ((with_reducible refine gate_dst (N := 37) rfl ?_); (with_reducible refine load_seg HS.out rfl rfl ag44 rfl (by first | exact at0 | exact at1 | exact at2 | exact at3 | exact at4 | exact at5 | exact at6) (by with_reducible first | exact get_C _ | exact el_C _ _ (by omega)) (by with_reducible first | exact mc_size _ | exact tc_size _ | exact cc_size _ | exact dc_size _ | exact rc_size _ | exact sz1 | exact sz2 | exact sz3 | exact sz4) ?_))
   | ((with_reducible refine gate_dst (N := 38) rfl ?_); (with_reducible refine field_at rfl rfl rfl fo46_6 ?_); (try simp only [toNat_16, toNat_12, Int.toNat_natCast, Nat.zero_add, Nat.add_zero, Nat.mul_one]))
   | ((with_reducible refine gate_dst (N := 39) rfl ?_); (with_reducible refine load_seg HS.out rfl rfl ag44 rfl (by first | exact at0 | exact at1 | exact at2 | exact at3 | exact at4 | exact at5 | exact at6) (by with_reducible first | exact get_C _ | exact el_C _ _ (by omega)) (by with_reducible first | exact mc_size _ | exact tc_size _ | exact cc_size _ | exact dc_size _ | exact rc_size _ | exact sz1 | exact sz2 | exact sz3 | exact sz4) ?_))
   | ((with_reducible refine gate_dst (N := 40) rfl ?_); refine call_ev HS.out rfl rfl Tryd.func38 (by kernel_rfl) rfl (c_eqMemCounterA16 _ _) (by (try simp only [List.map_toArray, List.map_cons, List.map_nil]); first | done | rfl) ?_; rintro v_ W_ rfl HP HB_; clear HS; have HS := Aside0.mk HP; clear HP; clear HB_)
   | ((with_reducible refine gate_dst (N := 42) rfl ?_); (with_reducible refine field_at rfl rfl rfl fo46_7 ?_); (try simp only [toNat_16, toNat_12, Int.toNat_natCast, Nat.zero_add, Nat.add_zero, Nat.mul_one]))
   | ((with_reducible refine gate_dst (N := 43) rfl ?_); (with_reducible refine load_seg HS.out rfl rfl ag32 rfl (by first | exact at0 | exact at1 | exact at2 | exact at3 | exact at4 | exact at5 | exact at6) (by with_reducible exact get_D _) (by with_reducible first | exact mc_size _ | exact tc_size _ | exact cc_size _ | exact dc_size _ | exact rc_size _ | exact sz1 | exact sz2 | exact sz3 | exact sz4) ?_))
   | ((with_reducible refine gate_dst (N := 44) rfl ?_); (with_reducible refine field_at rfl rfl rfl fo46_7 ?_); (try simp only [toNat_16, toNat_12, Int.toNat_natCast, Nat.zero_add, Nat.add_zero, Nat.mul_one]))
   | ((with_reducible refine gate_dst (N := 45) rfl ?_); (with_reducible refine load_seg HS.out rfl rfl ag32 rfl (by first | exact at0 | exact at1 | exact at2 | exact at3 | exact at4 | exact at5 | exact at6) (by with_reducible exact get_D _) (by with_reducible first | exact mc_size _ | exact tc_size _ | exact cc_size _ | exact dc_size _ | exact rc_size _ | exact sz1 | exact sz2 | exact sz3 | exact sz4) ?_))
   | ((with_reducible refine gate_dst (N := 46) rfl ?_); refine call_ev HS.out rfl rfl Tryd.func39 (by kernel_rfl) rfl (c_eqInt16A32 _ _) (by (try simp only [List.map_toArray, List.map_cons, List.map_nil]); first | done | rfl) ?_; rintro v_ W_ rfl HP HB_; clear HS; have HS := Aside0.mk HP; clear HP; clear HB_)
   | ((with_reducible refine gate_dst (N := 48) rfl ?_); (with_reducible refine field_at rfl rfl rfl fo46_8 ?_); (try simp only [toNat_16, toNat_12, Int.toNat_natCast, Nat.zero_add, Nat.add_zero, Nat.mul_one]))
   | ((with_reducible refine gate_dst (N := 49) rfl ?_); (with_reducible refine load_seg HS.out rfl rfl ag34 rfl (by first | exact at0 | exact at1 | exact at2 | exact at3 | exact at4 | exact at5 | exact at6) (by with_reducible exact get_R _) (by with_reducible first | exact mc_size _ | exact tc_size _ | exact cc_size _ | exact dc_size _ | exact rc_size _ | exact sz1 | exact sz2 | exact sz3 | exact sz4) ?_))
   | ((with_reducible refine gate_dst (N := 50) rfl ?_); (with_reducible refine field_at rfl rfl rfl fo46_8 ?_); (try simp only [toNat_16, toNat_12, Int.toNat_natCast, Nat.zero_add, Nat.add_zero, Nat.mul_one]))
   | ((with_reducible refine gate_dst (N := 51) rfl ?_); (with_reducible refine load_seg HS.out rfl rfl ag34 rfl (by first | exact at0 | exact at1 | exact at2 | exact at3 | exact at4 | exact at5 | exact at6) (by with_reducible exact get_R _) (by with_reducible first | exact mc_size _ | exact tc_size _ | exact cc_size _ | exact dc_size _ | exact rc_size _ | exact sz1 | exact sz2 | exact sz3 | exact sz4) ?_))
   | ((with_reducible refine gate_dst (N := 52) rfl ?_); refine call_ev HS.out rfl rfl Tryd.func40 (by kernel_rfl) rfl (c_eqFloat64A16 _ _ HR.out _) (by (try simp only [List.map_toArray, List.map_cons, List.map_nil]); first | done | rfl) ?_; rintro v_ W_ rfl HP HB_; clear HS; have HS := Aside0.mk HP; clear HP; clear HB_)
   | ((with_reducible refine gate_dst (N := 54) rfl ?_); (with_reducible refine field_at rfl rfl rfl fo46_9 ?_); (try simp only [toNat_16, toNat_12, Int.toNat_natCast, Nat.zero_add, Nat.add_zero, Nat.mul_one]))
   | ((with_reducible refine gate_dst (N := 55) rfl ?_); (with_reducible refine load_one HS.out rfl rfl on22 rfl (by first | exact at0 | exact at1 | exact at2 | exact at3 | exact at4 | exact at5 | exact at6) (by with_reducible exact get_Time _) ?_))
   | ((with_reducible refine gate_dst (N := 56) rfl ?_); (with_reducible refine field_at rfl rfl rfl fo46_9 ?_); (try simp only [toNat_16, toNat_12, Int.toNat_natCast, Nat.zero_add, Nat.add_zero, Nat.mul_one]))
   | ((with_reducible refine gate_dst (N := 57) rfl ?_); (with_reducible refine load_one HS.out rfl rfl on22 rfl (by first | exact at0 | exact at1 | exact at2 | exact at3 | exact at4 | exact at5 | exact at6) (by with_reducible exact get_Time _) ?_))
   | ((with_reducible refine gate_dst (N := 59) rfl ?_); (with_reducible refine field_at rfl rfl rfl fo46_10 ?_); (try simp only [toNat_16, toNat_12, Int.toNat_natCast, Nat.zero_add, Nat.add_zero, Nat.mul_one]))
   | ((with_reducible refine gate_dst (N := 60) rfl ?_); (with_reducible refine load_one HS.out rfl rfl on4 rfl (by first | exact at0 | exact at1 | exact at2 | exact at3 | exact at4 | exact at5 | exact at6) (by with_reducible exact get_Ran _) ?_))
   | ((with_reducible refine gate_dst (N := 61) rfl ?_); (with_reducible refine field_at rfl rfl rfl fo46_10 ?_); (try simp only [toNat_16, toNat_12, Int.toNat_natCast, Nat.zero_add, Nat.add_zero, Nat.mul_one]))
   | ((with_reducible refine gate_dst (N := 62) rfl ?_); (with_reducible refine load_one HS.out rfl rfl on4 rfl (by first | exact at0 | exact at1 | exact at2 | exact at3 | exact at4 | exact at5 | exact at6) (by with_reducible exact get_Ran _) ?_))
   | ((with_reducible refine gate_dst (N := 64) rfl ?_); (with_reducible refine field_at rfl rfl rfl fo46_11 ?_); (try simp only [toNat_16, toNat_12, Int.toNat_natCast, Nat.zero_add, Nat.add_zero, Nat.mul_one]))
   | ((with_reducible refine gate_dst (N := 65) rfl ?_); (with_reducible refine load_one HS.out rfl rfl on4 rfl (by first | exact at0 | exact at1 | exact at2 | exact at3 | exact at4 | exact at5 | exact at6) (by with_reducible exact get_Fault _) ?_))
   | ((with_reducible refine gate_dst (N := 66) rfl ?_); (with_reducible refine field_at rfl rfl rfl fo46_11 ?_); (try simp only [toNat_16, toNat_12, Int.toNat_natCast, Nat.zero_add, Nat.add_zero, Nat.mul_one]))
   | ((with_reducible refine gate_dst (N := 67) rfl ?_); (with_reducible refine load_one HS.out rfl rfl on4 rfl (by first | exact at0 | exact at1 | exact at2 | exact at3 | exact at4 | exact at5 | exact at6) (by with_reducible exact get_Fault _) ?_))); (try simp only [Act.put, List.setIfInBounds_toArray, List.set_cons_zero, List.set_cons_succ]))
 go_ret
 exact ⟨_, rfl, rfl, HS.out.below⟩

end Go.Proofs.YtaegonmpjgdmgaaDoor.K
