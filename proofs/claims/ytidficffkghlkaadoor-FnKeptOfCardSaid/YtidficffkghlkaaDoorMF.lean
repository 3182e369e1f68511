/- Walks over the ladders' memory: what the functions of this seat answer. -/
import Derived.Test.YtidficffkghlkaaDoorProg
import Derived.Test.YtidficffkghlkaaDoorMW
import Derived.WalkKit
import Derived.Deep.LoopGhost
import Derived.Deep.DeepCutAuto
import Derived.BigFrame
import Derived.Deep.QuietTactic
import Derived.BigQuiet
import Derived.Test.YtidficffkghlkaaDoorMK
namespace Go.Proofs.YtidficffkghlkaaDoor.K
open Go Go.RowKit Go.Proofs.YtidficffkghlkaaDoorW Go.Proofs.YtidficffkghlkaaDoorW.PrintWords Go.Proofs.YtidficffkghlkaaDoor.MW
set_option linter.unusedVariables false
set_option linter.unusedSimpArgs false
set_option maxRecDepth 100000

set_option maxHeartbeats 4000000 in
set_option maxRecDepth 100000 in
theorem c_MemWhole11 (m : Mm) (n p : Int) (r : Int) (hr : IntKind.i16.wrap n = r) (w : World) (ht : Tab w) : Calls Tryd.prog 15 #[.agg (mc m), .agg #[.int .i64 11, .int .i64 n, .int .i64 p]] w (Ret w (· = .int .i16 r)) := by
  have HS := Aside0.mk (Priv.nil w)
  have HT := Aside0.mk ht
  clear ht
  go_enter Tryd.func15, Tryd.ntmps15
  go_wp2_with ((first | ((with_reducible refine gate_dst (N := 7) rfl ?_); refine call_ev2 HS.out rfl rfl Tryd.func39 (by kernel_rfl) rfl (by (try simp only [List.map_toArray, List.map_cons, List.map_nil]); first | done | rfl) (c_place _ _ _ _ (HT.out.below HS.out.below)) ?_; rintro v_ W_ rfl HP HB_; clear HS; have HS := Aside0.mk HP; clear HP; clear HB_) | (first
      | ((with_reducible refine gate_dst (N := 2) rfl ?_); (with_reducible refine box_new HS.out rfl rfl (by first | exact eval_tmp rfl | exact eval_const) ?_); intro g2 W2_ HP; clear HS; have HS := Aside0.mk HP; clear HP)
      | ((with_reducible refine gate_dst (N := 3) rfl ?_); (with_reducible refine box_new HS.out rfl rfl (by first | exact eval_tmp rfl | exact eval_const) ?_); intro g3 W3_ HP; clear HS; have HS := Aside0.mk HP; clear HP)
      | ((with_reducible refine gate_dst (N := 6) rfl ?_); (with_reducible refine load_seg HS.out rfl rfl ag42 rfl (by first | exact at0 | exact at1 | exact at2 | exact at3 | exact at4 | exact at5 | exact at6) (by with_reducible first | exact tc_el _ _ (by omega) | exact cc_el _ _ (by omega) | exact whole _) (by with_reducible first | exact mc_size _ | exact tc_size _ | exact cc_size _ | exact dc_size _ | exact rc_size _ | exact sz1 | exact sz2 | exact sz3 | exact sz4) ?_))
      | ((with_reducible refine gate_dst (N := 8) rfl ?_); (with_reducible refine field_at rfl rfl rfl fo42_0 ?_); (try simp only [toNat_16, toNat_12, Int.toNat_natCast, Nat.zero_add, Nat.add_zero, Nat.mul_one]))
      | ((with_reducible refine gate_dst (N := 9) rfl ?_); (with_reducible refine load_one HS.out rfl rfl on3 rfl (by first | exact at0 | exact at1 | exact at2 | exact at3 | exact at4 | exact at5 | exact at6) (by with_reducible first | exact dc_get _ _ (by omega) | exact rc_get _ _ (by omega) | exact at0a | exact at1a | exact at2a | exact at3a) ?_))
      | ((with_reducible refine gate_dst (N := 36) rfl ?_); (with_reducible refine field_at rfl rfl rfl fo42_1 ?_); (try simp only [toNat_16, toNat_12, Int.toNat_natCast, Nat.zero_add, Nat.add_zero, Nat.mul_one]))
      | ((with_reducible refine gate_dst (N := 37) rfl ?_); (with_reducible refine load_one HS.out rfl rfl on3 rfl (by first | exact at0 | exact at1 | exact at2 | exact at3 | exact at4 | exact at5 | exact at6) (by with_reducible first | exact dc_get _ _ (by omega) | exact rc_get _ _ (by omega) | exact at0a | exact at1a | exact at2a | exact at3a) ?_)))); (try simp only [Act.put, List.setIfInBounds_toArray, List.set_cons_zero, List.set_cons_succ]))
  go_ret
  exact ⟨_, rfl, rfl, HS.out.below⟩
set_option maxHeartbeats 4000000 in
set_option maxRecDepth 100000 in
theorem c_MemWhole0 (m : Mm) (n p : Int) (w : World) (ht : Tab w) : Calls Tryd.prog 15 #[.agg (mc m), .agg #[.int .i64 0, .int .i64 n, .int .i64 p]] w (Ret w (· = .int .i16 0)) := by
  have HS := Aside0.mk (Priv.nil w)
  have HT := Aside0.mk ht
  clear ht
  go_enter Tryd.func15, Tryd.ntmps15
  go_wp2_with ((first | ((with_reducible refine gate_dst (N := 7) rfl ?_); refine call_ev2 HS.out rfl rfl Tryd.func39 (by kernel_rfl) rfl (by (try simp only [List.map_toArray, List.map_cons, List.map_nil]); first | done | rfl) (c_place _ _ _ _ (HT.out.below HS.out.below)) ?_; rintro v_ W_ rfl HP HB_; clear HS; have HS := Aside0.mk HP; clear HP; clear HB_) | (first
      | ((with_reducible refine gate_dst (N := 2) rfl ?_); (with_reducible refine box_new HS.out rfl rfl (by first | exact eval_tmp rfl | exact eval_const) ?_); intro g2 W2_ HP; clear HS; have HS := Aside0.mk HP; clear HP)
      | ((with_reducible refine gate_dst (N := 3) rfl ?_); (with_reducible refine box_new HS.out rfl rfl (by first | exact eval_tmp rfl | exact eval_const) ?_); intro g3 W3_ HP; clear HS; have HS := Aside0.mk HP; clear HP)
      | ((with_reducible refine gate_dst (N := 6) rfl ?_); (with_reducible refine load_seg HS.out rfl rfl ag42 rfl (by first | exact at0 | exact at1 | exact at2 | exact at3 | exact at4 | exact at5 | exact at6) (by with_reducible first | exact tc_el _ _ (by omega) | exact cc_el _ _ (by omega) | exact whole _) (by with_reducible first | exact mc_size _ | exact tc_size _ | exact cc_size _ | exact dc_size _ | exact rc_size _ | exact sz1 | exact sz2 | exact sz3 | exact sz4) ?_))
      | ((with_reducible refine gate_dst (N := 8) rfl ?_); (with_reducible refine field_at rfl rfl rfl fo42_0 ?_); (try simp only [toNat_16, toNat_12, Int.toNat_natCast, Nat.zero_add, Nat.add_zero, Nat.mul_one]))
      | ((with_reducible refine gate_dst (N := 9) rfl ?_); (with_reducible refine load_one HS.out rfl rfl on3 rfl (by first | exact at0 | exact at1 | exact at2 | exact at3 | exact at4 | exact at5 | exact at6) (by with_reducible first | exact dc_get _ _ (by omega) | exact rc_get _ _ (by omega) | exact at0a | exact at1a | exact at2a | exact at3a) ?_)))); (try simp only [Act.put, List.setIfInBounds_toArray, List.set_cons_zero, List.set_cons_succ]))
  go_ret
  exact ⟨_, rfl, rfl, HS.out.below⟩
theorem c_placeE (k n p : Int) (r : Int) (hr : place k n = r) (w : World) (ht : Tab w) : Calls Tryd.prog 39 #[.agg #[.int .i64 k, .int .i64 n, .int .i64 p]] w (Ret w (· = .int .i64 r)) := by
  subst hr
  exact c_place k n p w ht
theorem c_inE (x l h : Int) (r : Bool) (hr : decide (l ≤ x ∧ x ≤ h) = r) (W : World) : Calls Tryd.prog 43 #[.int .i64 x, .int .i64 l, .int .i64 h] W (Ret W (· = .bool r)) := by
  subst hr
  exact c_in x l h W

theorem c_arg3 (op : Int) (v : Value) (l : List Dev) (i : Nat) (ii : Int) (hii : ii = i) (k n p : Int) (hd : l.getD i (0, 0, 0) = (k, n, p)) {w W : World} {L : List (Nat × Array Value)} (ha : ArgsAt w v l) (HS : Priv w W L) : Calls Tryd.prog 40 #[.agg #[.int .i64 op, v], .int .i64 ii] W (Ret W (· = .agg #[.int .i64 k, .int .i64 n, .int .i64 p])) :=
  c_arg2 op v l i ii hii (k, n, p) hd ha HS

end Go.Proofs.YtidficffkghlkaaDoor.K
