/- What spec.ElemIsCoil answers, and that it does. -/
import Derived.Test.YtkmfdlcmdgdepaaDoorUCoilSa
namespace Go.Proofs.YtkmfdlcmdgdepaaDoor.U
open Go Go.RowKit Go.Proofs.YtkmfdlcmdgdepaaDoor.Tell Go.Proofs.YtkmfdlcmdgdepaaDoorW Go.Proofs.YtkmfdlcmdgdepaaDoorW.PrintWords Go.Proofs.YtkmfdlcmdgdepaaDoorW.PrintLast Go.Proofs.YtkmfdlcmdgdepaaDoorW.PrintMore Go.Proofs.YtkmfdlcmdgdepaaDoor.MW
set_option linter.unusedVariables false
set_option linter.unusedSimpArgs false
set_option maxRecDepth 100000
set_option maxHeartbeats 16000000 in
set_option maxRecDepth 100000 in
theorem spec_coil3 (op : Int) (x y z : S55) (hop : op = 31 ∨ op = 32 ∨ op = 33 ∨ op = 34 ∨ op = 35) (A : Option Addr) (c : Nat) (w : World) (hr : Kd.C k55 w A ([x, y, z] : List S55).length [x, y, z]) (hc : ([x, y, z] : List S55).length ≤ c) :
  Calls Tryd.prog 32 #[.agg #[.int .i64 op, .slice A 3 c]] w fun e w' => e = .returned (.bool (coil op [x, y, z])) ∧ Below w.heap.size w w' := by
 have HC := Aside0.mk hr
 have HCC := Aside0.mk hc
 clear hr hc
 obtain ⟨ad0, e0, hx0, hx1, hx2⟩ := at_T55 HC.out 0 (by omega) (by simp)
 cases e0
 (try rw [show ((0 : Int)).toNat = 0 from rfl] at hx0)
 (try rw [show 0 * 3 = 0 from rfl] at hx0)
 (try rw [Addr.add_zero'] at hx0)
 (try simp only [rd_cons0, rd_cons1] at hx0)
 (try rw [show ((0 : Int)).toNat = 0 from rfl] at hx1)
 (try rw [show 0 * 3 = 0 from rfl] at hx1)
 (try rw [Addr.add_zero'] at hx1)
 (try simp only [rd_cons0, rd_cons1] at hx1)
 (try rw [show ((0 : Int)).toNat = 0 from rfl] at hx2)
 (try rw [show 0 * 3 = 0 from rfl] at hx2)
 (try rw [Addr.add_zero'] at hx2)
 (try simp only [rd_cons0, rd_cons1] at hx2)
 have Hx0 := Aside0.mk hx0
 have Hx1 := Aside0.mk hx1
 have Hx2 := Aside0.mk hx2
 clear hx0 hx1 hx2
 have HS := Aside0.mk (Priv.nil w)
 obtain ⟨nA_, hA_⟩ := tell_ (sAr_ev op)
 have hv_ : ar op = 3 := by rw [ar_coil (by omega)]; (repeat' split) <;> omega
 rw [hv_] at hA_
 have hAr := Aside0.mk hA_
 clear hA_ hv_
 rcases hop with rfl | rfl | rfl | rfl | rfl
 rotate_left 1
 rotate_left 1
 rotate_left 1
 rotate_left 1
 rotate_left 1
 all_goals
  go_enter Tryd.func32, Tryd.ntmps32
  go_upto_region 1 with (first | ((with_reducible refine gate_dst (N := 1) rfl ?_); (with_reducible refine box_new HS.out rfl rfl (by first | exact eval_tmp rfl | exact eval_const) ?_); intro g1 W1_ HP; clear HS; have HS := Aside0.mk HP; clear HP; (try simp only [Act.put, List.setIfInBounds_toArray, List.set_cons_zero, List.set_cons_succ])))
  (try simp only [Act.put, List.setIfInBounds_toArray, List.set_cons_zero, List.set_cons_succ])
  obtain ⟨t1_, hb1_⟩ := HS.out.at_ at0
  have hz0_ : W1_.cell? ⟨g1, 0, none⟩ = some (.int .i64 _) := (blk_cell hb1_ 0).trans rfl
  have hz1_ : W1_.cell? ⟨g1, 1, none⟩ = some (.slice (some ad0) 3 c) := (blk_cell hb1_ 1).trans rfl
  have hf0_ := blk_frozen hb1_ 0
  have hf1_ := blk_frozen hb1_ 1
  go_upto_region 3 with (first | (go_at_call 40; (with_reducible refine (spec_ElemArity.calls _ _ _ _ hAr.out).mono ?_); rintro e_ w_ ⟨rfl, ⟨nd, rfl⟩⟩; (try first | exact ⟨rfl, _, World.drewN_drewN _ _ _⟩ | exact ⟨rfl, _, Eq.trans (World.drewN_drewN _ _ _) (congrArg (World.drewN _) (Nat.add_assoc _ _ _))⟩)))
  repeat (go_quiet (first | (go_at_call 40; (with_reducible refine (spec_ElemArity.calls _ _ _ _ hAr.out).mono ?_); rintro e_ w_ ⟨rfl, ⟨nd, rfl⟩⟩; (try first | exact ⟨rfl, _, World.drewN_drewN _ _ _⟩ | exact ⟨rfl, _, Eq.trans (World.drewN_drewN _ _ _) (congrArg (World.drewN _) (Nat.add_assoc _ _ _))⟩))); try go_upto_region 3 with (first | (go_at_call 40; (with_reducible refine (spec_ElemArity.calls _ _ _ _ hAr.out).mono ?_); rintro e_ w_ ⟨rfl, ⟨nd, rfl⟩⟩; (try first | exact ⟨rfl, _, World.drewN_drewN _ _ _⟩ | exact ⟨rfl, _, Eq.trans (World.drewN_drewN _ _ _) (congrArg (World.drewN _) (Nat.add_assoc _ _ _))⟩))))
  first | refine regen_c HS.out ?_ | refine regen_c (HS.out.drewN _) ?_ | refine regen_c ((HS.out.drewN _).drewN _) ?_
  intro W_ HP
  clear HS; have HS := Aside0.mk HP; clear HP; have hx0_ := (HS.out.below.cell (World.block_lt_of_cell? w _ Hx0.out)).trans Hx0.out; have hx1_ := (HS.out.below.cell (World.block_lt_of_cell? w _ Hx1.out)).trans Hx1.out; have hx2_ := (HS.out.below.cell (World.block_lt_of_cell? w _ Hx2.out)).trans Hx2.out
  (try simp only [Act.put, List.setIfInBounds_toArray, List.set_cons_zero, List.set_cons_succ])
  go_wp2_with ((first | ((with_reducible refine gate_dst (N := 1) rfl ?_); (try (refine gate_guard (by rfl) ?_; dsimp only)); (with_reducible refine box_new HS.out rfl rfl (by first | exact eval_tmp rfl | exact eval_const) ?_); intro g1 W1_ HP) | ((with_reducible first | refine gate_dst (N := 4) rfl ?_ | refine gate_dst (N := 8) rfl ?_ | refine gate_dst (N := 16) rfl ?_ | refine gate_dst (N := 25) rfl ?_); (try (refine gate_guard (by rfl) ?_; dsimp only)); (with_reducible refine field_at rfl rfl rfl fo29_0 ?_); (try simp only [toNat_16, toNat_12, Int.toNat_natCast, Nat.zero_add, Nat.add_zero, Nat.mul_one])) | ((with_reducible first | refine gate_dst (N := 5) rfl ?_ | refine gate_dst (N := 9) rfl ?_ | refine gate_dst (N := 17) rfl ?_ | refine gate_dst (N := 26) rfl ?_ | refine gate_dst (N := 84) rfl ?_ | refine gate_dst (N := 103) rfl ?_); (try (refine gate_guard (by rfl) ?_; dsimp only)); (with_reducible refine load_one HS.out rfl rfl on3 rfl (by first | exact at0 | exact at1 | exact at2 | exact at3 | exact at4 | exact at5 | exact at6) (by with_reducible first | exact at0a | exact at1a | exact at2a | exact at3a) ?_)) | ((with_reducible first | refine gate_dst (N := 13) rfl ?_ | refine gate_dst (N := 21) rfl ?_ | refine gate_dst (N := 56) rfl ?_ | refine gate_dst (N := 73) rfl ?_ | refine gate_dst (N := 80) rfl ?_ | refine gate_dst (N := 92) rfl ?_ | refine gate_dst (N := 99) rfl ?_ | refine gate_dst (N := 111) rfl ?_ | refine gate_dst (N := 122) rfl ?_); (try (refine gate_guard (by rfl) ?_; dsimp only)); (with_reducible refine field_at rfl rfl rfl fo29_1 ?_); (try simp only [toNat_16, toNat_12, Int.toNat_natCast, Nat.zero_add, Nat.add_zero, Nat.mul_one])) | ((with_reducible first | refine gate_dst (N := 14) rfl ?_ | refine gate_dst (N := 22) rfl ?_ | refine gate_dst (N := 57) rfl ?_ | refine gate_dst (N := 74) rfl ?_ | refine gate_dst (N := 81) rfl ?_ | refine gate_dst (N := 93) rfl ?_ | refine gate_dst (N := 100) rfl ?_ | refine gate_dst (N := 112) rfl ?_ | refine gate_dst (N := 123) rfl ?_); (try (refine gate_guard (by rfl) ?_; dsimp only)); (with_reducible refine load_one HS.out rfl rfl on27 rfl (by first | exact at0 | exact at1 | exact at2 | exact at3 | exact at4 | exact at5 | exact at6) (by with_reducible first | exact at0a | exact at1a | exact at2a | exact at3a) ?_)) | ((with_reducible first | refine gate_dst (N := 24) rfl ?_ | refine gate_dst (N := 29) rfl ?_ | refine gate_dst (N := 33) rfl ?_ | refine gate_dst (N := 36) rfl ?_ | refine gate_dst (N := 41) rfl ?_ | refine gate_dst (N := 44) rfl ?_ | refine gate_dst (N := 48) rfl ?_ | refine gate_dst (N := 53) rfl ?_ | refine gate_dst (N := 59) rfl ?_ | refine gate_dst (N := 64) rfl ?_ | refine gate_dst (N := 70) rfl ?_ | refine gate_dst (N := 76) rfl ?_ | refine gate_dst (N := 89) rfl ?_ | refine gate_dst (N := 95) rfl ?_ | refine gate_dst (N := 108) rfl ?_ | refine gate_dst (N := 114) rfl ?_ | refine gate_dst (N := 119) rfl ?_ | refine gate_dst (N := 125) rfl ?_); (try (refine gate_guard (by rfl) ?_; dsimp only)); (with_reducible refine load_seg HS.out rfl rfl ag55 rfl (by first | exact at0 | exact at1 | exact at2 | exact at3 | exact at4 | exact at5 | exact at6) (by with_reducible first | exact whole _) (by with_reducible first | exact sz1 | exact sz2 | exact sz3 | exact sz4) ?_)) | ((with_reducible refine gate_dst (N := 3) rfl ?_); (try (refine gate_guard (by rfl) ?_; dsimp only)); (with_reducible refine alloc_new HS.out rfl rfl ze55 ?_); intro g3 W3_ HP) | ((with_reducible refine gate_store (t := 55) (p := 3) rfl ?_); (with_reducible refine store_seg HS.out rfl rfl rfl ag55 rfl (by first | exact eval_tmp rfl | exact eval_const) (by first | exact at0 | exact at1 | exact at2 | exact at3 | exact at4 | exact at5 | exact at6) (by with_reducible first | exact lay2_0 | exact lay2_1 | exact lay3_0 | exact lay3_1 | exact lay3_2 | exact lay2_w | exact lay3_w) (by with_reducible first | exact sz1 | exact sz2 | exact sz3 | exact sz4) (by simp only [List.size_toArray, List.length_cons, List.length_nil]; omega) (by first | (with_reducible first | exact mc_one _ | exact tc_one _ | exact cc_one _ | exact dc_one _ | exact rc_one _ | exact t2_one _ _ | exact t3_one _ _ _) | (simp [Value.oneCell']; done)) ?_); intro W_ HP) | ((with_reducible first | refine gate_dst (N := 30) rfl ?_ | refine gate_dst (N := 34) rfl ?_ | refine gate_dst (N := 37) rfl ?_ | refine gate_dst (N := 42) rfl ?_ | refine gate_dst (N := 45) rfl ?_ | refine gate_dst (N := 49) rfl ?_ | refine gate_dst (N := 54) rfl ?_ | refine gate_dst (N := 60) rfl ?_ | refine gate_dst (N := 65) rfl ?_ | refine gate_dst (N := 71) rfl ?_ | refine gate_dst (N := 77) rfl ?_ | refine gate_dst (N := 90) rfl ?_ | refine gate_dst (N := 96) rfl ?_ | refine gate_dst (N := 109) rfl ?_ | refine gate_dst (N := 120) rfl ?_); (try (refine gate_guard (by rfl) ?_; dsimp only)); refine call_ev HS.out rfl rfl Tryd.func53 (by kernel_rfl) rfl (sK _ _ _ _) (by (try simp only [List.map_toArray, List.map_cons, List.map_nil]); first | done | rfl) ?_; rintro v_ W_ rfl HP HB_) | ((with_reducible first | refine gate_dst (N := 83) rfl ?_ | refine gate_dst (N := 102) rfl ?_); (try (refine gate_guard (by rfl) ?_; dsimp only)); (with_reducible refine field_at rfl rfl rfl fo55_1 ?_); (try simp only [toNat_16, toNat_12, Int.toNat_natCast, Nat.zero_add, Nat.add_zero, Nat.mul_one])) | ((with_reducible refine gate_dst (N := 115) rfl ?_); (try (refine gate_guard (by rfl) ?_; dsimp only)); refine call_ev HS.out rfl rfl Tryd.func24 (by kernel_rfl) rfl (sW _ _) (by (try simp only [List.map_toArray, List.map_cons, List.map_nil]); first | done | rfl) ?_; rintro v_ W_ rfl HP HB_) | ((with_reducible refine gate_dst (N := 126) rfl ?_); (try (refine gate_guard (by rfl) ?_; dsimp only)); refine call_ev HS.out rfl rfl Tryd.func43 (by kernel_rfl) rfl (sR _ _) (by (try simp only [List.map_toArray, List.map_cons, List.map_nil]); first | done | rfl) ?_; rintro v_ W_ rfl HP HB_) | ((with_reducible refine gate_dst (N := 128) rfl ?_); (try (refine gate_guard (by rfl) ?_; dsimp only)); (with_reducible refine load_seg HS.out rfl rfl ag29 rfl (by first | exact at0 | exact at1 | exact at2 | exact at3 | exact at4 | exact at5 | exact at6) (by with_reducible first | exact whole _) (by with_reducible first | exact sz1 | exact sz2 | exact sz3 | exact sz4) ?_)) | ((with_reducible refine gate_dst (N := 129) rfl ?_); (try (refine gate_guard (by rfl) ?_; dsimp only)); refine call_ev HS.out rfl rfl Tryd.func54 (by kernel_rfl) rfl (sC _ _ _ (by simp) _ _ _ rfl _ (Kd.C_below HC.out HS.out.below) HCC.out) (by (try simp only [List.map_toArray, List.map_cons, List.map_nil]); first | done | rfl) ?_; rintro v_ W_ rfl HP HB_)); (try (clear HS; have HS := Aside0.mk HP; clear HP; have hx0_ := (HS.out.below.cell (World.block_lt_of_cell? w _ Hx0.out)).trans Hx0.out; have hx1_ := (HS.out.below.cell (World.block_lt_of_cell? w _ Hx1.out)).trans Hx1.out; have hx2_ := (HS.out.below.cell (World.block_lt_of_cell? w _ Hx2.out)).trans Hx2.out; (try clear HB_); (try simp only [List.set_cons_zero, List.set_cons_succ] at HS))); (try simp only [Act.put, List.setIfInBounds_toArray, List.set_cons_zero, List.set_cons_succ]); (try simp only [e0_]); (try simp only [e1_]); (try simp only [e2_]))
  go_ret
  exact ⟨by first | rfl | (simp [coil]; done) | (simp [coil, e0_]; done) | (simp [coil, e0_, e1_]; done) | (simp [coil, e0_, e1_, e2_]; done) | (simp [coil, reck]; done) | (simp [coil, reck, e0_]; done) | (simp [coil, reck, e0_, e1_]; done) | (simp [coil, reck, e0_, e1_, e2_]; done) | (simp only [coil, reck]; rw [e0_]; simp; done) | (simp only [coil, reck]; rw [e0_, e1_]; simp; done) | (simp only [coil, reck]; rw [e0_, e2_]; simp; done) | (simp only [coil, reck]; rw [e0_, e1_, e2_]; simp; done) | (simp [coil, reck, e0_, e2_]; done) | (simp only [coil]; simp [*]; done), HS.out.below⟩

end Go.Proofs.YtkmfdlcmdgdepaaDoor.U
