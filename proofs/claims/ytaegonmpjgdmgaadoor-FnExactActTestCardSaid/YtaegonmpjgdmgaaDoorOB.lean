/- Walks over the ladders' memory: what the functions of this seat answer. -/
import Derived.Test.YtaegonmpjgdmgaaDoorProg
import Derived.Test.YtaegonmpjgdmgaaDoorMW
import Derived.WalkKit
import Derived.Deep.LoopGhost
import Derived.Deep.DeepCutAuto
import Derived.BigFrame
import Derived.Deep.QuietTactic
import Derived.BigQuiet
import Derived.Test.YtaegonmpjgdmgaaDoorMB
import Derived.Test.YtaegonmpjgdmgaaDoorNF
import Derived.Test.YtaegonmpjgdmgaaDoorOP
namespace Go.Proofs.YtaegonmpjgdmgaaDoor.K
open Go Go.RowKit Go.Proofs.YtaegonmpjgdmgaaDoorW Go.Proofs.YtaegonmpjgdmgaaDoorW.PrintWords Go.Proofs.YtaegonmpjgdmgaaDoor.MW
set_option linter.unusedVariables false
set_option linter.unusedSimpArgs false
set_option maxRecDepth 100000

theorem c_placeE (k n p : Int) (r : Int) (hr : place k n = r) (w : World) (ht : Tab w) : Calls Tryd.prog 46 #[.agg #[.int .i64 k, .int .i64 n, .int .i64 p]] w (Ret w (· = .int .i64 r)) := by
 subst hr
 exact c_place k n p w ht
theorem place_nat (k n : Int) (h : devN k ≠ 0) (d : Nat) (hd : devN k = d) : ∃ j : Nat, place k n = (j : Int) ∧ j < d := by
 have h1 := place_in k n
 have h2 := h1.2 h
 exact ⟨(place k n).toNat, by omega, by omega⟩
/-- A whole number asked of a memory. -/
def memwhole (m : Mm) (k n : Int) : Int :=
 if k = 7 then (if (m.T (place 7 n).toNat).2 ≤ 32767 then (m.T (place 7 n).toNat).2 else 32767) else if k = 8 then (if (m.C (place 8 n).toNat).2.2 ≤ 32767 then (m.C (place 8 n).toNat).2.2 else 32767) else if k = 9 then m.D (place 9 n).toNat else if k = 11 then IntKind.i16.wrap n else 0
theorem i16_id (x : Int) (h0 : -32768 ≤ x) (h1 : x ≤ 32767) : IntKind.i16.wrap x = x := by
 simp [IntKind.wrap, IntKind.bits, IntKind.signed]
 omega
set_option maxHeartbeats 4000000 in
set_option maxRecDepth 100000 in
theorem c_MemWhole (m : Mm) (wf : m.wf) (k n p : Int) (w : World) (ht : Tab w) : Calls Tryd.prog 36 #[.agg (mc m), .agg #[.int .i64 k, .int .i64 n, .int .i64 p]] w (Ret w (· = .int .i16 (memwhole m k n))) := by
 have HS := Aside0.mk (Priv.nil w)
 have HT := Aside0.mk ht
 clear ht
 by_cases h7 : k = 7
 ·subst h7
  obtain ⟨j, hj, hlt⟩ := place_nat 7 n (by decide) 16 (by decide)
  have hw := wf.T j hlt
  obtain ⟨v, hv⟩ : ∃ v, (m.T j).2 = v := ⟨_, rfl⟩
  have e_ : memwhole m 7 n = if v ≤ 32767 then v else 32767 := by unfold memwhole; rw [if_pos rfl, hj, Int.toNat_natCast, hv]
  rw [e_]
  rw [hv] at hw
  clear e_ wf
  by_cases h : v ≤ 32767
  ·rw [if_pos h]
   have hc := i16_id v (by omega) h
   by_cases h2 : v < 32767
   ·go_enter Tryd.func36, Tryd.ntmps36
    go_wp2_with ((first | ((with_reducible refine gate_dst (N := 7) rfl ?_); refine call_ev2 HS.out rfl rfl Tryd.func46 (by kernel_rfl) rfl (by (try simp only [List.map_toArray, List.map_cons, List.map_nil]); first | done | rfl) (c_placeE _ _ _ _ hj _ (HT.out.below HS.out.below)) ?_; rintro v_ W_ rfl HP HB_; clear HS; have HS := Aside0.mk HP; clear HP; clear HB_) | ((with_reducible refine gate_dst (N := 2) rfl ?_); (with_reducible refine box_new HS.out rfl rfl (by first | exact eval_tmp rfl | exact eval_const) ?_); intro g2 W2_ HP; clear HS; have HS := Aside0.mk HP; clear HP) | ((with_reducible refine gate_dst (N := 3) rfl ?_); (with_reducible refine box_new HS.out rfl rfl (by first | exact eval_tmp rfl | exact eval_const) ?_); intro g3 W3_ HP; clear HS; have HS := Aside0.mk HP; clear HP) | ((with_reducible refine gate_dst (N := 6) rfl ?_); (with_reducible refine load_seg HS.out rfl rfl ag61 rfl (by first | exact at0 | exact at1 | exact at2 | exact at3 | exact at4 | exact at5 | exact at6) (by with_reducible first | exact tc_el _ _ (by omega) | exact cc_el _ _ (by omega) | exact whole _) (by with_reducible first | exact mc_size _ | exact tc_size _ | exact cc_size _ | exact dc_size _ | exact rc_size _ | exact sz1 | exact sz2 | exact sz3 | exact sz4) ?_)) | ((with_reducible refine gate_dst (N := 8) rfl ?_); (with_reducible refine field_at rfl rfl rfl fo61_0 ?_); (try simp only [toNat_16, toNat_12, Int.toNat_natCast, Nat.zero_add, Nat.add_zero, Nat.mul_one])) | ((with_reducible refine gate_dst (N := 9) rfl ?_); (with_reducible refine load_one HS.out rfl rfl on3 rfl (by first | exact at0 | exact at1 | exact at2 | exact at3 | exact at4 | exact at5 | exact at6) (by with_reducible first | exact dc_get _ _ (by omega) | exact rc_get _ _ (by omega) | exact at0a | exact at1a | exact at2a | exact at3a) ?_)) | ((with_reducible refine gate_dst (N := 13) rfl ?_); (with_reducible refine field_at rfl rfl rfl fo46_5 ?_); (try simp only [toNat_16, toNat_12, Int.toNat_natCast, Nat.zero_add, Nat.add_zero, Nat.mul_one])) | ((with_reducible refine gate_dst (N := 14) rfl ?_); (with_reducible refine index_at rfl rfl rfl rfl ar42 (by omega) (by omega) ?_); (try simp only [toNat_16, toNat_12, Int.toNat_natCast, Nat.zero_add, Nat.add_zero, Nat.mul_one])) | ((with_reducible refine gate_dst (N := 15) rfl ?_); (with_reducible refine field_at rfl rfl rfl fo41_1 ?_); (try simp only [toNat_16, toNat_12, Int.toNat_natCast, Nat.zero_add, Nat.add_zero, Nat.mul_one])) | ((with_reducible refine gate_dst (N := 16) rfl ?_); (with_reducible refine load_one HS.out rfl rfl on24 rfl (by first | exact at0 | exact at1 | exact at2 | exact at3 | exact at4 | exact at5 | exact at6) (by with_reducible first | exact el_T0 _ _ (by omega) | exact el_T1 _ _ (by omega)) ?_))); (try simp only [Act.put, List.setIfInBounds_toArray, List.set_cons_zero, List.set_cons_succ]))
    go_ret
    exact ⟨_, rfl, rfl, HS.out.below⟩
   ·obtain rfl : v = 32767 := by omega
    go_enter Tryd.func36, Tryd.ntmps36
    go_wp2_with ((first | ((with_reducible refine gate_dst (N := 7) rfl ?_); refine call_ev2 HS.out rfl rfl Tryd.func46 (by kernel_rfl) rfl (by (try simp only [List.map_toArray, List.map_cons, List.map_nil]); first | done | rfl) (c_placeE _ _ _ _ hj _ (HT.out.below HS.out.below)) ?_; rintro v_ W_ rfl HP HB_; clear HS; have HS := Aside0.mk HP; clear HP; clear HB_) | ((with_reducible refine gate_dst (N := 2) rfl ?_); (with_reducible refine box_new HS.out rfl rfl (by first | exact eval_tmp rfl | exact eval_const) ?_); intro g2 W2_ HP; clear HS; have HS := Aside0.mk HP; clear HP) | ((with_reducible refine gate_dst (N := 3) rfl ?_); (with_reducible refine box_new HS.out rfl rfl (by first | exact eval_tmp rfl | exact eval_const) ?_); intro g3 W3_ HP; clear HS; have HS := Aside0.mk HP; clear HP) | ((with_reducible refine gate_dst (N := 6) rfl ?_); (with_reducible refine load_seg HS.out rfl rfl ag61 rfl (by first | exact at0 | exact at1 | exact at2 | exact at3 | exact at4 | exact at5 | exact at6) (by with_reducible first | exact tc_el _ _ (by omega) | exact cc_el _ _ (by omega) | exact whole _) (by with_reducible first | exact mc_size _ | exact tc_size _ | exact cc_size _ | exact dc_size _ | exact rc_size _ | exact sz1 | exact sz2 | exact sz3 | exact sz4) ?_)) | ((with_reducible refine gate_dst (N := 8) rfl ?_); (with_reducible refine field_at rfl rfl rfl fo61_0 ?_); (try simp only [toNat_16, toNat_12, Int.toNat_natCast, Nat.zero_add, Nat.add_zero, Nat.mul_one])) | ((with_reducible refine gate_dst (N := 9) rfl ?_); (with_reducible refine load_one HS.out rfl rfl on3 rfl (by first | exact at0 | exact at1 | exact at2 | exact at3 | exact at4 | exact at5 | exact at6) (by with_reducible first | exact dc_get _ _ (by omega) | exact rc_get _ _ (by omega) | exact at0a | exact at1a | exact at2a | exact at3a) ?_)) | ((with_reducible refine gate_dst (N := 13) rfl ?_); (with_reducible refine field_at rfl rfl rfl fo46_5 ?_); (try simp only [toNat_16, toNat_12, Int.toNat_natCast, Nat.zero_add, Nat.add_zero, Nat.mul_one])) | ((with_reducible refine gate_dst (N := 14) rfl ?_); (with_reducible refine index_at rfl rfl rfl rfl ar42 (by omega) (by omega) ?_); (try simp only [toNat_16, toNat_12, Int.toNat_natCast, Nat.zero_add, Nat.add_zero, Nat.mul_one])) | ((with_reducible refine gate_dst (N := 15) rfl ?_); (with_reducible refine field_at rfl rfl rfl fo41_1 ?_); (try simp only [toNat_16, toNat_12, Int.toNat_natCast, Nat.zero_add, Nat.add_zero, Nat.mul_one])) | ((with_reducible refine gate_dst (N := 16) rfl ?_); (with_reducible refine load_one HS.out rfl rfl on24 rfl (by first | exact at0 | exact at1 | exact at2 | exact at3 | exact at4 | exact at5 | exact at6) (by with_reducible first | exact el_T0 _ _ (by omega) | exact el_T1 _ _ (by omega)) ?_))); (try simp only [Act.put, List.setIfInBounds_toArray, List.set_cons_zero, List.set_cons_succ]))
    go_ret
    exact ⟨_, rfl, rfl, HS.out.below⟩
  ·rw [if_neg h]
   have hc := i16_id 32767 (by omega) (by omega)
   have h2 : ¬ v < 32767 := by omega
   go_enter Tryd.func36, Tryd.ntmps36
   go_wp2_with ((first | ((with_reducible refine gate_dst (N := 7) rfl ?_); refine call_ev2 HS.out rfl rfl Tryd.func46 (by kernel_rfl) rfl (by (try simp only [List.map_toArray, List.map_cons, List.map_nil]); first | done | rfl) (c_placeE _ _ _ _ hj _ (HT.out.below HS.out.below)) ?_; rintro v_ W_ rfl HP HB_; clear HS; have HS := Aside0.mk HP; clear HP; clear HB_) | ((with_reducible refine gate_dst (N := 2) rfl ?_); (with_reducible refine box_new HS.out rfl rfl (by first | exact eval_tmp rfl | exact eval_const) ?_); intro g2 W2_ HP; clear HS; have HS := Aside0.mk HP; clear HP) | ((with_reducible refine gate_dst (N := 3) rfl ?_); (with_reducible refine box_new HS.out rfl rfl (by first | exact eval_tmp rfl | exact eval_const) ?_); intro g3 W3_ HP; clear HS; have HS := Aside0.mk HP; clear HP) | ((with_reducible refine gate_dst (N := 6) rfl ?_); (with_reducible refine load_seg HS.out rfl rfl ag61 rfl (by first | exact at0 | exact at1 | exact at2 | exact at3 | exact at4 | exact at5 | exact at6) (by with_reducible first | exact tc_el _ _ (by omega) | exact cc_el _ _ (by omega) | exact whole _) (by with_reducible first | exact mc_size _ | exact tc_size _ | exact cc_size _ | exact dc_size _ | exact rc_size _ | exact sz1 | exact sz2 | exact sz3 | exact sz4) ?_)) | ((with_reducible refine gate_dst (N := 8) rfl ?_); (with_reducible refine field_at rfl rfl rfl fo61_0 ?_); (try simp only [toNat_16, toNat_12, Int.toNat_natCast, Nat.zero_add, Nat.add_zero, Nat.mul_one])) | ((with_reducible refine gate_dst (N := 9) rfl ?_); (with_reducible refine load_one HS.out rfl rfl on3 rfl (by first | exact at0 | exact at1 | exact at2 | exact at3 | exact at4 | exact at5 | exact at6) (by with_reducible first | exact dc_get _ _ (by omega) | exact rc_get _ _ (by omega) | exact at0a | exact at1a | exact at2a | exact at3a) ?_)) | ((with_reducible refine gate_dst (N := 13) rfl ?_); (with_reducible refine field_at rfl rfl rfl fo46_5 ?_); (try simp only [toNat_16, toNat_12, Int.toNat_natCast, Nat.zero_add, Nat.add_zero, Nat.mul_one])) | ((with_reducible refine gate_dst (N := 14) rfl ?_); (with_reducible refine index_at rfl rfl rfl rfl ar42 (by omega) (by omega) ?_); (try simp only [toNat_16, toNat_12, Int.toNat_natCast, Nat.zero_add, Nat.add_zero, Nat.mul_one])) | ((with_reducible refine gate_dst (N := 15) rfl ?_); (with_reducible refine field_at rfl rfl rfl fo41_1 ?_); (try simp only [toNat_16, toNat_12, Int.toNat_natCast, Nat.zero_add, Nat.add_zero, Nat.mul_one])) | ((with_reducible refine gate_dst (N := 16) rfl ?_); (with_reducible refine load_one HS.out rfl rfl on24 rfl (by first | exact at0 | exact at1 | exact at2 | exact at3 | exact at4 | exact at5 | exact at6) (by with_reducible first | exact el_T0 _ _ (by omega) | exact el_T1 _ _ (by omega)) ?_))); (try simp only [Act.put, List.setIfInBounds_toArray, List.set_cons_zero, List.set_cons_succ]))
   go_ret
   exact ⟨_, rfl, rfl, HS.out.below⟩
 by_cases h8 : k = 8
 ·subst h8
  obtain ⟨j, hj, hlt⟩ := place_nat 8 n (by decide) 16 (by decide)
  have hw := wf.C j hlt
  obtain ⟨v, hv⟩ : ∃ v, (m.C j).2.2 = v := ⟨_, rfl⟩
  have e_ : memwhole m 8 n = if v ≤ 32767 then v else 32767 := by unfold memwhole; rw [if_neg (by decide), if_pos rfl, hj, Int.toNat_natCast, hv]
  rw [e_]
  rw [hv] at hw
  clear e_ wf
  by_cases h : v ≤ 32767
  ·rw [if_pos h]
   have hc := i16_id v (by omega) h
   by_cases h2 : v < 32767
   ·go_enter Tryd.func36, Tryd.ntmps36
    go_wp2_with ((first | ((with_reducible refine gate_dst (N := 7) rfl ?_); refine call_ev2 HS.out rfl rfl Tryd.func46 (by kernel_rfl) rfl (by (try simp only [List.map_toArray, List.map_cons, List.map_nil]); first | done | rfl) (c_placeE _ _ _ _ hj _ (HT.out.below HS.out.below)) ?_; rintro v_ W_ rfl HP HB_; clear HS; have HS := Aside0.mk HP; clear HP; clear HB_) | ((with_reducible refine gate_dst (N := 2) rfl ?_); (with_reducible refine box_new HS.out rfl rfl (by first | exact eval_tmp rfl | exact eval_const) ?_); intro g2 W2_ HP; clear HS; have HS := Aside0.mk HP; clear HP) | ((with_reducible refine gate_dst (N := 3) rfl ?_); (with_reducible refine box_new HS.out rfl rfl (by first | exact eval_tmp rfl | exact eval_const) ?_); intro g3 W3_ HP; clear HS; have HS := Aside0.mk HP; clear HP) | ((with_reducible refine gate_dst (N := 6) rfl ?_); (with_reducible refine load_seg HS.out rfl rfl ag61 rfl (by first | exact at0 | exact at1 | exact at2 | exact at3 | exact at4 | exact at5 | exact at6) (by with_reducible first | exact tc_el _ _ (by omega) | exact cc_el _ _ (by omega) | exact whole _) (by with_reducible first | exact mc_size _ | exact tc_size _ | exact cc_size _ | exact dc_size _ | exact rc_size _ | exact sz1 | exact sz2 | exact sz3 | exact sz4) ?_)) | ((with_reducible refine gate_dst (N := 8) rfl ?_); (with_reducible refine field_at rfl rfl rfl fo61_0 ?_); (try simp only [toNat_16, toNat_12, Int.toNat_natCast, Nat.zero_add, Nat.add_zero, Nat.mul_one])) | ((with_reducible refine gate_dst (N := 9) rfl ?_); (with_reducible refine load_one HS.out rfl rfl on3 rfl (by first | exact at0 | exact at1 | exact at2 | exact at3 | exact at4 | exact at5 | exact at6) (by with_reducible first | exact dc_get _ _ (by omega) | exact rc_get _ _ (by omega) | exact at0a | exact at1a | exact at2a | exact at3a) ?_)) | ((with_reducible refine gate_dst (N := 22) rfl ?_); (with_reducible refine field_at rfl rfl rfl fo46_6 ?_); (try simp only [toNat_16, toNat_12, Int.toNat_natCast, Nat.zero_add, Nat.add_zero, Nat.mul_one])) | ((with_reducible refine gate_dst (N := 23) rfl ?_); (with_reducible refine index_at rfl rfl rfl rfl ar44 (by omega) (by omega) ?_); (try simp only [toNat_16, toNat_12, Int.toNat_natCast, Nat.zero_add, Nat.add_zero, Nat.mul_one])) | ((with_reducible refine gate_dst (N := 24) rfl ?_); (with_reducible refine field_at rfl rfl rfl fo43_2 ?_); (try simp only [toNat_16, toNat_12, Int.toNat_natCast, Nat.zero_add, Nat.add_zero, Nat.mul_one])) | ((with_reducible refine gate_dst (N := 25) rfl ?_); (with_reducible refine load_one HS.out rfl rfl on24 rfl (by first | exact at0 | exact at1 | exact at2 | exact at3 | exact at4 | exact at5 | exact at6) (by with_reducible first | exact el_C0 _ _ (by omega) | exact el_C1 _ _ (by omega) | exact el_C2 _ _ (by omega)) ?_))); (try simp only [Act.put, List.setIfInBounds_toArray, List.set_cons_zero, List.set_cons_succ]))
    go_ret
    exact ⟨_, rfl, rfl, HS.out.below⟩
   ·obtain rfl : v = 32767 := by omega
    go_enter Tryd.func36, Tryd.ntmps36
    go_wp2_with ((first | ((with_reducible refine gate_dst (N := 7) rfl ?_); refine call_ev2 HS.out rfl rfl Tryd.func46 (by kernel_rfl) rfl (by (try simp only [List.map_toArray, List.map_cons, List.map_nil]); first | done | rfl) (c_placeE _ _ _ _ hj _ (HT.out.below HS.out.below)) ?_; rintro v_ W_ rfl HP HB_; clear HS; have HS := Aside0.mk HP; clear HP; clear HB_) | ((with_reducible refine gate_dst (N := 2) rfl ?_); (with_reducible refine box_new HS.out rfl rfl (by first | exact eval_tmp rfl | exact eval_const) ?_); intro g2 W2_ HP; clear HS; have HS := Aside0.mk HP; clear HP) | ((with_reducible refine gate_dst (N := 3) rfl ?_); (with_reducible refine box_new HS.out rfl rfl (by first | exact eval_tmp rfl | exact eval_const) ?_); intro g3 W3_ HP; clear HS; have HS := Aside0.mk HP; clear HP) | ((with_reducible refine gate_dst (N := 6) rfl ?_); (with_reducible refine load_seg HS.out rfl rfl ag61 rfl (by first | exact at0 | exact at1 | exact at2 | exact at3 | exact at4 | exact at5 | exact at6) (by with_reducible first | exact tc_el _ _ (by omega) | exact cc_el _ _ (by omega) | exact whole _) (by with_reducible first | exact mc_size _ | exact tc_size _ | exact cc_size _ | exact dc_size _ | exact rc_size _ | exact sz1 | exact sz2 | exact sz3 | exact sz4) ?_)) | ((with_reducible refine gate_dst (N := 8) rfl ?_); (with_reducible refine field_at rfl rfl rfl fo61_0 ?_); (try simp only [toNat_16, toNat_12, Int.toNat_natCast, Nat.zero_add, Nat.add_zero, Nat.mul_one])) | ((with_reducible refine gate_dst (N := 9) rfl ?_); (with_reducible refine load_one HS.out rfl rfl on3 rfl (by first | exact at0 | exact at1 | exact at2 | exact at3 | exact at4 | exact at5 | exact at6) (by with_reducible first | exact dc_get _ _ (by omega) | exact rc_get _ _ (by omega) | exact at0a | exact at1a | exact at2a | exact at3a) ?_)) | ((with_reducible refine gate_dst (N := 22) rfl ?_); (with_reducible refine field_at rfl rfl rfl fo46_6 ?_); (try simp only [toNat_16, toNat_12, Int.toNat_natCast, Nat.zero_add, Nat.add_zero, Nat.mul_one])) | ((with_reducible refine gate_dst (N := 23) rfl ?_); (with_reducible refine index_at rfl rfl rfl rfl ar44 (by omega) (by omega) ?_); (try simp only [toNat_16, toNat_12, Int.toNat_natCast, Nat.zero_add, Nat.add_zero, Nat.mul_one])) | ((with_reducible refine gate_dst (N := 24) rfl ?_); (with_reducible refine field_at rfl rfl rfl fo43_2 ?_); (try simp only [toNat_16, toNat_12, Int.toNat_natCast, Nat.zero_add, Nat.add_zero, Nat.mul_one])) | ((with_reducible refine gate_dst (N := 25) rfl ?_); (with_reducible refine load_one HS.out rfl rfl on24 rfl (by first | exact at0 | exact at1 | exact at2 | exact at3 | exact at4 | exact at5 | exact at6) (by with_reducible first | exact el_C0 _ _ (by omega) | exact el_C1 _ _ (by omega) | exact el_C2 _ _ (by omega)) ?_))); (try simp only [Act.put, List.setIfInBounds_toArray, List.set_cons_zero, List.set_cons_succ]))
    go_ret
    exact ⟨_, rfl, rfl, HS.out.below⟩
  ·rw [if_neg h]
   have hc := i16_id 32767 (by omega) (by omega)
   have h2 : ¬ v < 32767 := by omega
   go_enter Tryd.func36, Tryd.ntmps36
   go_wp2_with ((first | ((with_reducible refine gate_dst (N := 7) rfl ?_); refine call_ev2 HS.out rfl rfl Tryd.func46 (by kernel_rfl) rfl (by (try simp only [List.map_toArray, List.map_cons, List.map_nil]); first | done | rfl) (c_placeE _ _ _ _ hj _ (HT.out.below HS.out.below)) ?_; rintro v_ W_ rfl HP HB_; clear HS; have HS := Aside0.mk HP; clear HP; clear HB_) | ((with_reducible refine gate_dst (N := 2) rfl ?_); (with_reducible refine box_new HS.out rfl rfl (by first | exact eval_tmp rfl | exact eval_const) ?_); intro g2 W2_ HP; clear HS; have HS := Aside0.mk HP; clear HP) | ((with_reducible refine gate_dst (N := 3) rfl ?_); (with_reducible refine box_new HS.out rfl rfl (by first | exact eval_tmp rfl | exact eval_const) ?_); intro g3 W3_ HP; clear HS; have HS := Aside0.mk HP; clear HP) | ((with_reducible refine gate_dst (N := 6) rfl ?_); (with_reducible refine load_seg HS.out rfl rfl ag61 rfl (by first | exact at0 | exact at1 | exact at2 | exact at3 | exact at4 | exact at5 | exact at6) (by with_reducible first | exact tc_el _ _ (by omega) | exact cc_el _ _ (by omega) | exact whole _) (by with_reducible first | exact mc_size _ | exact tc_size _ | exact cc_size _ | exact dc_size _ | exact rc_size _ | exact sz1 | exact sz2 | exact sz3 | exact sz4) ?_)) | ((with_reducible refine gate_dst (N := 8) rfl ?_); (with_reducible refine field_at rfl rfl rfl fo61_0 ?_); (try simp only [toNat_16, toNat_12, Int.toNat_natCast, Nat.zero_add, Nat.add_zero, Nat.mul_one])) | ((with_reducible refine gate_dst (N := 9) rfl ?_); (with_reducible refine load_one HS.out rfl rfl on3 rfl (by first | exact at0 | exact at1 | exact at2 | exact at3 | exact at4 | exact at5 | exact at6) (by with_reducible first | exact dc_get _ _ (by omega) | exact rc_get _ _ (by omega) | exact at0a | exact at1a | exact at2a | exact at3a) ?_)) | ((with_reducible refine gate_dst (N := 22) rfl ?_); (with_reducible refine field_at rfl rfl rfl fo46_6 ?_); (try simp only [toNat_16, toNat_12, Int.toNat_natCast, Nat.zero_add, Nat.add_zero, Nat.mul_one])) | ((with_reducible refine gate_dst (N := 23) rfl ?_); (with_reducible refine index_at rfl rfl rfl rfl ar44 (by omega) (by omega) ?_); (try simp only [toNat_16, toNat_12, Int.toNat_natCast, Nat.zero_add, Nat.add_zero, Nat.mul_one])) | ((with_reducible refine gate_dst (N := 24) rfl ?_); (with_reducible refine field_at rfl rfl rfl fo43_2 ?_); (try simp only [toNat_16, toNat_12, Int.toNat_natCast, Nat.zero_add, Nat.add_zero, Nat.mul_one])) | ((with_reducible refine gate_dst (N := 25) rfl ?_); (with_reducible refine load_one HS.out rfl rfl on24 rfl (by first | exact at0 | exact at1 | exact at2 | exact at3 | exact at4 | exact at5 | exact at6) (by with_reducible first | exact el_C0 _ _ (by omega) | exact el_C1 _ _ (by omega) | exact el_C2 _ _ (by omega)) ?_))); (try simp only [Act.put, List.setIfInBounds_toArray, List.set_cons_zero, List.set_cons_succ]))
   go_ret
   exact ⟨_, rfl, rfl, HS.out.below⟩
 by_cases h9 : k = 9
 ·subst h9
  obtain ⟨j, hj, hlt⟩ := place_nat 9 n (by decide) 32 (by decide)
  have e_ : memwhole m 9 n = m.D j := by unfold memwhole; rw [if_neg (by decide), if_neg (by decide), if_pos rfl, hj, Int.toNat_natCast]
  rw [e_]
  clear e_ wf
  go_enter Tryd.func36, Tryd.ntmps36
  go_wp2_with ((first | ((with_reducible refine gate_dst (N := 7) rfl ?_); refine call_ev2 HS.out rfl rfl Tryd.func46 (by kernel_rfl) rfl (by (try simp only [List.map_toArray, List.map_cons, List.map_nil]); first | done | rfl) (c_placeE _ _ _ _ hj _ (HT.out.below HS.out.below)) ?_; rintro v_ W_ rfl HP HB_; clear HS; have HS := Aside0.mk HP; clear HP; clear HB_) | ((with_reducible refine gate_dst (N := 2) rfl ?_); (with_reducible refine box_new HS.out rfl rfl (by first | exact eval_tmp rfl | exact eval_const) ?_); intro g2 W2_ HP; clear HS; have HS := Aside0.mk HP; clear HP) | ((with_reducible refine gate_dst (N := 3) rfl ?_); (with_reducible refine box_new HS.out rfl rfl (by first | exact eval_tmp rfl | exact eval_const) ?_); intro g3 W3_ HP; clear HS; have HS := Aside0.mk HP; clear HP) | ((with_reducible refine gate_dst (N := 6) rfl ?_); (with_reducible refine load_seg HS.out rfl rfl ag61 rfl (by first | exact at0 | exact at1 | exact at2 | exact at3 | exact at4 | exact at5 | exact at6) (by with_reducible first | exact tc_el _ _ (by omega) | exact cc_el _ _ (by omega) | exact whole _) (by with_reducible first | exact mc_size _ | exact tc_size _ | exact cc_size _ | exact dc_size _ | exact rc_size _ | exact sz1 | exact sz2 | exact sz3 | exact sz4) ?_)) | ((with_reducible refine gate_dst (N := 8) rfl ?_); (with_reducible refine field_at rfl rfl rfl fo61_0 ?_); (try simp only [toNat_16, toNat_12, Int.toNat_natCast, Nat.zero_add, Nat.add_zero, Nat.mul_one])) | ((with_reducible refine gate_dst (N := 9) rfl ?_); (with_reducible refine load_one HS.out rfl rfl on3 rfl (by first | exact at0 | exact at1 | exact at2 | exact at3 | exact at4 | exact at5 | exact at6) (by with_reducible first | exact dc_get _ _ (by omega) | exact rc_get _ _ (by omega) | exact at0a | exact at1a | exact at2a | exact at3a) ?_)) | ((with_reducible refine gate_dst (N := 31) rfl ?_); (with_reducible refine field_at rfl rfl rfl fo46_7 ?_); (try simp only [toNat_16, toNat_12, Int.toNat_natCast, Nat.zero_add, Nat.add_zero, Nat.mul_one])) | ((with_reducible refine gate_dst (N := 32) rfl ?_); (with_reducible refine index_at rfl rfl rfl rfl ar32 (by omega) (by omega) ?_); (try simp only [toNat_16, toNat_12, Int.toNat_natCast, Nat.zero_add, Nat.add_zero, Nat.mul_one])) | ((with_reducible refine gate_dst (N := 33) rfl ?_); (with_reducible refine load_one HS.out rfl rfl on31 rfl (by first | exact at0 | exact at1 | exact at2 | exact at3 | exact at4 | exact at5 | exact at6) (by with_reducible exact el_D _ _ (by omega)) ?_))); (try simp only [Act.put, List.setIfInBounds_toArray, List.set_cons_zero, List.set_cons_succ]))
  go_ret
  exact ⟨_, rfl, by first | rfl | (simp only [Int.toNat_natCast]; rfl), HS.out.below⟩
 obtain ⟨j, hj⟩ : ∃ j, place k n = j := ⟨_, rfl⟩
 by_cases h11 : k = 11
 ·subst h11
  have e_ : memwhole m 11 n = IntKind.i16.wrap n := by unfold memwhole; rw [if_neg (by decide), if_neg (by decide), if_neg (by decide), if_pos rfl]
  rw [e_]
  clear e_ wf h7 h8 h9
  go_enter Tryd.func36, Tryd.ntmps36
  go_wp2_with ((first | ((with_reducible refine gate_dst (N := 7) rfl ?_); refine call_ev2 HS.out rfl rfl Tryd.func46 (by kernel_rfl) rfl (by (try simp only [List.map_toArray, List.map_cons, List.map_nil]); first | done | rfl) (c_placeE _ _ _ _ hj _ (HT.out.below HS.out.below)) ?_; rintro v_ W_ rfl HP HB_; clear HS; have HS := Aside0.mk HP; clear HP; clear HB_) | ((with_reducible refine gate_dst (N := 2) rfl ?_); (with_reducible refine box_new HS.out rfl rfl (by first | exact eval_tmp rfl | exact eval_const) ?_); intro g2 W2_ HP; clear HS; have HS := Aside0.mk HP; clear HP) | ((with_reducible refine gate_dst (N := 3) rfl ?_); (with_reducible refine box_new HS.out rfl rfl (by first | exact eval_tmp rfl | exact eval_const) ?_); intro g3 W3_ HP; clear HS; have HS := Aside0.mk HP; clear HP) | ((with_reducible refine gate_dst (N := 6) rfl ?_); (with_reducible refine load_seg HS.out rfl rfl ag61 rfl (by first | exact at0 | exact at1 | exact at2 | exact at3 | exact at4 | exact at5 | exact at6) (by with_reducible first | exact tc_el _ _ (by omega) | exact cc_el _ _ (by omega) | exact whole _) (by with_reducible first | exact mc_size _ | exact tc_size _ | exact cc_size _ | exact dc_size _ | exact rc_size _ | exact sz1 | exact sz2 | exact sz3 | exact sz4) ?_)) | ((with_reducible refine gate_dst (N := 8) rfl ?_); (with_reducible refine field_at rfl rfl rfl fo61_0 ?_); (try simp only [toNat_16, toNat_12, Int.toNat_natCast, Nat.zero_add, Nat.add_zero, Nat.mul_one])) | ((with_reducible refine gate_dst (N := 9) rfl ?_); (with_reducible refine load_one HS.out rfl rfl on3 rfl (by first | exact at0 | exact at1 | exact at2 | exact at3 | exact at4 | exact at5 | exact at6) (by with_reducible first | exact dc_get _ _ (by omega) | exact rc_get _ _ (by omega) | exact at0a | exact at1a | exact at2a | exact at3a) ?_)) | ((with_reducible refine gate_dst (N := 36) rfl ?_); (with_reducible refine field_at rfl rfl rfl fo61_1 ?_); (try simp only [toNat_16, toNat_12, Int.toNat_natCast, Nat.zero_add, Nat.add_zero, Nat.mul_one])) | ((with_reducible refine gate_dst (N := 37) rfl ?_); (with_reducible refine load_one HS.out rfl rfl on3 rfl (by first | exact at0 | exact at1 | exact at2 | exact at3 | exact at4 | exact at5 | exact at6) (by with_reducible first | exact dc_get _ _ (by omega) | exact rc_get _ _ (by omega) | exact at0a | exact at1a | exact at2a | exact at3a) ?_))); (try simp only [Act.put, List.setIfInBounds_toArray, List.set_cons_zero, List.set_cons_succ]))
  go_ret
  exact ⟨_, rfl, rfl, HS.out.below⟩
 have e_ : memwhole m k n = 0 := by unfold memwhole; rw [if_neg h7, if_neg h8, if_neg h9, if_neg h11]
 rw [e_]
 have n7 : (k == 7) = false := beq_eq_false_iff_ne.mpr h7
 have n8 : (k == 8) = false := beq_eq_false_iff_ne.mpr h8
 have n9 : (k == 9) = false := beq_eq_false_iff_ne.mpr h9
 have n11 : (k == 11) = false := beq_eq_false_iff_ne.mpr h11
 clear e_ wf h7 h8 h9 h11
 go_enter Tryd.func36, Tryd.ntmps36
 go_wp2_with ((first | ((with_reducible refine gate_dst (N := 7) rfl ?_); refine call_ev2 HS.out rfl rfl Tryd.func46 (by kernel_rfl) rfl (by (try simp only [List.map_toArray, List.map_cons, List.map_nil]); first | done | rfl) (c_placeE _ _ _ _ hj _ (HT.out.below HS.out.below)) ?_; rintro v_ W_ rfl HP HB_; clear HS; have HS := Aside0.mk HP; clear HP; clear HB_) | ((with_reducible refine gate_dst (N := 2) rfl ?_); (with_reducible refine box_new HS.out rfl rfl (by first | exact eval_tmp rfl | exact eval_const) ?_); intro g2 W2_ HP; clear HS; have HS := Aside0.mk HP; clear HP) | ((with_reducible refine gate_dst (N := 3) rfl ?_); (with_reducible refine box_new HS.out rfl rfl (by first | exact eval_tmp rfl | exact eval_const) ?_); intro g3 W3_ HP; clear HS; have HS := Aside0.mk HP; clear HP) | ((with_reducible refine gate_dst (N := 6) rfl ?_); (with_reducible refine load_seg HS.out rfl rfl ag61 rfl (by first | exact at0 | exact at1 | exact at2 | exact at3 | exact at4 | exact at5 | exact at6) (by with_reducible first | exact tc_el _ _ (by omega) | exact cc_el _ _ (by omega) | exact whole _) (by with_reducible first | exact mc_size _ | exact tc_size _ | exact cc_size _ | exact dc_size _ | exact rc_size _ | exact sz1 | exact sz2 | exact sz3 | exact sz4) ?_)) | ((with_reducible refine gate_dst (N := 8) rfl ?_); (with_reducible refine field_at rfl rfl rfl fo61_0 ?_); (try simp only [toNat_16, toNat_12, Int.toNat_natCast, Nat.zero_add, Nat.add_zero, Nat.mul_one])) | ((with_reducible refine gate_dst (N := 9) rfl ?_); (with_reducible refine load_one HS.out rfl rfl on3 rfl (by first | exact at0 | exact at1 | exact at2 | exact at3 | exact at4 | exact at5 | exact at6) (by with_reducible first | exact dc_get _ _ (by omega) | exact rc_get _ _ (by omega) | exact at0a | exact at1a | exact at2a | exact at3a) ?_))); (try simp only [Act.put, List.setIfInBounds_toArray, List.set_cons_zero, List.set_cons_succ]))
 go_ret
 exact ⟨_, rfl, rfl, HS.out.below⟩

set_option maxHeartbeats 4000000 in
set_option maxRecDepth 100000 in
theorem c_testF (op : Int) (x y : Nat) (w : World) : Calls Tryd.prog 60 #[.int .i64 op, .float .f64 x, .float .f64 y] w (Ret w (· = .bool (cmpF op x y))) := by
 have e_ : op = 1 ∨ op = 2 ∨ op = 3 ∨ op = 4 ∨ op = 5 ∨ op = 6 ∨ (op ≠ 1 ∧ op ≠ 2 ∧ op ≠ 3 ∧ op ≠ 4 ∧ op ≠ 5 ∧ op ≠ 6) := by omega
 rcases e_ with rfl | rfl | rfl | rfl | rfl | rfl | ⟨h1, h2, h3, h4, h5, h6⟩
 ·go_enter Tryd.func60, Tryd.ntmps60
  go_wp2
  go_ret
  exact ⟨_, rfl, rfl, Below.refl _ _⟩
 ·go_enter Tryd.func60, Tryd.ntmps60
  go_wp2
  go_ret
  exact ⟨_, rfl, rfl, Below.refl _ _⟩
 ·go_enter Tryd.func60, Tryd.ntmps60
  go_wp2
  go_ret
  exact ⟨_, rfl, rfl, Below.refl _ _⟩
 ·go_enter Tryd.func60, Tryd.ntmps60
  go_wp2
  go_ret
  exact ⟨_, rfl, rfl, Below.refl _ _⟩
 ·go_enter Tryd.func60, Tryd.ntmps60
  go_wp2
  go_ret
  exact ⟨_, rfl, rfl, Below.refl _ _⟩
 ·go_enter Tryd.func60, Tryd.ntmps60
  go_wp2
  go_ret
  exact ⟨_, rfl, rfl, Below.refl _ _⟩
 ·have e_ : cmpF op x y = false := by unfold cmpF; rw [if_neg h1, if_neg h2, if_neg h3, if_neg h4, if_neg h5, if_neg h6]
  rw [e_]
  have n1 : (op == 1) = false := beq_eq_false_iff_ne.mpr h1
  have n2 : (op == 2) = false := beq_eq_false_iff_ne.mpr h2
  have n3 : (op == 3) = false := beq_eq_false_iff_ne.mpr h3
  have n4 : (op == 4) = false := beq_eq_false_iff_ne.mpr h4
  have n5 : (op == 5) = false := beq_eq_false_iff_ne.mpr h5
  have n6 : (op == 6) = false := beq_eq_false_iff_ne.mpr h6
  clear h1 h2 h3 h4 h5 h6 e_
  go_enter Tryd.func60, Tryd.ntmps60
  go_wp2
  go_ret
  exact ⟨_, rfl, rfl, Below.refl _ _⟩

set_option maxHeartbeats 4000000 in
set_option maxRecDepth 100000 in
theorem c_implRealCmp (op : Int) (x y : Nat) (w : World) : Calls Tryd.prog 33 #[.int .i64 op, .float .f64 x, .float .f64 y] w (Ret w (· = .bool (cmpF op x y))) := by
 have HS := Aside0.mk (Priv.nil w)
 go_enter Tryd.func33, Tryd.ntmps33
 go_wp2_with (first | (go_at_call 60; refine (c_testF op x y _).mono ?_; rintro e_ W_ ⟨v_, rfl, rfl, HB_⟩; have HP := HS.out.call HB_; clear HB_; clear HS; have HS := Aside0.mk HP; clear HP; (try simp only [Act.put, List.setIfInBounds_toArray, List.set_cons_zero, List.set_cons_succ])))
 go_ret
 exact ⟨_, rfl, rfl, HS.out.below⟩

set_option maxHeartbeats 4000000 in
set_option maxRecDepth 100000 in
theorem c_specRealCmp (op : Int) (x y : Nat) (w : World) : Calls Tryd.prog 19 #[.int .i64 op, .float .f64 x, .float .f64 y] w (Ret w (· = .bool (cmpF op x y))) := by
 have e_ : op = 1 ∨ op = 2 ∨ op = 3 ∨ op = 4 ∨ op = 5 ∨ op = 6 ∨ (op ≠ 1 ∧ op ≠ 2 ∧ op ≠ 3 ∧ op ≠ 4 ∧ op ≠ 5 ∧ op ≠ 6) := by omega
 rcases e_ with rfl | rfl | rfl | rfl | rfl | rfl | ⟨h1, h2, h3, h4, h5, h6⟩
 ·go_enter Tryd.func19, Tryd.ntmps19
  go_wp2
  go_ret
  exact ⟨_, rfl, rfl, Below.refl _ _⟩
 ·go_enter Tryd.func19, Tryd.ntmps19
  go_wp2
  go_ret
  exact ⟨_, rfl, rfl, Below.refl _ _⟩
 ·go_enter Tryd.func19, Tryd.ntmps19
  go_wp2
  go_ret
  exact ⟨_, rfl, rfl, Below.refl _ _⟩
 ·go_enter Tryd.func19, Tryd.ntmps19
  go_wp2
  go_ret
  exact ⟨_, rfl, rfl, Below.refl _ _⟩
 ·go_enter Tryd.func19, Tryd.ntmps19
  go_wp2
  go_ret
  exact ⟨_, rfl, rfl, Below.refl _ _⟩
 ·go_enter Tryd.func19, Tryd.ntmps19
  go_wp2
  go_ret
  exact ⟨_, rfl, rfl, Below.refl _ _⟩
 ·have e_ : cmpF op x y = false := by unfold cmpF; rw [if_neg h1, if_neg h2, if_neg h3, if_neg h4, if_neg h5, if_neg h6]
  rw [e_]
  have n1 : (op == 1) = false := beq_eq_false_iff_ne.mpr h1
  have n2 : (op == 2) = false := beq_eq_false_iff_ne.mpr h2
  have n3 : (op == 3) = false := beq_eq_false_iff_ne.mpr h3
  have n4 : (op == 4) = false := beq_eq_false_iff_ne.mpr h4
  have n5 : (op == 5) = false := beq_eq_false_iff_ne.mpr h5
  have n6 : (op == 6) = false := beq_eq_false_iff_ne.mpr h6
  clear h1 h2 h3 h4 h5 h6 e_
  go_enter Tryd.func19, Tryd.ntmps19
  go_wp2
  go_ret
  exact ⟨_, rfl, rfl, Below.refl _ _⟩

end Go.Proofs.YtaegonmpjgdmgaaDoor.K
