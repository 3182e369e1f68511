/- Walks over the ladders' memory: what the functions of this seat answer. -/
import Derived.Test.YtaegonmpjgdmgaaDoorProg
import Derived.Test.YtaegonmpjgdmgaaDoorMW
import Derived.WalkKit
import Derived.Deep.LoopGhost
import Derived.Deep.DeepCutAuto
import Derived.BigFrame
import Derived.Deep.QuietTactic
import Derived.BigQuiet
import Derived.Test.YtaegonmpjgdmgaaDoorOD
namespace Go.Proofs.YtaegonmpjgdmgaaDoor.K
open Go Go.RowKit Go.Proofs.YtaegonmpjgdmgaaDoorW Go.Proofs.YtaegonmpjgdmgaaDoorW.PrintWords Go.Proofs.YtaegonmpjgdmgaaDoor.MW
set_option linter.unusedVariables false
set_option linter.unusedSimpArgs false
set_option maxRecDepth 100000

open BActT
def Wd (n : Int) (x : Nat) : Prop := (if n = 0 then ord x x = none else if n = 1 then x = 9218868437227405312 else if n = 2 then x = 18442240474082181120 else x = 9223372036854775808)
theorem quo_00 : floatBits .quo .f64 0 0 = none := by kernel_rfl
theorem quo_10 : floatBits .quo .f64 4607182418800017408 0 = some 9218868437227405312 := by kernel_rfl
theorem neg_inf : ∀ W : World, (Op.unary .neg (.float .f64 9218868437227405312)).run Tryd.prog W = .ok (.float .f64 18442240474082181120) W := fun _ => by kernel_rfl
theorem neg_zero : ∀ W : World, (Op.unary .neg (.float .f64 0)).run Tryd.prog W = .ok (.float .f64 9223372036854775808) W := fun _ => by kernel_rfl
set_option maxHeartbeats 4000000 in
set_option maxRecDepth 100000 in
theorem c_sNan (w : World) : Calls Tryd.prog 94 #[] w (Ret w (fun v => ∃ x : Nat, v = .float .f64 x ∧ ord x x = none)) := by
 have HS := Aside0.mk (Priv.nil w)
 go_enter Tryd.func94, Tryd.ntmps94
 go_wp2_with (first | ((with_reducible refine gate_dst (N := 4) rfl ?_); refine ev_quo HS.out rfl rfl rfl rfl ?_; intro r4 W_ hlt4 hq4 HP; clear HS; have HS := Aside0.mk HP; clear HP; (try simp only [Act.put, List.setIfInBounds_toArray, List.set_cons_zero, List.set_cons_succ])))
 go_ret
 refine ⟨_, rfl, ⟨_, rfl, ?_⟩, HS.out.below⟩
 rcases hq4 with h | ⟨_, h⟩
 ·rw [quo_00] at h; cases h
 ·exact h
set_option maxHeartbeats 4000000 in
set_option maxRecDepth 100000 in
theorem c_sInf (W : World) : Calls Tryd.prog 95 #[] W (Ret W (· = .float .f64 9218868437227405312)) := by
 have hq := run_float_arith (P := Tryd.prog) (op := .quo) (t := 33) (k := .f64) (h := quo_10)
 go_enter Tryd.func95, Tryd.ntmps95
 go_wp2
 go_ret
 exact ⟨_, rfl, rfl, Below.refl _ _⟩
set_option maxHeartbeats 4000000 in
set_option maxRecDepth 100000 in
theorem c_sWord (n : Int) (hn : n = 0 ∨ n = 1 ∨ n = 2 ∨ n = 3) (w : World) : Calls Tryd.prog 81 #[.int .i64 n] w (Ret w (fun v => ∃ x : Nat, v = .float .f64 x ∧ Wd n x)) := by
 have HS := Aside0.mk (Priv.nil w)
 have h1 := neg_inf
 have h2 := neg_zero
 rcases hn with rfl | rfl | rfl | rfl
 ·have hW : ∀ x, ord x x = none → Wd 0 x := fun x h => h
  go_enter Tryd.func81, Tryd.ntmps81
  go_wp2_with (first | ((with_reducible refine gate_dst (N := 7) rfl ?_); refine call_ret HS.out rfl rfl Tryd.func94 (by kernel_rfl) rfl (by (try simp only [List.map_toArray, List.map_cons, List.map_nil]); first | done | rfl) (c_sNan _) ?_; rintro v_ W_ ⟨x7, rfl, h7⟩ HP; clear HS; have HS := Aside0.mk HP; clear HP; (try simp only [Act.put, List.setIfInBounds_toArray, List.set_cons_zero, List.set_cons_succ])))
  go_ret
  exact ⟨_, rfl, ⟨_, rfl, hW _ h7⟩, HS.out.below⟩
 ·have hW : Wd 1 9218868437227405312 := by unfold Wd; decide
  go_enter Tryd.func81, Tryd.ntmps81
  go_wp2_with (first | ((with_reducible refine gate_dst (N := 10) rfl ?_); refine call_ev2 HS.out rfl rfl Tryd.func95 (by kernel_rfl) rfl (by (try simp only [List.map_toArray, List.map_cons, List.map_nil]); first | done | rfl) (c_sInf _) ?_; rintro v_ W_ rfl HP HB_; clear HS; have HS := Aside0.mk HP; clear HP; clear HB_; (try simp only [Act.put, List.setIfInBounds_toArray, List.set_cons_zero, List.set_cons_succ])))
  go_ret
  exact ⟨_, rfl, ⟨_, rfl, hW⟩, HS.out.below⟩
 ·have hW : Wd 2 18442240474082181120 := by unfold Wd; decide
  go_enter Tryd.func81, Tryd.ntmps81
  go_wp2_with (first | ((with_reducible refine gate_dst (N := 13) rfl ?_); refine call_ev2 HS.out rfl rfl Tryd.func95 (by kernel_rfl) rfl (by (try simp only [List.map_toArray, List.map_cons, List.map_nil]); first | done | rfl) (c_sInf _) ?_; rintro v_ W_ rfl HP HB_; clear HS; have HS := Aside0.mk HP; clear HP; clear HB_; (try simp only [Act.put, List.setIfInBounds_toArray, List.set_cons_zero, List.set_cons_succ])))
  go_ret
  exact ⟨_, rfl, ⟨_, rfl, hW⟩, HS.out.below⟩
 ·have hW : Wd 3 9223372036854775808 := by unfold Wd; decide
  go_enter Tryd.func81, Tryd.ntmps81
  go_wp2
  go_ret
  exact ⟨_, rfl, ⟨_, rfl, hW⟩, HS.out.below⟩

set_option maxHeartbeats 4000000 in
set_option maxRecDepth 100000 in
theorem c_sRealArg (k n p : Int) (w : World) : Calls Tryd.prog 54 #[.agg #[.int .i64 k, .int .i64 n, .int .i64 p]] w (Ret w (fun v => ∃ x : Nat, v = .float .f64 x ∧ Ra k n p x)) := by
 have HS := Aside0.mk (Priv.nil w)
 cases hd : dok k n p
 ·have hR : Ra k n p 0 := by unfold Ra; rw [if_neg (fun h => by rw [hd] at h; exact absurd h.1 (by decide)), if_neg (fun h => by rw [hd] at h; exact absurd h.1 (by decide))]
  go_enter Tryd.func54, Tryd.ntmps54
  go_wp2_with ((first | ((with_reducible refine gate_dst (N := 6) rfl ?_); refine call_ev2 HS.out rfl rfl Tryd.func80 (by kernel_rfl) rfl (by (try simp only [List.map_toArray, List.map_cons, List.map_nil]); first | done | rfl) (sK _ _ _ _ hd _) ?_; rintro v_ W_ rfl HP HB_; clear HS; have HS := Aside0.mk HP; clear HP; clear HB_) | ((with_reducible refine gate_dst (N := 1) rfl ?_); (with_reducible refine box_new HS.out rfl rfl (by first | exact eval_tmp rfl | exact eval_const) ?_); intro g1 W1_ HP; clear HS; have HS := Aside0.mk HP; clear HP) | ((with_reducible refine gate_dst (N := 5) rfl ?_); (with_reducible refine load_seg HS.out rfl rfl ag61 rfl (by first | exact at0 | exact at1 | exact at2 | exact at3 | exact at4 | exact at5 | exact at6) (by with_reducible first | exact tc_el _ _ (by omega) | exact cc_el _ _ (by omega) | exact whole _) (by with_reducible first | exact mc_size _ | exact tc_size _ | exact cc_size _ | exact dc_size _ | exact rc_size _ | exact sz1 | exact sz2 | exact sz3 | exact sz4) ?_))); (try simp only [Act.put, List.setIfInBounds_toArray, List.set_cons_zero, List.set_cons_succ]))
  go_ret
  exact ⟨_, rfl, ⟨_, rfl, hR⟩, HS.out.below⟩
 by_cases k13 : k = 13
 ·subst k13
  have hn := dok13 hd
  have hR : ∀ x, (if n = 0 then ord x x = none else if n = 1 then x = 9218868437227405312 else if n = 2 then x = 18442240474082181120 else x = 9223372036854775808) → Ra 13 n p x := fun x h => by unfold Ra; rw [if_neg (fun h => absurd h.2 (by decide)), if_pos ⟨hd, rfl⟩]; exact h
  go_enter Tryd.func54, Tryd.ntmps54
  go_wp2_with ((first | ((with_reducible refine gate_dst (N := 6) rfl ?_); refine call_ev2 HS.out rfl rfl Tryd.func80 (by kernel_rfl) rfl (by (try simp only [List.map_toArray, List.map_cons, List.map_nil]); first | done | rfl) (sK _ _ _ _ hd _) ?_; rintro v_ W_ rfl HP HB_; clear HS; have HS := Aside0.mk HP; clear HP; clear HB_) | ((with_reducible refine gate_dst (N := 13) rfl ?_); refine call_ret HS.out rfl rfl Tryd.func81 (by kernel_rfl) rfl (by (try simp only [List.map_toArray, List.map_cons, List.map_nil]); first | done | rfl) (c_sWord _ hn _) ?_; rintro v_ W_ ⟨x13, rfl, h13⟩ HP; clear HS; have HS := Aside0.mk HP; clear HP) | ((with_reducible refine gate_dst (N := 1) rfl ?_); (with_reducible refine box_new HS.out rfl rfl (by first | exact eval_tmp rfl | exact eval_const) ?_); intro g1 W1_ HP; clear HS; have HS := Aside0.mk HP; clear HP) | ((with_reducible refine gate_dst (N := 5) rfl ?_); (with_reducible refine load_seg HS.out rfl rfl ag61 rfl (by first | exact at0 | exact at1 | exact at2 | exact at3 | exact at4 | exact at5 | exact at6) (by with_reducible first | exact tc_el _ _ (by omega) | exact cc_el _ _ (by omega) | exact whole _) (by with_reducible first | exact mc_size _ | exact tc_size _ | exact cc_size _ | exact dc_size _ | exact rc_size _ | exact sz1 | exact sz2 | exact sz3 | exact sz4) ?_)) | ((with_reducible refine gate_dst (N := 8) rfl ?_); (with_reducible refine field_at rfl rfl rfl fo61_0 ?_); (try simp only [toNat_16, toNat_12, Int.toNat_natCast, Nat.zero_add, Nat.add_zero, Nat.mul_one])) | ((with_reducible refine gate_dst (N := 9) rfl ?_); (with_reducible refine load_one HS.out rfl rfl on3 rfl (by first | exact at0 | exact at1 | exact at2 | exact at3 | exact at4 | exact at5 | exact at6) (by with_reducible first | exact dc_get _ _ (by omega) | exact rc_get _ _ (by omega) | exact at0a | exact at1a | exact at2a | exact at3a) ?_)) | ((with_reducible refine gate_dst (N := 11) rfl ?_); (with_reducible refine field_at rfl rfl rfl fo61_1 ?_); (try simp only [toNat_16, toNat_12, Int.toNat_natCast, Nat.zero_add, Nat.add_zero, Nat.mul_one])) | ((with_reducible refine gate_dst (N := 12) rfl ?_); (with_reducible refine load_one HS.out rfl rfl on3 rfl (by first | exact at0 | exact at1 | exact at2 | exact at3 | exact at4 | exact at5 | exact at6) (by with_reducible first | exact dc_get _ _ (by omega) | exact rc_get _ _ (by omega) | exact at0a | exact at1a | exact at2a | exact at3a) ?_))); (try simp only [Act.put, List.setIfInBounds_toArray, List.set_cons_zero, List.set_cons_succ]))
  go_ret
  exact ⟨_, rfl, ⟨_, rfl, hR _ h13⟩, HS.out.below⟩
 have n13 : (k == 13) = false := beq_eq_false_iff_ne.mpr k13
 by_cases k12 : k = 12
 ·subst k12
  have hp := dok12 hd
  have hR : ∀ x, fq (floatOfInt .f64 n) (floatOfInt .f64 (pw p.toNat)) x → Ra 12 n p x := fun x h => by unfold Ra; rw [if_pos ⟨hd, rfl⟩]; exact h
  have HR := Aside0.mk hR
  clear hR k13 n13
  go_enter Tryd.func54, Tryd.ntmps54
  go_wp2_with ((first | ((with_reducible refine gate_dst (N := 6) rfl ?_); refine call_ev2 HS.out rfl rfl Tryd.func80 (by kernel_rfl) rfl (by (try simp only [List.map_toArray, List.map_cons, List.map_nil]); first | done | rfl) (sK _ _ _ _ hd _) ?_; rintro v_ W_ rfl HP HB_; clear HS; have HS := Aside0.mk HP; clear HP; clear HB_) | ((with_reducible refine gate_dst (N := 1) rfl ?_); (with_reducible refine box_new HS.out rfl rfl (by first | exact eval_tmp rfl | exact eval_const) ?_); intro g1 W1_ HP; clear HS; have HS := Aside0.mk HP; clear HP) | ((with_reducible refine gate_dst (N := 5) rfl ?_); (with_reducible refine load_seg HS.out rfl rfl ag61 rfl (by first | exact at0 | exact at1 | exact at2 | exact at3 | exact at4 | exact at5 | exact at6) (by with_reducible first | exact tc_el _ _ (by omega) | exact cc_el _ _ (by omega) | exact whole _) (by with_reducible first | exact mc_size _ | exact tc_size _ | exact cc_size _ | exact dc_size _ | exact rc_size _ | exact sz1 | exact sz2 | exact sz3 | exact sz4) ?_)) | ((with_reducible refine gate_dst (N := 8) rfl ?_); (with_reducible refine field_at rfl rfl rfl fo61_0 ?_); (try simp only [toNat_16, toNat_12, Int.toNat_natCast, Nat.zero_add, Nat.add_zero, Nat.mul_one])) | ((with_reducible refine gate_dst (N := 9) rfl ?_); (with_reducible refine load_one HS.out rfl rfl on3 rfl (by first | exact at0 | exact at1 | exact at2 | exact at3 | exact at4 | exact at5 | exact at6) (by with_reducible first | exact dc_get _ _ (by omega) | exact rc_get _ _ (by omega) | exact at0a | exact at1a | exact at2a | exact at3a) ?_)) | ((with_reducible refine gate_dst (N := 14) rfl ?_); (with_reducible refine field_at rfl rfl rfl fo61_0 ?_); (try simp only [toNat_16, toNat_12, Int.toNat_natCast, Nat.zero_add, Nat.add_zero, Nat.mul_one])) | ((with_reducible refine gate_dst (N := 15) rfl ?_); (with_reducible refine load_one HS.out rfl rfl on3 rfl (by first | exact at0 | exact at1 | exact at2 | exact at3 | exact at4 | exact at5 | exact at6) (by with_reducible first | exact dc_get _ _ (by omega) | exact rc_get _ _ (by omega) | exact at0a | exact at1a | exact at2a | exact at3a) ?_))); (try simp only [Act.put, List.setIfInBounds_toArray, List.set_cons_zero, List.set_cons_succ]))
  go_loopw [3, 4] (fun v3 v4 W => ∃ i : Nat, v3 = .int .i64 (pw i) ∧ v4 = .int .i64 i ∧ (i : Int) ≤ p ∧ Aside0 (Priv w W [(g1, #[.int .i64 12, .int .i64 n, .int .i64 p])])) (fun _ v4 _ => (p - intOf v4).toNat)
  case atStart => exact ⟨0, rfl, rfl, by omega, HS⟩
  case round =>
   clear HS
   obtain ⟨i, rfl, rfl, hi, HS⟩ := hrel
   by_cases hlt : (i : Int) < p
   ·have hw := pw_succ i (by omega)
    go_wp2_with ((first | ((with_reducible refine gate_dst (N := 18) rfl ?_); (with_reducible refine field_at rfl rfl rfl fo61_2 ?_); (try simp only [toNat_16, toNat_12, Int.toNat_natCast, Nat.zero_add, Nat.add_zero, Nat.mul_one])) | ((with_reducible refine gate_dst (N := 19) rfl ?_); (with_reducible refine load_one HS.out rfl rfl on3 rfl (by first | exact at0 | exact at1 | exact at2 | exact at3 | exact at4 | exact at5 | exact at6) (by with_reducible first | exact dc_get _ _ (by omega) | exact rc_get _ _ (by omega) | exact at0a | exact at1a | exact at2a | exact at3a) ?_))); (try simp only [Act.put, List.setIfInBounds_toArray, List.set_cons_zero, List.set_cons_succ]))
    go_roundw
    case rel => exact ⟨i + 1, by first | rw [hw] | rfl, by go_num, by omega, HS⟩
    case measure => simp [intOf]; omega
   ·have hpi : p.toNat = i := by omega
    have hge : decide ((i : Int) < p) = false := decide_eq_false hlt
    go_wp2_with ((first | ((with_reducible refine gate_dst (N := 30) rfl ?_); refine ev_quo HS.out rfl rfl rfl rfl ?_; intro r30 W_ hlt30 hq30 HP; clear HS; have HS := Aside0.mk HP; clear HP) | ((with_reducible refine gate_dst (N := 18) rfl ?_); (with_reducible refine field_at rfl rfl rfl fo61_2 ?_); (try simp only [toNat_16, toNat_12, Int.toNat_natCast, Nat.zero_add, Nat.add_zero, Nat.mul_one])) | ((with_reducible refine gate_dst (N := 19) rfl ?_); (with_reducible refine load_one HS.out rfl rfl on3 rfl (by first | exact at0 | exact at1 | exact at2 | exact at3 | exact at4 | exact at5 | exact at6) (by with_reducible first | exact dc_get _ _ (by omega) | exact rc_get _ _ (by omega) | exact at0a | exact at1a | exact at2a | exact at3a) ?_)) | ((with_reducible refine gate_dst (N := 25) rfl ?_); (with_reducible refine field_at rfl rfl rfl fo61_1 ?_); (try simp only [toNat_16, toNat_12, Int.toNat_natCast, Nat.zero_add, Nat.add_zero, Nat.mul_one])) | ((with_reducible refine gate_dst (N := 26) rfl ?_); (with_reducible refine load_one HS.out rfl rfl on3 rfl (by first | exact at0 | exact at1 | exact at2 | exact at3 | exact at4 | exact at5 | exact at6) (by with_reducible first | exact dc_get _ _ (by omega) | exact rc_get _ _ (by omega) | exact at0a | exact at1a | exact at2a | exact at3a) ?_))); (try simp only [Act.put, List.setIfInBounds_toArray, List.set_cons_zero, List.set_cons_succ]))
    go_ret
    exact ⟨_, rfl, ⟨_, rfl, HR.out _ (by rw [hpi]; exact hq30)⟩, HS.out.below⟩
 have n12 : (k != 12) = true := bne_iff_ne.mpr k12
 have hR : Ra k n p 0 := by unfold Ra; rw [if_neg (fun h => k12 h.2), if_neg (fun h => k13 h.2)]
 clear k12 k13
 go_enter Tryd.func54, Tryd.ntmps54
 go_wp2_with ((first | ((with_reducible refine gate_dst (N := 6) rfl ?_); refine call_ev2 HS.out rfl rfl Tryd.func80 (by kernel_rfl) rfl (by (try simp only [List.map_toArray, List.map_cons, List.map_nil]); first | done | rfl) (sK _ _ _ _ hd _) ?_; rintro v_ W_ rfl HP HB_; clear HS; have HS := Aside0.mk HP; clear HP; clear HB_) | ((with_reducible refine gate_dst (N := 1) rfl ?_); (with_reducible refine box_new HS.out rfl rfl (by first | exact eval_tmp rfl | exact eval_const) ?_); intro g1 W1_ HP; clear HS; have HS := Aside0.mk HP; clear HP) | ((with_reducible refine gate_dst (N := 5) rfl ?_); (with_reducible refine load_seg HS.out rfl rfl ag61 rfl (by first | exact at0 | exact at1 | exact at2 | exact at3 | exact at4 | exact at5 | exact at6) (by with_reducible first | exact tc_el _ _ (by omega) | exact cc_el _ _ (by omega) | exact whole _) (by with_reducible first | exact mc_size _ | exact tc_size _ | exact cc_size _ | exact dc_size _ | exact rc_size _ | exact sz1 | exact sz2 | exact sz3 | exact sz4) ?_)) | ((with_reducible refine gate_dst (N := 8) rfl ?_); (with_reducible refine field_at rfl rfl rfl fo61_0 ?_); (try simp only [toNat_16, toNat_12, Int.toNat_natCast, Nat.zero_add, Nat.add_zero, Nat.mul_one])) | ((with_reducible refine gate_dst (N := 9) rfl ?_); (with_reducible refine load_one HS.out rfl rfl on3 rfl (by first | exact at0 | exact at1 | exact at2 | exact at3 | exact at4 | exact at5 | exact at6) (by with_reducible first | exact dc_get _ _ (by omega) | exact rc_get _ _ (by omega) | exact at0a | exact at1a | exact at2a | exact at3a) ?_)) | ((with_reducible refine gate_dst (N := 14) rfl ?_); (with_reducible refine field_at rfl rfl rfl fo61_0 ?_); (try simp only [toNat_16, toNat_12, Int.toNat_natCast, Nat.zero_add, Nat.add_zero, Nat.mul_one])) | ((with_reducible refine gate_dst (N := 15) rfl ?_); (with_reducible refine load_one HS.out rfl rfl on3 rfl (by first | exact at0 | exact at1 | exact at2 | exact at3 | exact at4 | exact at5 | exact at6) (by with_reducible first | exact dc_get _ _ (by omega) | exact rc_get _ _ (by omega) | exact at0a | exact at1a | exact at2a | exact at3a) ?_))); (try simp only [Act.put, List.setIfInBounds_toArray, List.set_cons_zero, List.set_cons_succ]))
 go_ret
 exact ⟨_, rfl, ⟨_, rfl, hR⟩, HS.out.below⟩
/-- A real number asked of a memory. -/
def Rl (m : Mm) (k n p : Int) (x : Nat) : Prop := if k = 10 then x = m.R (place 10 n).toNat else Ra k n p x
theorem Rl.same {m : Mm} {k n p : Int} {x y : Nat} (h : Rl m k n p x) (h2 : Rl m k n p y) : fsame x y := by
 unfold Rl at h h2
 split at h
 ·rename_i c; rw [if_pos c] at h2; exact .inl (h.trans h2.symm)
 ·rename_i c; rw [if_neg c] at h2; exact h.same h2

set_option maxHeartbeats 4000000 in
set_option maxRecDepth 100000 in
theorem c_MemReal (m : Mm) (k n p : Int) (w : World) (ht : TB.Tab w) : Calls Tryd.prog 34 #[.agg (mc m), .agg #[.int .i64 k, .int .i64 n, .int .i64 p]] w (Ret w (fun v => ∃ x : Nat, v = .float .f64 x ∧ Rl m k n p x)) := by
 have HS := Aside0.mk (Priv.nil w)
 have HT := Aside0.mk ht
 have HTT := Aside0.mk (tab_of ht)
 clear ht
 by_cases h10 : k = 10
 ·subst h10
  obtain ⟨j, hj, hlt⟩ := place_nat 10 n (by decide) 16 (by decide)
  have hR : Rl m 10 n p (m.R j) := by unfold Rl; rw [if_pos rfl, hj, Int.toNat_natCast]
  go_enter Tryd.func34, Tryd.ntmps34
  go_wp2_with ((first | ((with_reducible refine gate_dst (N := 9) rfl ?_); refine call_ev2 HS.out rfl rfl Tryd.func46 (by kernel_rfl) rfl (by (try simp only [List.map_toArray, List.map_cons, List.map_nil]); first | done | rfl) (c_placeE _ _ _ _ hj _ (HTT.out.below HS.out.below)) ?_; rintro v_ W_ rfl HP HB_; clear HS; have HS := Aside0.mk HP; clear HP; clear HB_) | ((with_reducible refine gate_dst (N := 2) rfl ?_); (with_reducible refine box_new HS.out rfl rfl (by first | exact eval_tmp rfl | exact eval_const) ?_); intro g2 W2_ HP; clear HS; have HS := Aside0.mk HP; clear HP) | ((with_reducible refine gate_dst (N := 3) rfl ?_); (with_reducible refine box_new HS.out rfl rfl (by first | exact eval_tmp rfl | exact eval_const) ?_); intro g3 W3_ HP; clear HS; have HS := Aside0.mk HP; clear HP) | ((with_reducible refine gate_dst (N := 5) rfl ?_); (with_reducible refine field_at rfl rfl rfl fo61_0 ?_); (try simp only [toNat_16, toNat_12, Int.toNat_natCast, Nat.zero_add, Nat.add_zero, Nat.mul_one])) | ((with_reducible refine gate_dst (N := 6) rfl ?_); (with_reducible refine load_one HS.out rfl rfl on3 rfl (by first | exact at0 | exact at1 | exact at2 | exact at3 | exact at4 | exact at5 | exact at6) (by with_reducible first | exact dc_get _ _ (by omega) | exact rc_get _ _ (by omega) | exact at0a | exact at1a | exact at2a | exact at3a) ?_)) | ((with_reducible refine gate_dst (N := 8) rfl ?_); (with_reducible refine load_seg HS.out rfl rfl ag61 rfl (by first | exact at0 | exact at1 | exact at2 | exact at3 | exact at4 | exact at5 | exact at6) (by with_reducible first | exact tc_el _ _ (by omega) | exact cc_el _ _ (by omega) | exact whole _) (by with_reducible first | exact mc_size _ | exact tc_size _ | exact cc_size _ | exact dc_size _ | exact rc_size _ | exact sz1 | exact sz2 | exact sz3 | exact sz4) ?_)) | ((with_reducible refine gate_dst (N := 10) rfl ?_); (with_reducible refine field_at rfl rfl rfl fo46_8 ?_); (try simp only [toNat_16, toNat_12, Int.toNat_natCast, Nat.zero_add, Nat.add_zero, Nat.mul_one])) | ((with_reducible refine gate_dst (N := 11) rfl ?_); (with_reducible refine index_at rfl rfl rfl rfl ar34 (by omega) (by omega) ?_); (try simp only [toNat_16, toNat_12, Int.toNat_natCast, Nat.zero_add, Nat.add_zero, Nat.mul_one])) | ((with_reducible refine gate_dst (N := 12) rfl ?_); (with_reducible refine load_one HS.out rfl rfl on33 rfl (by first | exact at0 | exact at1 | exact at2 | exact at3 | exact at4 | exact at5 | exact at6) (by with_reducible exact el_R _ _ (by omega)) ?_))); (try simp only [Act.put, List.setIfInBounds_toArray, List.set_cons_zero, List.set_cons_succ]))
  go_ret
  exact ⟨_, rfl, ⟨_, by first | rfl | (simp only [Int.toNat_natCast]; rfl), hR⟩, HS.out.below⟩
 ·have n10 : (k == 10) = false := beq_eq_false_iff_ne.mpr h10
  have hR : ∀ x, Ra k n p x → Rl m k n p x := fun x h => by unfold Rl; rw [if_neg h10]; exact h
  clear h10
  go_enter Tryd.func34, Tryd.ntmps34
  go_wp2_with ((first | ((with_reducible refine gate_dst (N := 14) rfl ?_); refine call_ret HS.out rfl rfl Tryd.func61 (by kernel_rfl) rfl (by (try simp only [List.map_toArray, List.map_cons, List.map_nil]); first | done | rfl) (c_RealArg _ _ _ _ (HT.out.below HS.out.below)) ?_; rintro v_ W_ ⟨x14, rfl, h14⟩ HP; clear HS; have HS := Aside0.mk HP; clear HP) | ((with_reducible refine gate_dst (N := 2) rfl ?_); (with_reducible refine box_new HS.out rfl rfl (by first | exact eval_tmp rfl | exact eval_const) ?_); intro g2 W2_ HP; clear HS; have HS := Aside0.mk HP; clear HP) | ((with_reducible refine gate_dst (N := 3) rfl ?_); (with_reducible refine box_new HS.out rfl rfl (by first | exact eval_tmp rfl | exact eval_const) ?_); intro g3 W3_ HP; clear HS; have HS := Aside0.mk HP; clear HP) | ((with_reducible refine gate_dst (N := 5) rfl ?_); (with_reducible refine field_at rfl rfl rfl fo61_0 ?_); (try simp only [toNat_16, toNat_12, Int.toNat_natCast, Nat.zero_add, Nat.add_zero, Nat.mul_one])) | ((with_reducible refine gate_dst (N := 6) rfl ?_); (with_reducible refine load_one HS.out rfl rfl on3 rfl (by first | exact at0 | exact at1 | exact at2 | exact at3 | exact at4 | exact at5 | exact at6) (by with_reducible first | exact dc_get _ _ (by omega) | exact rc_get _ _ (by omega) | exact at0a | exact at1a | exact at2a | exact at3a) ?_)) | ((with_reducible refine gate_dst (N := 13) rfl ?_); (with_reducible refine load_seg HS.out rfl rfl ag61 rfl (by first | exact at0 | exact at1 | exact at2 | exact at3 | exact at4 | exact at5 | exact at6) (by with_reducible first | exact tc_el _ _ (by omega) | exact cc_el _ _ (by omega) | exact whole _) (by with_reducible first | exact mc_size _ | exact tc_size _ | exact cc_size _ | exact dc_size _ | exact rc_size _ | exact sz1 | exact sz2 | exact sz3 | exact sz4) ?_))); (try simp only [Act.put, List.setIfInBounds_toArray, List.set_cons_zero, List.set_cons_succ]))
  go_ret
  exact ⟨_, rfl, ⟨_, rfl, hR _ h14⟩, HS.out.below⟩

set_option maxHeartbeats 4000000 in
set_option maxRecDepth 100000 in
theorem c_sMemReal (m : Mm) (k n p : Int) (w : World) : Calls Tryd.prog 20 #[.agg (mc m), .agg #[.int .i64 k, .int .i64 n, .int .i64 p]] w (Ret w (fun v => ∃ x : Nat, v = .float .f64 x ∧ Rl m k n p x)) := by
 have HS := Aside0.mk (Priv.nil w)
 by_cases h10 : k = 10
 ·subst h10
  obtain ⟨j, hj, hlt⟩ := place_nat 10 n (by decide) 16 (by decide)
  have hR : Rl m 10 n p (m.R j) := by unfold Rl; rw [if_pos rfl, hj, Int.toNat_natCast]
  go_enter Tryd.func20, Tryd.ntmps20
  go_wp2_with ((first | ((with_reducible refine gate_dst (N := 9) rfl ?_); refine call_ev2 HS.out rfl rfl Tryd.func50 (by kernel_rfl) rfl (by (try simp only [List.map_toArray, List.map_cons, List.map_nil]); first | done | rfl) (c_specAtE _ _ _ _ hj _) ?_; rintro v_ W_ rfl HP HB_; clear HS; have HS := Aside0.mk HP; clear HP; clear HB_) | ((with_reducible refine gate_dst (N := 2) rfl ?_); (with_reducible refine box_new HS.out rfl rfl (by first | exact eval_tmp rfl | exact eval_const) ?_); intro g2 W2_ HP; clear HS; have HS := Aside0.mk HP; clear HP) | ((with_reducible refine gate_dst (N := 3) rfl ?_); (with_reducible refine box_new HS.out rfl rfl (by first | exact eval_tmp rfl | exact eval_const) ?_); intro g3 W3_ HP; clear HS; have HS := Aside0.mk HP; clear HP) | ((with_reducible refine gate_dst (N := 5) rfl ?_); (with_reducible refine field_at rfl rfl rfl fo61_0 ?_); (try simp only [toNat_16, toNat_12, Int.toNat_natCast, Nat.zero_add, Nat.add_zero, Nat.mul_one])) | ((with_reducible refine gate_dst (N := 6) rfl ?_); (with_reducible refine load_one HS.out rfl rfl on3 rfl (by first | exact at0 | exact at1 | exact at2 | exact at3 | exact at4 | exact at5 | exact at6) (by with_reducible first | exact dc_get _ _ (by omega) | exact rc_get _ _ (by omega) | exact at0a | exact at1a | exact at2a | exact at3a) ?_)) | ((with_reducible refine gate_dst (N := 8) rfl ?_); (with_reducible refine load_seg HS.out rfl rfl ag61 rfl (by first | exact at0 | exact at1 | exact at2 | exact at3 | exact at4 | exact at5 | exact at6) (by with_reducible first | exact tc_el _ _ (by omega) | exact cc_el _ _ (by omega) | exact whole _) (by with_reducible first | exact mc_size _ | exact tc_size _ | exact cc_size _ | exact dc_size _ | exact rc_size _ | exact sz1 | exact sz2 | exact sz3 | exact sz4) ?_)) | ((with_reducible refine gate_dst (N := 10) rfl ?_); (with_reducible refine field_at rfl rfl rfl fo46_8 ?_); (try simp only [toNat_16, toNat_12, Int.toNat_natCast, Nat.zero_add, Nat.add_zero, Nat.mul_one])) | ((with_reducible refine gate_dst (N := 11) rfl ?_); (with_reducible refine index_at rfl rfl rfl rfl ar34 (by omega) (by omega) ?_); (try simp only [toNat_16, toNat_12, Int.toNat_natCast, Nat.zero_add, Nat.add_zero, Nat.mul_one])) | ((with_reducible refine gate_dst (N := 12) rfl ?_); (with_reducible refine load_one HS.out rfl rfl on33 rfl (by first | exact at0 | exact at1 | exact at2 | exact at3 | exact at4 | exact at5 | exact at6) (by with_reducible exact el_R _ _ (by omega)) ?_))); (try simp only [Act.put, List.setIfInBounds_toArray, List.set_cons_zero, List.set_cons_succ]))
  go_ret
  exact ⟨_, rfl, ⟨_, by first | rfl | (simp only [Int.toNat_natCast]; rfl), hR⟩, HS.out.below⟩
 ·have n10 : (k == 10) = false := beq_eq_false_iff_ne.mpr h10
  have hR : ∀ x, Ra k n p x → Rl m k n p x := fun x h => by unfold Rl; rw [if_neg h10]; exact h
  clear h10
  go_enter Tryd.func20, Tryd.ntmps20
  go_wp2_with ((first | ((with_reducible refine gate_dst (N := 14) rfl ?_); refine call_ret HS.out rfl rfl Tryd.func54 (by kernel_rfl) rfl (by (try simp only [List.map_toArray, List.map_cons, List.map_nil]); first | done | rfl) (c_sRealArg _ _ _ _) ?_; rintro v_ W_ ⟨x14, rfl, h14⟩ HP; clear HS; have HS := Aside0.mk HP; clear HP) | ((with_reducible refine gate_dst (N := 2) rfl ?_); (with_reducible refine box_new HS.out rfl rfl (by first | exact eval_tmp rfl | exact eval_const) ?_); intro g2 W2_ HP; clear HS; have HS := Aside0.mk HP; clear HP) | ((with_reducible refine gate_dst (N := 3) rfl ?_); (with_reducible refine box_new HS.out rfl rfl (by first | exact eval_tmp rfl | exact eval_const) ?_); intro g3 W3_ HP; clear HS; have HS := Aside0.mk HP; clear HP) | ((with_reducible refine gate_dst (N := 5) rfl ?_); (with_reducible refine field_at rfl rfl rfl fo61_0 ?_); (try simp only [toNat_16, toNat_12, Int.toNat_natCast, Nat.zero_add, Nat.add_zero, Nat.mul_one])) | ((with_reducible refine gate_dst (N := 6) rfl ?_); (with_reducible refine load_one HS.out rfl rfl on3 rfl (by first | exact at0 | exact at1 | exact at2 | exact at3 | exact at4 | exact at5 | exact at6) (by with_reducible first | exact dc_get _ _ (by omega) | exact rc_get _ _ (by omega) | exact at0a | exact at1a | exact at2a | exact at3a) ?_)) | ((with_reducible refine gate_dst (N := 13) rfl ?_); (with_reducible refine load_seg HS.out rfl rfl ag61 rfl (by first | exact at0 | exact at1 | exact at2 | exact at3 | exact at4 | exact at5 | exact at6) (by with_reducible first | exact tc_el _ _ (by omega) | exact cc_el _ _ (by omega) | exact whole _) (by with_reducible first | exact mc_size _ | exact tc_size _ | exact cc_size _ | exact dc_size _ | exact rc_size _ | exact sz1 | exact sz2 | exact sz3 | exact sz4) ?_))); (try simp only [Act.put, List.setIfInBounds_toArray, List.set_cons_zero, List.set_cons_succ]))
  go_ret
  exact ⟨_, rfl, ⟨_, rfl, hR _ h14⟩, HS.out.below⟩

end Go.Proofs.YtaegonmpjgdmgaaDoor.K
