/- Walks over the ladders' memory: what the functions of this seat answer. -/
import Derived.Test.YtaegonmpjgdmgaaDoorProg
import Derived.Test.YtaegonmpjgdmgaaDoorMW
import Derived.WalkKit
import Derived.Deep.LoopGhost
import Derived.Deep.DeepCutAuto
import Derived.BigFrame
import Derived.Deep.QuietTactic
import Derived.BigQuiet
import Derived.Test.YtaegonmpjgdmgaaDoorOB
import Derived.Test.YtaegonmpjgdmgaaDoorFx8
import Derived.Test.YtaegonmpjgdmgaaDoorOzTell
namespace Go.Proofs.YtaegonmpjgdmgaaDoor.K
open Go Go.RowKit Go.Proofs.YtaegonmpjgdmgaaDoorW Go.Proofs.YtaegonmpjgdmgaaDoorW.PrintWords Go.Proofs.YtaegonmpjgdmgaaDoor.MW
set_option linter.unusedVariables false
set_option linter.unusedSimpArgs false
set_option maxRecDepth 100000

theorem place_neg (k n : Int) (h : devN k ≠ 0) : place k n = if Int.tmod n (devN k) < 0 then wrap64 (Int.tmod n (devN k) + devN k) else Int.tmod n (devN k) := by
 have hs := devN_in k
 have ht := tmod_in n (devN k) (by omega)
 unfold place
 rw [if_neg h, place_raw k n h]
 by_cases c : Int.tmod n (devN k) < 0
 ·rw [if_pos c, Int.tmod_eq_of_lt (by omega) (by omega)]
  unfold wrap64; omega
 ·rw [if_neg c, Int.tmod_eq_emod_of_nonneg (by omega), Int.add_emod_right, Int.emod_eq_of_lt (by omega) (by omega)]
theorem specDevSize_ev (k : Int) : Ev (fun n => F.spec_DevSize.f n k) (devSize k) := by
 have j1 : ∀ (x : Int) (b : Bool), Ev (fun n => F.spec_DevSize.j1 n x b) (if b = true then 16 else if x = 6 then 5 else 0) := fun x b =>
  Ev.step (f := fun _ => some (if b = true then 16 else if x = 6 then 5 else 0)) (fun n => by
   simp only [F.spec_DevSize.j1]
   by_cases c : b = true
   ·rw [if_pos c, if_pos c]
   ·rw [if_neg c, if_neg c]
    by_cases c2 : x = 6
    ·rw [if_pos c2, if_pos c2]
    ·rw [if_neg c2, if_neg c2]) (Ev.now _)
 have j0 : ∀ (x : Int) (b : Bool), Ev (fun n => F.spec_DevSize.j0 n x b) (if b = true then 32 else if x = 3 then 64 else if x = 4 ∨ x = 7 ∨ x = 8 ∨ x = 10 then 16 else if x = 6 then 5 else 0) := by
  intro x b
  refine Ev.step (f := fun n => if b = true then some 32 else if x = 3 then some 64 else if x = 4 then F.spec_DevSize.j1 n x (x == 4) else if x = 7 then F.spec_DevSize.j1 n x (x == 7) else if x = 8 then F.spec_DevSize.j1 n x (x == 8) else F.spec_DevSize.j1 n x (x == 10)) (fun n => by simp only [F.spec_DevSize.j0]) ?_
  by_cases c : b = true
  ·simp only [if_pos c]; exact Ev.now _
  simp only [if_neg c]
  by_cases c3 : x = 3
  ·simp only [if_pos c3]; exact Ev.now _
  simp only [if_neg c3]
  by_cases c4 : x = 4
  ·subst c4; simp only [if_true, true_or]; exact j1 4 true
  simp only [if_neg c4]
  by_cases c7 : x = 7
  ·subst c7; simp only [if_true]; exact j1 7 true
  simp only [if_neg c7]
  by_cases c8 : x = 8
  ·subst c8; simp only [if_true]; exact j1 8 true
  simp only [if_neg c8]
  by_cases c10 : x = 10
  ·subst c10; exact j1 10 true
  ·rw [if_neg (show ¬ (x = 4 ∨ x = 7 ∨ x = 8 ∨ x = 10) by omega)]
   have h := j1 x (x == 10)
   rw [if_neg (show ¬ ((x == 10) = true) by simpa using c10)] at h
   exact h
 unfold F.spec_DevSize.f
 have hd : ∀ b : Bool, b = decide (k = 1 ∨ k = 2 ∨ k = 5 ∨ k = 9) → (if b = true then 32 else if k = 3 then 64 else if k = 4 ∨ k = 7 ∨ k = 8 ∨ k = 10 then 16 else if k = 6 then 5 else 0) = devSize k := by
  intro b hb
  subst hb
  unfold devSize
  by_cases h : 1 ≤ k ∧ k ≤ 10
  ·rw [if_pos h]
   have : k = 1 ∨ k = 2 ∨ k = 3 ∨ k = 4 ∨ k = 5 ∨ k = 6 ∨ k = 7 ∨ k = 8 ∨ k = 9 ∨ k = 10 := by omega
   rcases this with rfl | rfl | rfl | rfl | rfl | rfl | rfl | rfl | rfl | rfl <;> decide
  ·rw [if_neg h, decide_eq_false (by omega), if_neg (by decide), if_neg (by omega), if_neg (by omega), if_neg (by omega)]
 by_cases c1 : k = 1
 ·simp only [if_pos c1]; rw [← hd (k == 1) (by subst c1; decide)]; exact j0 _ _
 simp only [if_neg c1]
 by_cases c2 : k = 2
 ·simp only [if_pos c2]; rw [← hd (k == 2) (by subst c2; decide)]; exact j0 _ _
 simp only [if_neg c2]
 by_cases c5 : k = 5
 ·simp only [if_pos c5]; rw [← hd (k == 5) (by subst c5; decide)]; exact j0 _ _
 simp only [if_neg c5]
 rw [← hd (k == 9) (by
  by_cases c9 : k = 9
  ·subst c9; decide
  ·rw [decide_eq_false (by omega)]; simpa using c9)]
 exact j0 _ _
theorem l5At_ev (k n p : Int) : Ev (fun x => F.spec_l5At.f x k n p) (place k n) := by
 have j0 : ∀ d : Int, d = devN k → Ev (fun x => F.spec_l5At.j0 x d k n p) (place k n) := by
  intro d hd
  subst hd
  refine Ev.step (f := fun _ => some (place k n)) (fun x => ?_) (Ev.now _)
  simp only [F.spec_l5At.j0]
  by_cases c : devN k = 0
  ·rw [if_pos c]; unfold place; rw [if_pos c]
  ·rw [if_neg c, place_neg k n c]
   by_cases c2 : Int.tmod n (devN k) < 0
   ·rw [if_pos c2, if_pos c2]
   ·rw [if_neg c2, if_neg c2]
 unfold F.spec_l5At.f
 refine Ev.bind (specDevSize_ev k) ?_
 by_cases c : k = 6
 ·simp only [if_pos c]; exact j0 8 (by unfold devN; rw [if_pos c])
 ·simp only [if_neg c]; exact j0 _ (by unfold devN; rw [if_neg c])
theorem l5Bit_ev (x : Int) (j : Nat) (h0 : 0 ≤ x) (h1 : x < 18446744073709551616) (hj : j ≤ 64) : Ev (fun n => F.spec_l5Bit.f n x (j : Int)) (testb x j) := by
 have key : ∀ d i : Nat, j - i = d → i ≤ j → Ev (fun n => F.spec_l5Bit.l0 n (x / 2 ^ i) (j : Int) (i : Int)) (testb x j) := by
  intro d
  induction d with
  | zero =>
   intro i hd hi
   obtain rfl : i = j := by omega
   refine Ev.step (f := fun _ => some (testb x i)) (fun n => ?_) (Ev.now _)
   have hq := div_in x i _ h0 h1
   simp only [F.spec_l5Bit.l0]
   rw [if_neg (by omega), tb x i (Int.tmod_eq_emod_of_nonneg hq.1)]
  | succ d ih =>
   intro i hd hi
   refine Ev.step (fun n => ?_) (ih (i + 1) (by omega) (by omega))
   have hq := div_in x i _ h0 h1
   simp only [F.spec_l5Bit.l0]
   have w : wrap64 ((i : Int) + 1) = ((i + 1 : Nat) : Int) := by unfold wrap64; omega
   have e : IntKind.u64.wrap (Int.tdiv (x / 2 ^ i) 2) = x / 2 ^ (i + 1) := by
    rw [Int.tdiv_eq_ediv_of_nonneg hq.1, Int.pow_succ, ← Int.ediv_ediv_of_nonneg (Int.le_of_lt (Int.pow_pos (by decide))), IntKind.wrap_u64]
    omega
   rw [if_pos (by omega), w, e]
 have h := key j 0 (by omega) (by omega)
 unfold F.spec_l5Bit.f
 simpa using h

theorem c_specAt (k n p : Int) (w : World) : Calls Tryd.prog 50 #[.agg #[.int .i64 k, .int .i64 n, .int .i64 p]] w (Ret w (· = .int .i64 (place k n))) := by
 obtain ⟨f, hf⟩ := l5At_ev k n p
 exact Ret.of_eq (F.spec_l5At.calls f k n p _ w (hf f (Nat.le_refl _)))
theorem c_specBit (x : Int) (j : Nat) (jj : Int) (hjj : jj = j) (h0 : 0 ≤ x) (h1 : x < 18446744073709551616) (hj : j ≤ 64) (w : World) : Calls Tryd.prog 51 #[.int .u64 x, .int .i64 jj] w (Ret w (· = .bool (testb x j))) := by
 subst hjj
 obtain ⟨f, hf⟩ := l5Bit_ev x j h0 h1 hj
 refine Ret.of_eq ((F.spec_l5Bit.calls f x j _ w (hf f (Nat.le_refl _))).mono ?_)
 rintro e w' ⟨he, m, rfl⟩
 exact ⟨he, pw_below_drewN (Below.refl _ _) m⟩
def given (m : Mm) (j : Nat) : Bool := [true, false, !m.Ran, m.Fault, decide (500 ≤ m.Time % 1000), false, false, false].getD j false
set_option maxHeartbeats 4000000 in
set_option maxRecDepth 100000 in
theorem c_specGiven (m : Mm) (wf : m.wf) (j : Nat) (jj : Int) (hjj : jj = j) (hj : j < 8) (w : World) : Calls Tryd.prog 52 #[.agg (mc m), .int .i64 jj] w (Ret w (· = .bool (given m j))) := by
 subst hjj
 have HS := Aside0.mk (Priv.nil w)
 have htm : m.Time.tmod 1000 = m.Time % 1000 := Int.tmod_eq_emod_of_nonneg wf.Time.1
 obtain rfl | rfl | rfl | rfl | rfl | rfl | rfl | rfl : j = 0 ∨ j = 1 ∨ j = 2 ∨ j = 3 ∨ j = 4 ∨ j = 5 ∨ j = 6 ∨ j = 7 := by omega
 all_goals
  go_enter Tryd.func52, Tryd.ntmps52
  go_wp2_with ((first | ((with_reducible refine gate_dst (N := 2) rfl ?_); (with_reducible refine box_new HS.out rfl rfl (by first | exact eval_tmp rfl | exact eval_const) ?_); intro g2 W2_ HP; clear HS; have HS := Aside0.mk HP; clear HP) | ((with_reducible refine gate_dst (N := 10) rfl ?_); (with_reducible refine field_at rfl rfl rfl fo46_10 ?_); (try simp only [toNat_16, toNat_12, Int.toNat_natCast, Nat.zero_add, Nat.add_zero, Nat.mul_one])) | ((with_reducible refine gate_dst (N := 11) rfl ?_); (with_reducible refine load_one HS.out rfl rfl on4 rfl (by first | exact at0 | exact at1 | exact at2 | exact at3 | exact at4 | exact at5 | exact at6) (by with_reducible exact get_Ran _) ?_)) | ((with_reducible refine gate_dst (N := 15) rfl ?_); (with_reducible refine field_at rfl rfl rfl fo46_11 ?_); (try simp only [toNat_16, toNat_12, Int.toNat_natCast, Nat.zero_add, Nat.add_zero, Nat.mul_one])) | ((with_reducible refine gate_dst (N := 16) rfl ?_); (with_reducible refine load_one HS.out rfl rfl on4 rfl (by first | exact at0 | exact at1 | exact at2 | exact at3 | exact at4 | exact at5 | exact at6) (by with_reducible exact get_Fault _) ?_)) | ((with_reducible refine gate_dst (N := 19) rfl ?_); (with_reducible refine field_at rfl rfl rfl fo46_9 ?_); (try simp only [toNat_16, toNat_12, Int.toNat_natCast, Nat.zero_add, Nat.add_zero, Nat.mul_one])) | ((with_reducible refine gate_dst (N := 20) rfl ?_); (with_reducible refine load_one HS.out rfl rfl on22 rfl (by first | exact at0 | exact at1 | exact at2 | exact at3 | exact at4 | exact at5 | exact at6) (by with_reducible exact get_Time _) ?_))); (try simp only [Act.put, List.setIfInBounds_toArray, List.set_cons_zero, List.set_cons_succ]))
  go_ret
  exact ⟨_, rfl, by first | rfl | (simp [given]; done) | (simp [given, htm]; done), HS.out.below⟩

set_option maxHeartbeats 4000000 in
set_option maxRecDepth 100000 in
theorem c_specMemBit0 (m : Mm) (wf : m.wf) (k n p : Int) (j : Nat) (hj : place k n = j) (hlt : devN k ≠ 0 → (j : Int) < devN k) (w : World) : Calls Tryd.prog 16 #[.agg (mc m), .agg #[.int .i64 k, .int .i64 n, .int .i64 p]] w (Ret w (· = .bool (membit m k j))) := by
 have HS := Aside0.mk (Priv.nil w)
 by_cases h1 : k = 1
 ·subst h1
  have hlt2 : (j : Int) < 32 := hlt (by decide)
  have hb := wf.X
  go_enter Tryd.func16, Tryd.ntmps16
  go_wp2_with ((first | ((with_reducible refine gate_dst (N := 7) rfl ?_); refine call_ev2 HS.out rfl rfl Tryd.func50 (by kernel_rfl) rfl (by (try simp only [List.map_toArray, List.map_cons, List.map_nil]); first | done | rfl) (c_specAt _ _ _ _) ?_; rintro v_ W_ rfl HP HB_; clear HS; have HS := Aside0.mk HP; clear HP; clear HB_) | ((with_reducible refine gate_dst (N := 16) rfl ?_); refine call_ev2 HS.out rfl rfl Tryd.func51 (by kernel_rfl) rfl (by (try simp only [List.map_toArray, List.map_cons, List.map_nil]); first | done | rfl) (c_specBit _ j _ (by first | rfl | omega | assumption) (by omega) (by omega) (by omega) _) ?_; rintro v_ W_ rfl HP HB_; clear HS; have HS := Aside0.mk HP; clear HP; clear HB_) | ((with_reducible refine gate_dst (N := 2) rfl ?_); (with_reducible refine box_new HS.out rfl rfl (by first | exact eval_tmp rfl | exact eval_const) ?_); intro g2 W2_ HP; clear HS; have HS := Aside0.mk HP; clear HP) | ((with_reducible refine gate_dst (N := 3) rfl ?_); (with_reducible refine box_new HS.out rfl rfl (by first | exact eval_tmp rfl | exact eval_const) ?_); intro g3 W3_ HP; clear HS; have HS := Aside0.mk HP; clear HP) | ((with_reducible refine gate_dst (N := 6) rfl ?_); (with_reducible refine load_seg HS.out rfl rfl ag61 rfl (by first | exact at0 | exact at1 | exact at2 | exact at3 | exact at4 | exact at5 | exact at6) (by with_reducible first | exact tc_el _ _ (by omega) | exact cc_el _ _ (by omega) | exact whole _) (by with_reducible first | exact mc_size _ | exact tc_size _ | exact cc_size _ | exact dc_size _ | exact rc_size _ | exact sz1 | exact sz2 | exact sz3 | exact sz4) ?_)) | ((with_reducible refine gate_dst (N := 8) rfl ?_); (with_reducible refine field_at rfl rfl rfl fo61_0 ?_); (try simp only [toNat_16, toNat_12, Int.toNat_natCast, Nat.zero_add, Nat.add_zero, Nat.mul_one])) | ((with_reducible refine gate_dst (N := 9) rfl ?_); (with_reducible refine load_one HS.out rfl rfl on3 rfl (by first | exact at0 | exact at1 | exact at2 | exact at3 | exact at4 | exact at5 | exact at6) (by with_reducible first | exact dc_get _ _ (by omega) | exact rc_get _ _ (by omega) | exact at0a | exact at1a | exact at2a | exact at3a) ?_)) | ((with_reducible refine gate_dst (N := 12) rfl ?_); (with_reducible refine field_at rfl rfl rfl fo46_0 ?_); (try simp only [toNat_16, toNat_12, Int.toNat_natCast, Nat.zero_add, Nat.add_zero, Nat.mul_one])) | ((with_reducible refine gate_dst (N := 13) rfl ?_); (with_reducible refine load_one HS.out rfl rfl on22 rfl (by first | exact at0 | exact at1 | exact at2 | exact at3 | exact at4 | exact at5 | exact at6) (by with_reducible exact get_X _) ?_))); (try simp only [Act.put, List.setIfInBounds_toArray, List.set_cons_zero, List.set_cons_succ]))
  go_ret
  exact ⟨_, rfl, rfl, HS.out.below⟩
 by_cases h2 : k = 2
 ·subst h2
  have hlt2 : (j : Int) < 32 := hlt (by decide)
  have hb := wf.Y
  go_enter Tryd.func16, Tryd.ntmps16
  go_wp2_with ((first | ((with_reducible refine gate_dst (N := 7) rfl ?_); refine call_ev2 HS.out rfl rfl Tryd.func50 (by kernel_rfl) rfl (by (try simp only [List.map_toArray, List.map_cons, List.map_nil]); first | done | rfl) (c_specAt _ _ _ _) ?_; rintro v_ W_ rfl HP HB_; clear HS; have HS := Aside0.mk HP; clear HP; clear HB_) | ((with_reducible refine gate_dst (N := 23) rfl ?_); refine call_ev2 HS.out rfl rfl Tryd.func51 (by kernel_rfl) rfl (by (try simp only [List.map_toArray, List.map_cons, List.map_nil]); first | done | rfl) (c_specBit _ j _ (by first | rfl | omega | assumption) (by omega) (by omega) (by omega) _) ?_; rintro v_ W_ rfl HP HB_; clear HS; have HS := Aside0.mk HP; clear HP; clear HB_) | ((with_reducible refine gate_dst (N := 2) rfl ?_); (with_reducible refine box_new HS.out rfl rfl (by first | exact eval_tmp rfl | exact eval_const) ?_); intro g2 W2_ HP; clear HS; have HS := Aside0.mk HP; clear HP) | ((with_reducible refine gate_dst (N := 3) rfl ?_); (with_reducible refine box_new HS.out rfl rfl (by first | exact eval_tmp rfl | exact eval_const) ?_); intro g3 W3_ HP; clear HS; have HS := Aside0.mk HP; clear HP) | ((with_reducible refine gate_dst (N := 6) rfl ?_); (with_reducible refine load_seg HS.out rfl rfl ag61 rfl (by first | exact at0 | exact at1 | exact at2 | exact at3 | exact at4 | exact at5 | exact at6) (by with_reducible first | exact tc_el _ _ (by omega) | exact cc_el _ _ (by omega) | exact whole _) (by with_reducible first | exact mc_size _ | exact tc_size _ | exact cc_size _ | exact dc_size _ | exact rc_size _ | exact sz1 | exact sz2 | exact sz3 | exact sz4) ?_)) | ((with_reducible refine gate_dst (N := 8) rfl ?_); (with_reducible refine field_at rfl rfl rfl fo61_0 ?_); (try simp only [toNat_16, toNat_12, Int.toNat_natCast, Nat.zero_add, Nat.add_zero, Nat.mul_one])) | ((with_reducible refine gate_dst (N := 9) rfl ?_); (with_reducible refine load_one HS.out rfl rfl on3 rfl (by first | exact at0 | exact at1 | exact at2 | exact at3 | exact at4 | exact at5 | exact at6) (by with_reducible first | exact dc_get _ _ (by omega) | exact rc_get _ _ (by omega) | exact at0a | exact at1a | exact at2a | exact at3a) ?_)) | ((with_reducible refine gate_dst (N := 19) rfl ?_); (with_reducible refine field_at rfl rfl rfl fo46_1 ?_); (try simp only [toNat_16, toNat_12, Int.toNat_natCast, Nat.zero_add, Nat.add_zero, Nat.mul_one])) | ((with_reducible refine gate_dst (N := 20) rfl ?_); (with_reducible refine load_one HS.out rfl rfl on22 rfl (by first | exact at0 | exact at1 | exact at2 | exact at3 | exact at4 | exact at5 | exact at6) (by with_reducible exact get_Y _) ?_))); (try simp only [Act.put, List.setIfInBounds_toArray, List.set_cons_zero, List.set_cons_succ]))
  go_ret
  exact ⟨_, rfl, rfl, HS.out.below⟩
 by_cases h3 : k = 3
 ·subst h3
  have hlt2 : (j : Int) < 64 := hlt (by decide)
  have hb := wf.M
  go_enter Tryd.func16, Tryd.ntmps16
  go_wp2_with ((first | ((with_reducible refine gate_dst (N := 7) rfl ?_); refine call_ev2 HS.out rfl rfl Tryd.func50 (by kernel_rfl) rfl (by (try simp only [List.map_toArray, List.map_cons, List.map_nil]); first | done | rfl) (c_specAt _ _ _ _) ?_; rintro v_ W_ rfl HP HB_; clear HS; have HS := Aside0.mk HP; clear HP; clear HB_) | ((with_reducible refine gate_dst (N := 29) rfl ?_); refine call_ev2 HS.out rfl rfl Tryd.func51 (by kernel_rfl) rfl (by (try simp only [List.map_toArray, List.map_cons, List.map_nil]); first | done | rfl) (c_specBit _ j _ (by first | rfl | omega | assumption) (by omega) (by omega) (by omega) _) ?_; rintro v_ W_ rfl HP HB_; clear HS; have HS := Aside0.mk HP; clear HP; clear HB_) | ((with_reducible refine gate_dst (N := 2) rfl ?_); (with_reducible refine box_new HS.out rfl rfl (by first | exact eval_tmp rfl | exact eval_const) ?_); intro g2 W2_ HP; clear HS; have HS := Aside0.mk HP; clear HP) | ((with_reducible refine gate_dst (N := 3) rfl ?_); (with_reducible refine box_new HS.out rfl rfl (by first | exact eval_tmp rfl | exact eval_const) ?_); intro g3 W3_ HP; clear HS; have HS := Aside0.mk HP; clear HP) | ((with_reducible refine gate_dst (N := 6) rfl ?_); (with_reducible refine load_seg HS.out rfl rfl ag61 rfl (by first | exact at0 | exact at1 | exact at2 | exact at3 | exact at4 | exact at5 | exact at6) (by with_reducible first | exact tc_el _ _ (by omega) | exact cc_el _ _ (by omega) | exact whole _) (by with_reducible first | exact mc_size _ | exact tc_size _ | exact cc_size _ | exact dc_size _ | exact rc_size _ | exact sz1 | exact sz2 | exact sz3 | exact sz4) ?_)) | ((with_reducible refine gate_dst (N := 8) rfl ?_); (with_reducible refine field_at rfl rfl rfl fo61_0 ?_); (try simp only [toNat_16, toNat_12, Int.toNat_natCast, Nat.zero_add, Nat.add_zero, Nat.mul_one])) | ((with_reducible refine gate_dst (N := 9) rfl ?_); (with_reducible refine load_one HS.out rfl rfl on3 rfl (by first | exact at0 | exact at1 | exact at2 | exact at3 | exact at4 | exact at5 | exact at6) (by with_reducible first | exact dc_get _ _ (by omega) | exact rc_get _ _ (by omega) | exact at0a | exact at1a | exact at2a | exact at3a) ?_)) | ((with_reducible refine gate_dst (N := 26) rfl ?_); (with_reducible refine field_at rfl rfl rfl fo46_2 ?_); (try simp only [toNat_16, toNat_12, Int.toNat_natCast, Nat.zero_add, Nat.add_zero, Nat.mul_one])) | ((with_reducible refine gate_dst (N := 27) rfl ?_); (with_reducible refine load_one HS.out rfl rfl on23 rfl (by first | exact at0 | exact at1 | exact at2 | exact at3 | exact at4 | exact at5 | exact at6) (by with_reducible exact get_M _) ?_))); (try simp only [Act.put, List.setIfInBounds_toArray, List.set_cons_zero, List.set_cons_succ]))
  go_ret
  exact ⟨_, rfl, rfl, HS.out.below⟩
 by_cases h4 : k = 4
 ·subst h4
  have hlt2 : (j : Int) < 16 := hlt (by decide)
  have hb := wf.S
  go_enter Tryd.func16, Tryd.ntmps16
  go_wp2_with ((first | ((with_reducible refine gate_dst (N := 7) rfl ?_); refine call_ev2 HS.out rfl rfl Tryd.func50 (by kernel_rfl) rfl (by (try simp only [List.map_toArray, List.map_cons, List.map_nil]); first | done | rfl) (c_specAt _ _ _ _) ?_; rintro v_ W_ rfl HP HB_; clear HS; have HS := Aside0.mk HP; clear HP; clear HB_) | ((with_reducible refine gate_dst (N := 36) rfl ?_); refine call_ev2 HS.out rfl rfl Tryd.func51 (by kernel_rfl) rfl (by (try simp only [List.map_toArray, List.map_cons, List.map_nil]); first | done | rfl) (c_specBit _ j _ (by first | rfl | omega | assumption) (by omega) (by omega) (by omega) _) ?_; rintro v_ W_ rfl HP HB_; clear HS; have HS := Aside0.mk HP; clear HP; clear HB_) | ((with_reducible refine gate_dst (N := 2) rfl ?_); (with_reducible refine box_new HS.out rfl rfl (by first | exact eval_tmp rfl | exact eval_const) ?_); intro g2 W2_ HP; clear HS; have HS := Aside0.mk HP; clear HP) | ((with_reducible refine gate_dst (N := 3) rfl ?_); (with_reducible refine box_new HS.out rfl rfl (by first | exact eval_tmp rfl | exact eval_const) ?_); intro g3 W3_ HP; clear HS; have HS := Aside0.mk HP; clear HP) | ((with_reducible refine gate_dst (N := 6) rfl ?_); (with_reducible refine load_seg HS.out rfl rfl ag61 rfl (by first | exact at0 | exact at1 | exact at2 | exact at3 | exact at4 | exact at5 | exact at6) (by with_reducible first | exact tc_el _ _ (by omega) | exact cc_el _ _ (by omega) | exact whole _) (by with_reducible first | exact mc_size _ | exact tc_size _ | exact cc_size _ | exact dc_size _ | exact rc_size _ | exact sz1 | exact sz2 | exact sz3 | exact sz4) ?_)) | ((with_reducible refine gate_dst (N := 8) rfl ?_); (with_reducible refine field_at rfl rfl rfl fo61_0 ?_); (try simp only [toNat_16, toNat_12, Int.toNat_natCast, Nat.zero_add, Nat.add_zero, Nat.mul_one])) | ((with_reducible refine gate_dst (N := 9) rfl ?_); (with_reducible refine load_one HS.out rfl rfl on3 rfl (by first | exact at0 | exact at1 | exact at2 | exact at3 | exact at4 | exact at5 | exact at6) (by with_reducible first | exact dc_get _ _ (by omega) | exact rc_get _ _ (by omega) | exact at0a | exact at1a | exact at2a | exact at3a) ?_)) | ((with_reducible refine gate_dst (N := 32) rfl ?_); (with_reducible refine field_at rfl rfl rfl fo46_3 ?_); (try simp only [toNat_16, toNat_12, Int.toNat_natCast, Nat.zero_add, Nat.add_zero, Nat.mul_one])) | ((with_reducible refine gate_dst (N := 33) rfl ?_); (with_reducible refine load_one HS.out rfl rfl on24 rfl (by first | exact at0 | exact at1 | exact at2 | exact at3 | exact at4 | exact at5 | exact at6) (by with_reducible exact get_S _) ?_))); (try simp only [Act.put, List.setIfInBounds_toArray, List.set_cons_zero, List.set_cons_succ]))
  go_ret
  exact ⟨_, rfl, rfl, HS.out.below⟩
 by_cases h5 : k = 5
 ·subst h5
  have hlt2 : (j : Int) < 32 := hlt (by decide)
  have hb := wf.E
  go_enter Tryd.func16, Tryd.ntmps16
  go_wp2_with ((first | ((with_reducible refine gate_dst (N := 7) rfl ?_); refine call_ev2 HS.out rfl rfl Tryd.func50 (by kernel_rfl) rfl (by (try simp only [List.map_toArray, List.map_cons, List.map_nil]); first | done | rfl) (c_specAt _ _ _ _) ?_; rintro v_ W_ rfl HP HB_; clear HS; have HS := Aside0.mk HP; clear HP; clear HB_) | ((with_reducible refine gate_dst (N := 43) rfl ?_); refine call_ev2 HS.out rfl rfl Tryd.func51 (by kernel_rfl) rfl (by (try simp only [List.map_toArray, List.map_cons, List.map_nil]); first | done | rfl) (c_specBit _ j _ (by first | rfl | omega | assumption) (by omega) (by omega) (by omega) _) ?_; rintro v_ W_ rfl HP HB_; clear HS; have HS := Aside0.mk HP; clear HP; clear HB_) | ((with_reducible refine gate_dst (N := 2) rfl ?_); (with_reducible refine box_new HS.out rfl rfl (by first | exact eval_tmp rfl | exact eval_const) ?_); intro g2 W2_ HP; clear HS; have HS := Aside0.mk HP; clear HP) | ((with_reducible refine gate_dst (N := 3) rfl ?_); (with_reducible refine box_new HS.out rfl rfl (by first | exact eval_tmp rfl | exact eval_const) ?_); intro g3 W3_ HP; clear HS; have HS := Aside0.mk HP; clear HP) | ((with_reducible refine gate_dst (N := 6) rfl ?_); (with_reducible refine load_seg HS.out rfl rfl ag61 rfl (by first | exact at0 | exact at1 | exact at2 | exact at3 | exact at4 | exact at5 | exact at6) (by with_reducible first | exact tc_el _ _ (by omega) | exact cc_el _ _ (by omega) | exact whole _) (by with_reducible first | exact mc_size _ | exact tc_size _ | exact cc_size _ | exact dc_size _ | exact rc_size _ | exact sz1 | exact sz2 | exact sz3 | exact sz4) ?_)) | ((with_reducible refine gate_dst (N := 8) rfl ?_); (with_reducible refine field_at rfl rfl rfl fo61_0 ?_); (try simp only [toNat_16, toNat_12, Int.toNat_natCast, Nat.zero_add, Nat.add_zero, Nat.mul_one])) | ((with_reducible refine gate_dst (N := 9) rfl ?_); (with_reducible refine load_one HS.out rfl rfl on3 rfl (by first | exact at0 | exact at1 | exact at2 | exact at3 | exact at4 | exact at5 | exact at6) (by with_reducible first | exact dc_get _ _ (by omega) | exact rc_get _ _ (by omega) | exact at0a | exact at1a | exact at2a | exact at3a) ?_)) | ((with_reducible refine gate_dst (N := 39) rfl ?_); (with_reducible refine field_at rfl rfl rfl fo46_4 ?_); (try simp only [toNat_16, toNat_12, Int.toNat_natCast, Nat.zero_add, Nat.add_zero, Nat.mul_one])) | ((with_reducible refine gate_dst (N := 40) rfl ?_); (with_reducible refine load_one HS.out rfl rfl on22 rfl (by first | exact at0 | exact at1 | exact at2 | exact at3 | exact at4 | exact at5 | exact at6) (by with_reducible exact get_E _) ?_))); (try simp only [Act.put, List.setIfInBounds_toArray, List.set_cons_zero, List.set_cons_succ]))
  go_ret
  exact ⟨_, rfl, rfl, HS.out.below⟩
 by_cases h7 : k = 7
 ·subst h7
  have hlt2 : (j : Int) < 16 := hlt (by decide)
  go_enter Tryd.func16, Tryd.ntmps16
  go_wp2_with ((first | ((with_reducible refine gate_dst (N := 7) rfl ?_); refine call_ev2 HS.out rfl rfl Tryd.func50 (by kernel_rfl) rfl (by (try simp only [List.map_toArray, List.map_cons, List.map_nil]); first | done | rfl) (c_specAt _ _ _ _) ?_; rintro v_ W_ rfl HP HB_; clear HS; have HS := Aside0.mk HP; clear HP; clear HB_) | ((with_reducible refine gate_dst (N := 2) rfl ?_); (with_reducible refine box_new HS.out rfl rfl (by first | exact eval_tmp rfl | exact eval_const) ?_); intro g2 W2_ HP; clear HS; have HS := Aside0.mk HP; clear HP) | ((with_reducible refine gate_dst (N := 3) rfl ?_); (with_reducible refine box_new HS.out rfl rfl (by first | exact eval_tmp rfl | exact eval_const) ?_); intro g3 W3_ HP; clear HS; have HS := Aside0.mk HP; clear HP) | ((with_reducible refine gate_dst (N := 6) rfl ?_); (with_reducible refine load_seg HS.out rfl rfl ag61 rfl (by first | exact at0 | exact at1 | exact at2 | exact at3 | exact at4 | exact at5 | exact at6) (by with_reducible first | exact tc_el _ _ (by omega) | exact cc_el _ _ (by omega) | exact whole _) (by with_reducible first | exact mc_size _ | exact tc_size _ | exact cc_size _ | exact dc_size _ | exact rc_size _ | exact sz1 | exact sz2 | exact sz3 | exact sz4) ?_)) | ((with_reducible refine gate_dst (N := 8) rfl ?_); (with_reducible refine field_at rfl rfl rfl fo61_0 ?_); (try simp only [toNat_16, toNat_12, Int.toNat_natCast, Nat.zero_add, Nat.add_zero, Nat.mul_one])) | ((with_reducible refine gate_dst (N := 9) rfl ?_); (with_reducible refine load_one HS.out rfl rfl on3 rfl (by first | exact at0 | exact at1 | exact at2 | exact at3 | exact at4 | exact at5 | exact at6) (by with_reducible first | exact dc_get _ _ (by omega) | exact rc_get _ _ (by omega) | exact at0a | exact at1a | exact at2a | exact at3a) ?_)) | ((with_reducible refine gate_dst (N := 52) rfl ?_); (with_reducible refine field_at rfl rfl rfl fo46_5 ?_); (try simp only [toNat_16, toNat_12, Int.toNat_natCast, Nat.zero_add, Nat.add_zero, Nat.mul_one])) | ((with_reducible refine gate_dst (N := 53) rfl ?_); (with_reducible refine index_at rfl rfl rfl rfl ar42 (by omega) (by omega) ?_); (try simp only [toNat_16, toNat_12, Int.toNat_natCast, Nat.zero_add, Nat.add_zero, Nat.mul_one])) | ((with_reducible refine gate_dst (N := 54) rfl ?_); (with_reducible refine field_at rfl rfl rfl fo41_0 ?_); (try simp only [toNat_16, toNat_12, Int.toNat_natCast, Nat.zero_add, Nat.add_zero, Nat.mul_one])) | ((with_reducible refine gate_dst (N := 55) rfl ?_); (with_reducible refine load_one HS.out rfl rfl on4 rfl (by first | exact at0 | exact at1 | exact at2 | exact at3 | exact at4 | exact at5 | exact at6) (by with_reducible first | exact el_T0 _ _ (by omega) | exact el_T1 _ _ (by omega)) ?_))); (try simp only [Act.put, List.setIfInBounds_toArray, List.set_cons_zero, List.set_cons_succ]))
  go_ret
  exact ⟨_, rfl, congrArg Value.bool (by first | rfl | (simp only [Int.toNat_natCast]; rfl) | (simp only [hj, Int.toNat_natCast]; rfl)), HS.out.below⟩
 by_cases h8 : k = 8
 ·subst h8
  have hlt2 : (j : Int) < 16 := hlt (by decide)
  go_enter Tryd.func16, Tryd.ntmps16
  go_wp2_with ((first | ((with_reducible refine gate_dst (N := 7) rfl ?_); refine call_ev2 HS.out rfl rfl Tryd.func50 (by kernel_rfl) rfl (by (try simp only [List.map_toArray, List.map_cons, List.map_nil]); first | done | rfl) (c_specAt _ _ _ _) ?_; rintro v_ W_ rfl HP HB_; clear HS; have HS := Aside0.mk HP; clear HP; clear HB_) | ((with_reducible refine gate_dst (N := 2) rfl ?_); (with_reducible refine box_new HS.out rfl rfl (by first | exact eval_tmp rfl | exact eval_const) ?_); intro g2 W2_ HP; clear HS; have HS := Aside0.mk HP; clear HP) | ((with_reducible refine gate_dst (N := 3) rfl ?_); (with_reducible refine box_new HS.out rfl rfl (by first | exact eval_tmp rfl | exact eval_const) ?_); intro g3 W3_ HP; clear HS; have HS := Aside0.mk HP; clear HP) | ((with_reducible refine gate_dst (N := 6) rfl ?_); (with_reducible refine load_seg HS.out rfl rfl ag61 rfl (by first | exact at0 | exact at1 | exact at2 | exact at3 | exact at4 | exact at5 | exact at6) (by with_reducible first | exact tc_el _ _ (by omega) | exact cc_el _ _ (by omega) | exact whole _) (by with_reducible first | exact mc_size _ | exact tc_size _ | exact cc_size _ | exact dc_size _ | exact rc_size _ | exact sz1 | exact sz2 | exact sz3 | exact sz4) ?_)) | ((with_reducible refine gate_dst (N := 8) rfl ?_); (with_reducible refine field_at rfl rfl rfl fo61_0 ?_); (try simp only [toNat_16, toNat_12, Int.toNat_natCast, Nat.zero_add, Nat.add_zero, Nat.mul_one])) | ((with_reducible refine gate_dst (N := 9) rfl ?_); (with_reducible refine load_one HS.out rfl rfl on3 rfl (by first | exact at0 | exact at1 | exact at2 | exact at3 | exact at4 | exact at5 | exact at6) (by with_reducible first | exact dc_get _ _ (by omega) | exact rc_get _ _ (by omega) | exact at0a | exact at1a | exact at2a | exact at3a) ?_)) | ((with_reducible refine gate_dst (N := 59) rfl ?_); (with_reducible refine field_at rfl rfl rfl fo46_6 ?_); (try simp only [toNat_16, toNat_12, Int.toNat_natCast, Nat.zero_add, Nat.add_zero, Nat.mul_one])) | ((with_reducible refine gate_dst (N := 60) rfl ?_); (with_reducible refine index_at rfl rfl rfl rfl ar44 (by omega) (by omega) ?_); (try simp only [toNat_16, toNat_12, Int.toNat_natCast, Nat.zero_add, Nat.add_zero, Nat.mul_one])) | ((with_reducible refine gate_dst (N := 61) rfl ?_); (with_reducible refine field_at rfl rfl rfl fo43_0 ?_); (try simp only [toNat_16, toNat_12, Int.toNat_natCast, Nat.zero_add, Nat.add_zero, Nat.mul_one])) | ((with_reducible refine gate_dst (N := 62) rfl ?_); (with_reducible refine load_one HS.out rfl rfl on4 rfl (by first | exact at0 | exact at1 | exact at2 | exact at3 | exact at4 | exact at5 | exact at6) (by with_reducible first | exact el_C0 _ _ (by omega) | exact el_C1 _ _ (by omega) | exact el_C2 _ _ (by omega)) ?_))); (try simp only [Act.put, List.setIfInBounds_toArray, List.set_cons_zero, List.set_cons_succ]))
  go_ret
  exact ⟨_, rfl, congrArg Value.bool (by first | rfl | (simp only [Int.toNat_natCast]; rfl) | (simp only [hj, Int.toNat_natCast]; rfl)), HS.out.below⟩
 by_cases h6 : k = 6
 ·subst h6
  have hlt2 : (j : Int) < 8 := hlt (by decide)
  go_enter Tryd.func16, Tryd.ntmps16
  go_wp2_with ((first | ((with_reducible refine gate_dst (N := 7) rfl ?_); refine call_ev2 HS.out rfl rfl Tryd.func50 (by kernel_rfl) rfl (by (try simp only [List.map_toArray, List.map_cons, List.map_nil]); first | done | rfl) (c_specAt _ _ _ _) ?_; rintro v_ W_ rfl HP HB_; clear HS; have HS := Aside0.mk HP; clear HP; clear HB_) | ((with_reducible refine gate_dst (N := 48) rfl ?_); refine call_ev2 HS.out rfl rfl Tryd.func52 (by kernel_rfl) rfl (by (try simp only [List.map_toArray, List.map_cons, List.map_nil]); first | done | rfl) (c_specGiven m wf j _ (by first | rfl | omega | assumption) (by omega) _) ?_; rintro v_ W_ rfl HP HB_; clear HS; have HS := Aside0.mk HP; clear HP; clear HB_) | ((with_reducible refine gate_dst (N := 2) rfl ?_); (with_reducible refine box_new HS.out rfl rfl (by first | exact eval_tmp rfl | exact eval_const) ?_); intro g2 W2_ HP; clear HS; have HS := Aside0.mk HP; clear HP) | ((with_reducible refine gate_dst (N := 3) rfl ?_); (with_reducible refine box_new HS.out rfl rfl (by first | exact eval_tmp rfl | exact eval_const) ?_); intro g3 W3_ HP; clear HS; have HS := Aside0.mk HP; clear HP) | ((with_reducible refine gate_dst (N := 6) rfl ?_); (with_reducible refine load_seg HS.out rfl rfl ag61 rfl (by first | exact at0 | exact at1 | exact at2 | exact at3 | exact at4 | exact at5 | exact at6) (by with_reducible first | exact tc_el _ _ (by omega) | exact cc_el _ _ (by omega) | exact whole _) (by with_reducible first | exact mc_size _ | exact tc_size _ | exact cc_size _ | exact dc_size _ | exact rc_size _ | exact sz1 | exact sz2 | exact sz3 | exact sz4) ?_)) | ((with_reducible refine gate_dst (N := 8) rfl ?_); (with_reducible refine field_at rfl rfl rfl fo61_0 ?_); (try simp only [toNat_16, toNat_12, Int.toNat_natCast, Nat.zero_add, Nat.add_zero, Nat.mul_one])) | ((with_reducible refine gate_dst (N := 9) rfl ?_); (with_reducible refine load_one HS.out rfl rfl on3 rfl (by first | exact at0 | exact at1 | exact at2 | exact at3 | exact at4 | exact at5 | exact at6) (by with_reducible first | exact dc_get _ _ (by omega) | exact rc_get _ _ (by omega) | exact at0a | exact at1a | exact at2a | exact at3a) ?_)) | ((with_reducible refine gate_dst (N := 46) rfl ?_); (with_reducible refine load_seg HS.out rfl rfl ag46 rfl (by first | exact at0 | exact at1 | exact at2 | exact at3 | exact at4 | exact at5 | exact at6) (by with_reducible first | exact tc_el _ _ (by omega) | exact cc_el _ _ (by omega) | exact whole _) (by with_reducible first | exact mc_size _ | exact tc_size _ | exact cc_size _ | exact dc_size _ | exact rc_size _ | exact sz1 | exact sz2 | exact sz3 | exact sz4) ?_))); (try simp only [Act.put, List.setIfInBounds_toArray, List.set_cons_zero, List.set_cons_succ]))
  go_ret
  exact ⟨_, rfl, rfl, HS.out.below⟩
 have n1 : (k == 1) = false := by simp; omega
 have n2 : (k == 2) = false := by simp; omega
 have n3 : (k == 3) = false := by simp; omega
 have n4 : (k == 4) = false := by simp; omega
 have n5 : (k == 5) = false := by simp; omega
 have n6 : (k == 6) = false := by simp; omega
 have n7 : (k == 7) = false := by simp; omega
 have n8 : (k == 8) = false := by simp; omega
 have e_ : membit m k j = false := by unfold membit; simp only [h1, h2, h3, h4, h5, h6, h7, h8, if_false]
 rw [e_]
 clear h1 h2 h3 h4 h5 h6 h7 h8 e_
 go_enter Tryd.func16, Tryd.ntmps16
 go_wp2_with ((first | ((with_reducible refine gate_dst (N := 7) rfl ?_); refine call_ev2 HS.out rfl rfl Tryd.func50 (by kernel_rfl) rfl (by (try simp only [List.map_toArray, List.map_cons, List.map_nil]); first | done | rfl) (c_specAt _ _ _ _) ?_; rintro v_ W_ rfl HP HB_; clear HS; have HS := Aside0.mk HP; clear HP; clear HB_) | ((with_reducible refine gate_dst (N := 2) rfl ?_); (with_reducible refine box_new HS.out rfl rfl (by first | exact eval_tmp rfl | exact eval_const) ?_); intro g2 W2_ HP; clear HS; have HS := Aside0.mk HP; clear HP) | ((with_reducible refine gate_dst (N := 3) rfl ?_); (with_reducible refine box_new HS.out rfl rfl (by first | exact eval_tmp rfl | exact eval_const) ?_); intro g3 W3_ HP; clear HS; have HS := Aside0.mk HP; clear HP) | ((with_reducible refine gate_dst (N := 6) rfl ?_); (with_reducible refine load_seg HS.out rfl rfl ag61 rfl (by first | exact at0 | exact at1 | exact at2 | exact at3 | exact at4 | exact at5 | exact at6) (by with_reducible first | exact tc_el _ _ (by omega) | exact cc_el _ _ (by omega) | exact whole _) (by with_reducible first | exact mc_size _ | exact tc_size _ | exact cc_size _ | exact dc_size _ | exact rc_size _ | exact sz1 | exact sz2 | exact sz3 | exact sz4) ?_)) | ((with_reducible refine gate_dst (N := 8) rfl ?_); (with_reducible refine field_at rfl rfl rfl fo61_0 ?_); (try simp only [toNat_16, toNat_12, Int.toNat_natCast, Nat.zero_add, Nat.add_zero, Nat.mul_one])) | ((with_reducible refine gate_dst (N := 9) rfl ?_); (with_reducible refine load_one HS.out rfl rfl on3 rfl (by first | exact at0 | exact at1 | exact at2 | exact at3 | exact at4 | exact at5 | exact at6) (by with_reducible first | exact dc_get _ _ (by omega) | exact rc_get _ _ (by omega) | exact at0a | exact at1a | exact at2a | exact at3a) ?_))); (try simp only [Act.put, List.setIfInBounds_toArray, List.set_cons_zero, List.set_cons_succ]))
 go_ret
 exact ⟨_, rfl, rfl, HS.out.below⟩
theorem c_specMemBit (m : Mm) (wf : m.wf) (k n p : Int) (w : World) : Calls Tryd.prog 16 #[.agg (mc m), .agg #[.int .i64 k, .int .i64 n, .int .i64 p]] w (Ret w (· = .bool (membit m k (place k n).toNat))) := by
 have h := place_in k n
 exact c_specMemBit0 m wf k n p (place k n).toNat (by omega) (fun hd => by have := h.2 hd; omega) w

end Go.Proofs.YtaegonmpjgdmgaaDoor.K
