/- Walks over the ladders' memory: what the functions of this seat answer. -/
import Derived.Test.YtaegonmpjgdmgaaDoorProg
import Derived.Test.YtaegonmpjgdmgaaDoorMW
import Derived.WalkKit
import Derived.Deep.LoopGhost
import Derived.Deep.DeepCutAuto
import Derived.BigFrame
import Derived.Deep.QuietTactic
import Derived.BigQuiet
import Derived.Test.YtaegonmpjgdmgaaDoorMB
import Derived.Test.YtaegonmpjgdmgaaDoorFx7
import Derived.Test.YtaegonmpjgdmgaaDoorOC
namespace Go.Proofs.YtaegonmpjgdmgaaDoor.K
open Go Go.RowKit Go.Proofs.YtaegonmpjgdmgaaDoorW Go.Proofs.YtaegonmpjgdmgaaDoorW.PrintWords Go.Proofs.YtaegonmpjgdmgaaDoor.MW
set_option linter.unusedVariables false
set_option linter.unusedSimpArgs false
set_option maxRecDepth 100000
theorem ze61 : zeroOf Tryd.prog 61 = some (#[.int .i64 0, .int .i64 0, .int .i64 0]) := by kernel_rfl
theorem ungate {P : Program} {ops : Array Oper} {rest : List Oper} {o : Oper} {a : Act} {Q : Exit → Act → World → Prop} {w : World} (hw : Region.wanted o (yielded ops a.tmps) = true) (h : wpList P ops Q ({ o with guard := none } :: rest) a w) : wpList P ops Q (o :: rest) a w := by
 simp only [wpList] at h ⊢
 rw [if_pos hw]
 rw [if_pos (by simp [Region.wanted])] at h
 exact h

set_option maxHeartbeats 4000000 in
set_option maxRecDepth 100000 in
theorem c_was (m : Mm) (wf : m.wf) (k n p : Int) (w : World) (ht : Tab w) : Calls Tryd.prog 30 #[.agg (mc m), .agg #[.int .i64 k, .int .i64 n, .int .i64 p]] w (Ret w (· = .bool (decide (k = 5) && membit m k (place k n).toNat))) := by
 have HS := Aside0.mk (Priv.nil w)
 have HT := Aside0.mk ht
 clear ht
 by_cases h5 : k = 5
 ·subst h5
  go_enter Tryd.func30, Tryd.ntmps30
  go_wp2_with ((first | ((with_reducible refine gate_dst (N := 11) rfl ?_); refine ungate (by rfl) ?_; refine call_ev2 HS.out rfl rfl Tryd.func29 (by kernel_rfl) rfl (by (try simp only [List.map_toArray, List.map_cons, List.map_nil]); first | done | rfl) (c_MemBit _ wf _ _ _ _ (HT.out.below HS.out.below)) ?_; rintro v_ W_ rfl HP HB_; clear HS; have HS := Aside0.mk HP; clear HP; clear HB_) | ((with_reducible refine gate_dst (N := 2) rfl ?_); (with_reducible refine box_new HS.out rfl rfl (by first | exact eval_tmp rfl | exact eval_const) ?_); intro g2 W2_ HP; clear HS; have HS := Aside0.mk HP; clear HP) | ((with_reducible refine gate_dst (N := 3) rfl ?_); (with_reducible refine box_new HS.out rfl rfl (by first | exact eval_tmp rfl | exact eval_const) ?_); intro g3 W3_ HP; clear HS; have HS := Aside0.mk HP; clear HP) | ((with_reducible refine gate_dst (N := 5) rfl ?_); (with_reducible refine field_at rfl rfl rfl fo61_0 ?_); (try simp only [toNat_16, toNat_12, Int.toNat_natCast, Nat.zero_add, Nat.add_zero, Nat.mul_one])) | ((with_reducible refine gate_dst (N := 6) rfl ?_); (with_reducible refine load_one HS.out rfl rfl on3 rfl (by first | exact at0 | exact at1 | exact at2 | exact at3 | exact at4 | exact at5 | exact at6) (by with_reducible first | exact dc_get _ _ (by omega) | exact rc_get _ _ (by omega) | exact at0a | exact at1a | exact at2a | exact at3a) ?_)) | ((with_reducible refine gate_dst (N := 9) rfl ?_); refine ungate (by rfl) ?_; (with_reducible refine load_seg HS.out rfl rfl ag46 rfl (by first | exact at0 | exact at1 | exact at2 | exact at3 | exact at4 | exact at5 | exact at6) (by with_reducible first | exact tc_el _ _ (by omega) | exact cc_el _ _ (by omega) | exact whole _) (by with_reducible first | exact mc_size _ | exact tc_size _ | exact cc_size _ | exact dc_size _ | exact rc_size _ | exact sz1 | exact sz2 | exact sz3 | exact sz4) ?_)) | ((with_reducible refine gate_dst (N := 10) rfl ?_); refine ungate (by rfl) ?_; (with_reducible refine load_seg HS.out rfl rfl ag61 rfl (by first | exact at0 | exact at1 | exact at2 | exact at3 | exact at4 | exact at5 | exact at6) (by with_reducible first | exact tc_el _ _ (by omega) | exact cc_el _ _ (by omega) | exact whole _) (by with_reducible first | exact mc_size _ | exact tc_size _ | exact cc_size _ | exact dc_size _ | exact rc_size _ | exact sz1 | exact sz2 | exact sz3 | exact sz4) ?_))); (try simp only [Act.put, List.setIfInBounds_toArray, List.set_cons_zero, List.set_cons_succ]))
  go_ret
  exact ⟨_, rfl, by simp, HS.out.below⟩
 ·have n5 : (k == 5) = false := by simp; omega
  have d5 : decide (k = 5) = false := decide_eq_false h5
  rw [d5]
  clear h5 d5
  go_enter Tryd.func30, Tryd.ntmps30
  go_wp2_with ((first | ((with_reducible refine gate_dst (N := 2) rfl ?_); (with_reducible refine box_new HS.out rfl rfl (by first | exact eval_tmp rfl | exact eval_const) ?_); intro g2 W2_ HP; clear HS; have HS := Aside0.mk HP; clear HP) | ((with_reducible refine gate_dst (N := 3) rfl ?_); (with_reducible refine box_new HS.out rfl rfl (by first | exact eval_tmp rfl | exact eval_const) ?_); intro g3 W3_ HP; clear HS; have HS := Aside0.mk HP; clear HP) | ((with_reducible refine gate_dst (N := 5) rfl ?_); (with_reducible refine field_at rfl rfl rfl fo61_0 ?_); (try simp only [toNat_16, toNat_12, Int.toNat_natCast, Nat.zero_add, Nat.add_zero, Nat.mul_one])) | ((with_reducible refine gate_dst (N := 6) rfl ?_); (with_reducible refine load_one HS.out rfl rfl on3 rfl (by first | exact at0 | exact at1 | exact at2 | exact at3 | exact at4 | exact at5 | exact at6) (by with_reducible first | exact dc_get _ _ (by omega) | exact rc_get _ _ (by omega) | exact at0a | exact at1a | exact at2a | exact at3a) ?_))); (try simp only [Act.put, List.setIfInBounds_toArray, List.set_cons_zero, List.set_cons_succ]))
  go_ret
  exact ⟨_, rfl, by simp, HS.out.below⟩
def keepb (m : Mm) (k n : Int) (b : Bool) : Mm := if k = 5 then memput m k (place k n).toNat b else m
set_option maxHeartbeats 4000000 in
set_option maxRecDepth 100000 in
theorem c_keep (m : Mm) (wf : m.wf) (k n p : Int) (b : Bool) (w : World) (ht : Tab w) : Calls Tryd.prog 31 #[.agg (mc m), .agg #[.int .i64 k, .int .i64 n, .int .i64 p], .bool b] w (Ret w (· = .agg (mc (keepb m k n b)))) := by
 have HS := Aside0.mk (Priv.nil w)
 have HT := Aside0.mk ht
 clear ht
 by_cases h5 : k = 5
 ·subst h5
  go_enter Tryd.func31, Tryd.ntmps31
  go_wp2_with ((first | ((with_reducible refine gate_dst (N := 13) rfl ?_); refine call_ev2 HS.out rfl rfl Tryd.func47 (by kernel_rfl) rfl (by (try simp only [List.map_toArray, List.map_cons, List.map_nil]); first | done | rfl) (c_MemPut _ wf _ _ _ _ _ (HT.out.below HS.out.below)) ?_; rintro v_ W_ rfl HP HB_; clear HS; have HS := Aside0.mk HP; clear HP; clear HB_) | ((with_reducible refine gate_dst (N := 3) rfl ?_); (with_reducible refine box_new HS.out rfl rfl (by first | exact eval_tmp rfl | exact eval_const) ?_); intro g3 W3_ HP; clear HS; have HS := Aside0.mk HP; clear HP) | ((with_reducible refine gate_dst (N := 4) rfl ?_); (with_reducible refine box_new HS.out rfl rfl (by first | exact eval_tmp rfl | exact eval_const) ?_); intro g4 W4_ HP; clear HS; have HS := Aside0.mk HP; clear HP) | ((with_reducible refine gate_dst (N := 6) rfl ?_); (with_reducible refine alloc_new HS.out rfl rfl ze46 ?_); intro g6 W6_ HP; clear HS; have HS := Aside0.mk HP; clear HP) | ((with_reducible refine gate_dst (N := 7) rfl ?_); (with_reducible refine field_at rfl rfl rfl fo61_0 ?_); (try simp only [toNat_16, toNat_12, Int.toNat_natCast, Nat.zero_add, Nat.add_zero, Nat.mul_one])) | ((with_reducible refine gate_dst (N := 8) rfl ?_); (with_reducible refine load_one HS.out rfl rfl on3 rfl (by first | exact at0 | exact at1 | exact at2 | exact at3 | exact at4 | exact at5 | exact at6) (by with_reducible first | exact dc_get _ _ (by omega) | exact rc_get _ _ (by omega) | exact at0a | exact at1a | exact at2a | exact at3a) ?_)) | ((with_reducible refine gate_dst (N := 10) rfl ?_); (with_reducible refine load_seg HS.out rfl rfl ag46 rfl (by first | exact at0 | exact at1 | exact at2 | exact at3 | exact at4 | exact at5 | exact at6) (by with_reducible first | exact tc_el _ _ (by omega) | exact cc_el _ _ (by omega) | exact whole _) (by with_reducible first | exact mc_size _ | exact tc_size _ | exact cc_size _ | exact dc_size _ | exact rc_size _ | exact sz1 | exact sz2 | exact sz3 | exact sz4) ?_)) | ((with_reducible refine gate_dst (N := 11) rfl ?_); (with_reducible refine load_seg HS.out rfl rfl ag61 rfl (by first | exact at0 | exact at1 | exact at2 | exact at3 | exact at4 | exact at5 | exact at6) (by with_reducible first | exact tc_el _ _ (by omega) | exact cc_el _ _ (by omega) | exact whole _) (by with_reducible first | exact mc_size _ | exact tc_size _ | exact cc_size _ | exact dc_size _ | exact rc_size _ | exact sz1 | exact sz2 | exact sz3 | exact sz4) ?_)) | ((with_reducible refine gate_store (t := 46) (p := 6) rfl ?_); (with_reducible refine store_seg HS.out rfl rfl rfl ag46 rfl (by first | exact eval_tmp rfl | exact eval_const) (by first | exact at0 | exact at1 | exact at2 | exact at3 | exact at4 | exact at5 | exact at6) (by with_reducible first | exact tc_put _ _ (by omega) _ _ | exact cc_put _ _ (by omega) _ _ _ | exact dc_put _ _ (by omega) _ | exact rc_put _ _ (by omega) _ | exact lay_mc _ _ | exact lay_tc _ _ | exact lay_cc _ _ | exact lay_dc _ _ | exact lay_rc _ _ | exact lay2_0 | exact lay2_1 | exact lay3_0 | exact lay3_1 | exact lay3_2 | exact lay2_w | exact lay3_w) (by with_reducible first | exact mc_size _ | exact tc_size _ | exact cc_size _ | exact dc_size _ | exact rc_size _ | exact sz1 | exact sz2 | exact sz3 | exact sz4) (by simp only [mc_size, tc_size, cc_size, dc_size, rc_size, List.size_toArray, List.length_cons, List.length_nil]; omega) (by first | (with_reducible first | exact mc_one _ | exact tc_one _ | exact cc_one _ | exact dc_one _ | exact rc_one _ | exact t2_one _ _ | exact t3_one _ _ _) | (simp [Value.oneCell']; done)) ?_); intro W_ HP; clear HS; have HS := Aside0.mk HP; clear HP; (try simp only [List.set_cons_zero, List.set_cons_succ] at HS))); (try simp only [Act.put, List.setIfInBounds_toArray, List.set_cons_zero, List.set_cons_succ]))
  refine ret_agg HS.out (by rfl) (by rfl) (by rfl) (by first | exact at0 | exact at1 | exact at2 | exact at3 | exact at4 | exact at5 | exact at6) ag46 (by with_reducible first | exact mc_size _ | exact tc_size _ | exact cc_size _ | exact dc_size _ | exact rc_size _ | exact sz1 | exact sz2 | exact sz3 | exact sz4) ?_
  exact ⟨_, rfl, rfl, HS.out.below⟩
 ·have n5 : (k == 5) = false := by simp; omega
  have d5 : keepb m k n b = m := if_neg h5
  rw [d5]
  clear h5 d5
  go_enter Tryd.func31, Tryd.ntmps31
  go_wp2_with ((first | ((with_reducible refine gate_dst (N := 3) rfl ?_); (with_reducible refine box_new HS.out rfl rfl (by first | exact eval_tmp rfl | exact eval_const) ?_); intro g3 W3_ HP; clear HS; have HS := Aside0.mk HP; clear HP) | ((with_reducible refine gate_dst (N := 4) rfl ?_); (with_reducible refine box_new HS.out rfl rfl (by first | exact eval_tmp rfl | exact eval_const) ?_); intro g4 W4_ HP; clear HS; have HS := Aside0.mk HP; clear HP) | ((with_reducible refine gate_dst (N := 6) rfl ?_); (with_reducible refine alloc_new HS.out rfl rfl ze46 ?_); intro g6 W6_ HP; clear HS; have HS := Aside0.mk HP; clear HP) | ((with_reducible refine gate_dst (N := 7) rfl ?_); (with_reducible refine field_at rfl rfl rfl fo61_0 ?_); (try simp only [toNat_16, toNat_12, Int.toNat_natCast, Nat.zero_add, Nat.add_zero, Nat.mul_one])) | ((with_reducible refine gate_dst (N := 8) rfl ?_); (with_reducible refine load_one HS.out rfl rfl on3 rfl (by first | exact at0 | exact at1 | exact at2 | exact at3 | exact at4 | exact at5 | exact at6) (by with_reducible first | exact dc_get _ _ (by omega) | exact rc_get _ _ (by omega) | exact at0a | exact at1a | exact at2a | exact at3a) ?_)) | ((with_reducible refine gate_store (t := 46) (p := 6) rfl ?_); (with_reducible refine store_seg HS.out rfl rfl rfl ag46 rfl (by first | exact eval_tmp rfl | exact eval_const) (by first | exact at0 | exact at1 | exact at2 | exact at3 | exact at4 | exact at5 | exact at6) (by with_reducible first | exact tc_put _ _ (by omega) _ _ | exact cc_put _ _ (by omega) _ _ _ | exact dc_put _ _ (by omega) _ | exact rc_put _ _ (by omega) _ | exact lay_mc _ _ | exact lay_tc _ _ | exact lay_cc _ _ | exact lay_dc _ _ | exact lay_rc _ _ | exact lay2_0 | exact lay2_1 | exact lay3_0 | exact lay3_1 | exact lay3_2 | exact lay2_w | exact lay3_w) (by with_reducible first | exact mc_size _ | exact tc_size _ | exact cc_size _ | exact dc_size _ | exact rc_size _ | exact sz1 | exact sz2 | exact sz3 | exact sz4) (by simp only [mc_size, tc_size, cc_size, dc_size, rc_size, List.size_toArray, List.length_cons, List.length_nil]; omega) (by first | (with_reducible first | exact mc_one _ | exact tc_one _ | exact cc_one _ | exact dc_one _ | exact rc_one _ | exact t2_one _ _ | exact t3_one _ _ _) | (simp [Value.oneCell']; done)) ?_); intro W_ HP; clear HS; have HS := Aside0.mk HP; clear HP; (try simp only [List.set_cons_zero, List.set_cons_succ] at HS)) | ((with_reducible refine gate_dst (N := 14) rfl ?_); (with_reducible refine load_seg HS.out rfl rfl ag46 rfl (by first | exact at0 | exact at1 | exact at2 | exact at3 | exact at4 | exact at5 | exact at6) (by with_reducible first | exact tc_el _ _ (by omega) | exact cc_el _ _ (by omega) | exact whole _) (by with_reducible first | exact mc_size _ | exact tc_size _ | exact cc_size _ | exact dc_size _ | exact rc_size _ | exact sz1 | exact sz2 | exact sz3 | exact sz4) ?_))); (try simp only [Act.put, List.setIfInBounds_toArray, List.set_cons_zero, List.set_cons_succ]))
  refine ret_agg HS.out (by rfl) (by rfl) (by rfl) (by first | exact at0 | exact at1 | exact at2 | exact at3 | exact at4 | exact at5 | exact at6) ag46 (by with_reducible first | exact mc_size _ | exact tc_size _ | exact cc_size _ | exact dc_size _ | exact rc_size _ | exact sz1 | exact sz2 | exact sz3 | exact sz4) ?_
  exact ⟨_, rfl, rfl, HS.out.below⟩
/-! ### Arguments -/
abbrev Dev := Int × Int × Int
def da (d : Dev) : Array Value := #[.int .i64 d.1, .int .i64 d.2.1, .int .i64 d.2.2]
def dv (x : F.S61) : Dev := (x.f0, x.f1, x.f2)
/-- Operands in memory. -/
def ArgsAt (W : World) (v : Value) (l : List Dev) : Prop := ∃ A c, ∃ xs : List F.S61, v = .slice A xs.length c ∧ l = xs.map dv ∧ Kd.C F.k61 W A xs.length xs ∧ xs.length ≤ c
theorem ArgsAt.below {W W' : World} {v : Value} {l : List Dev} (h : ArgsAt W v l) (hb : Below W.heap.size W W') : ArgsAt W' v l := by
 obtain ⟨A, c, xs, h1, h2, h3, h4⟩ := h
 exact ⟨A, c, xs, h1, h2, Kd.C_below h3 hb, h4⟩
theorem dv_at (xs : List F.S61) (i : Nat) (h : i < xs.length) : (xs.map dv).getD i (0, 0, 0) = dv xs[i] := by
 rw [List.getD_eq_getElem?_getD, List.getElem?_map, List.getElem?_eq_getElem h]; rfl
theorem dv_no (xs : List F.S61) (i : Nat) (h : xs.length ≤ i) : (xs.map dv).getD i (0, 0, 0) = (0, 0, 0) := by
 rw [List.getD_eq_getElem?_getD, List.getElem?_map, List.getElem?_eq_none h]; rfl
theorem rd_at (xs : List F.S61) (i : Nat) (h : i < xs.length) : F.rd_T61 xs (i : Int) = xs[i] := by unfold F.rd_T61; rw [Int.toNat_natCast, List.getD_eq_getElem?_getD, List.getElem?_eq_getElem h]; rfl
theorem arg_f (op : Int) (xs : List F.S61) (i : Nat) : F.impl_Elem_arg.f op xs i = some (((xs.map dv).getD i (0, 0, 0)).1, ((xs.map dv).getD i (0, 0, 0)).2.1, ((xs.map dv).getD i (0, 0, 0)).2.2) := by
 unfold F.impl_Elem_arg.f
 by_cases h : i < xs.length
 ·rw [if_neg (by omega), if_pos (by omega), if_pos (by omega), rd_at xs i h, dv_at xs i h]; rfl
 ·rw [if_pos (by omega), dv_no xs i (by omega)]
theorem sarg_f (op : Int) (xs : List F.S61) (i : Nat) : F.spec_l6Arg.f op xs i = some (((xs.map dv).getD i (0, 0, 0)).1, ((xs.map dv).getD i (0, 0, 0)).2.1, ((xs.map dv).getD i (0, 0, 0)).2.2) := by
 unfold F.spec_l6Arg.f
 by_cases h : i < xs.length
 ·rw [if_pos (by omega), if_pos (by omega), rd_at xs i h, dv_at xs i h]; rfl
 ·rw [if_neg (by omega), dv_no xs i (by omega)]
theorem c_arg (op : Int) (v : Value) (l : List Dev) (i : Nat) (ii : Int) (hii : ii = i) (w : World) (ha : ArgsAt w v l) : Calls Tryd.prog 28 #[.agg #[.int .i64 op, v], .int .i64 ii] w (Ret w (· = .agg (da (l.getD i (0, 0, 0))))) := by
 subst hii
 obtain ⟨A, c, xs, rfl, rfl, h3, h4⟩ := ha
 exact Ret.of_eq (F.impl_Elem_arg.calls op A c xs i _ _ _ w h3 h4 (arg_f op xs i))
theorem c_sarg (op : Int) (v : Value) (l : List Dev) (i : Nat) (ii : Int) (hii : ii = i) (d : Dev) (hd : l.getD i (0, 0, 0) = d) {w W : World} {L : List (Nat × Array Value)} (ha : ArgsAt w v l) (HS : Priv w W L) : Calls Tryd.prog 15 #[.agg #[.int .i64 op, v], .int .i64 ii] W (Ret W (· = .agg #[.int .i64 d.1, .int .i64 d.2.1, .int .i64 d.2.2])) := by
 subst hii hd
 obtain ⟨A, c, xs, rfl, rfl, h3, h4⟩ := ha.below HS.below
 exact Ret.of_eq (F.spec_l6Arg.calls op A c xs i _ _ _ W h3 h4 (sarg_f op xs i))
theorem c_isReal (d : Dev) (r : Bool) (hr : decide (d.1 = 10 ∨ d.1 = 12 ∨ d.1 = 13) = r) (w : World) : Calls Tryd.prog 18 #[.agg #[.int .i64 d.1, .int .i64 d.2.1, .int .i64 d.2.2]] w (Ret w (· = .bool r)) := by
 have h : F.spec_l6IsReal.f d.1 d.2.1 d.2.2 = some r := by
  subst hr
  unfold F.spec_l6IsReal.f
  by_cases h1 : d.1 = 10
  ·rw [if_pos h1, decide_eq_true (Or.inl h1)]
  by_cases h2 : d.1 = 12
  ·rw [if_neg h1, if_pos h2, decide_eq_true (Or.inr (Or.inl h2))]
  ·rw [if_neg h1, if_neg h2]
   by_cases h3 : d.1 = 13
   ·rw [decide_eq_true (Or.inr (Or.inr h3)), beq_iff_eq.mpr h3]
   ·rw [decide_eq_false (by omega), beq_eq_false_iff_ne.mpr h3]
 exact Ret.of_eq (F.spec_l6IsReal.calls _ _ _ _ w h)
theorem c_inE (x l h : Int) (r : Bool) (hr : decide (l ≤ x ∧ x ≤ h) = r) (W : World) : Calls Tryd.prog 32 #[.int .i64 x, .int .i64 l, .int .i64 h] W (Ret W (· = .bool r)) := by
 subst hr
 exact c_in x l h W

end Go.Proofs.YtaegonmpjgdmgaaDoor.K
