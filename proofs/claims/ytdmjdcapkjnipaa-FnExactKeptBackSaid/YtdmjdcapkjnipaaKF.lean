/- Walks over the ladders' memory: what the functions of this seat answer. -/
import Derived.Test.YtdmjdcapkjnipaaProg
import Derived.Test.YtdmjdcapkjnipaaMW
import Derived.WalkKit
import Derived.Deep.LoopGhost
import Derived.Deep.DeepCutAuto
import Derived.BigFrame
import Derived.Deep.QuietTactic
import Derived.BigQuiet
import Derived.Test.YtdmjdcapkjnipaaKA
import Derived.Test.YtdmjdcapkjnipaaKB
import Derived.Test.YtdmjdcapkjnipaaKC
import Derived.Test.YtdmjdcapkjnipaaOP
import Derived.Test.YtdmjdcapkjnipaaRW
import Derived.Test.YtdmjdcapkjnipaaRL
import Derived.Test.YtdmjdcapkjnipaaQKept
import Derived.Test.YtdmjdcapkjnipaaKE
import Derived.Outline
import Derived.Lib.JoinLaws
namespace Go.Proofs.Ytdmjdcapkjnipaa.K
open Go Go.RowKit Go.Proofs.YtdmjdcapkjnipaaW Go.Proofs.YtdmjdcapkjnipaaW.PrintWords Go.Proofs.Ytdmjdcapkjnipaa.MW
set_option linter.unusedVariables false
set_option linter.unusedSimpArgs false
set_option maxRecDepth 100000
theorem inf5 : (Try.prog.info? 5).map (fun i => (i.zero, i.size, i.bytes)) = some (some (.int .u8 0), 1, 1) := by kernel_rfl
theorem ae40 : arrEl Try.prog 40 = some (16, 2) := by kernel_rfl
theorem ae42 : arrEl Try.prog 42 = some (16, 3) := by kernel_rfl
open QKept
theorem c_little (x m : Int) (n : Nat) (hm : m = n) (hn : n ≤ 8) (h0 : 0 ≤ x) (h1 : x < 18446744073709551616) (W : World) : Calls Try.prog 28 #[.int .u64 x, .int .i64 m] W fun e w' => ∃ v0, e = .returned v0 ∧ (Kd.int .u8).R 5 w' W.heap.size (fun _ => True) v0 (le n x) ∧ Below W.heap.size W w' := by
  subst hm
  obtain ⟨k, hk⟩ := little_ev x n hn h0 h1
  exact F.impl_little.calls k x n _ W hk
theorem c_bit (b : Bool) (w : World) : Calls Try.prog 29 #[.bool b] w (fun e w' => e = .returned (.int .u64 (flags b false)) ∧ w' = w) := by
  cases b <;> (go_enter Try.func29, Try.ntmps29; go_wp2; go_ret; exact ⟨rfl, rfl⟩)
theorem run_mk (W : World) : (Instr.makeSlice 37 (.int .i64 0) (.int .i64 134)).run Try.prog W = .ok (.slice (some ⟨W.heap.size, 0, none⟩) 0 134) (W.alloc (.cells (madeCells #[.int .u8 0] 134) 5)) := Go.run_make_room 37 5 (.int .u8 0) 1 Try.underlying37 inf5 rfl .i64 .i64 134 (by decide) (by decide) W
theorem run_msl {o : Oper} {a : Act} {W W1 : World} {ty : TypeId} {x y : Operand} {vx vy v : Value} (ho : o.op = .makeSlice ty x y) (hx : a.eval x = vx) (hy : a.eval y = vy) (h : (Instr.makeSlice ty vx vy).run Try.prog W = .ok v W1) : (execOp a.eval o).run Try.prog W = .ok (.value v) W1 := by
  unfold execOp
  simp [ho, hx, hy, h]
theorem le1f (a b : Bool) : le 1 (flags a b) = [flags a b] := by cases a <;> cases b <;> decide
theorem flags2 (a b : Bool) : flags a false + 2 * flags b false = flags a b := by cases a <;> cases b <;> decide
theorem flags_u8 (a b : Bool) : flags a b % 256 = flags a b := by cases a <;> cases b <;> decide
theorem Row_one {w W : World} {L : List (Nat × Array Value)} {v : Value} {l : List Int} {i g : Nat} {cs : Array Value} (HO : Row w W L v l) (hi : L[i]? = some (g, cs)) : Row w W [(g, cs)] v l :=
  Kd.R_mono HO (fun k hk y hy => by rw [List.mem_singleton] at hy; subst hy; exact hk _ (List.mem_of_getElem? hi))
theorem w8 (x : Int) (h0 : 0 ≤ x) (h1 : x < 256) : IntKind.u8.wrap x = x := by rw [IntKind.wrap_u8]; omega
theorem w64 (x : Int) (h0 : 0 ≤ x) (h1 : x < 18446744073709551616) : IntKind.u64.wrap x = x := by rw [IntKind.wrap_u64]; omega
theorem el_D16 (m : Mm) (k : Nat) (h : k < 16) : (mc m)[101 + k]? = some (.int .i16 (m.D (16 + k))) := by rw [show 101 + k = 85 + (16 + k) by omega]; exact el_D m _ (by omega)
theorem w64u16 (x : Int) : IntKind.u64.wrap (IntKind.u16.wrap x) = x % 65536 := by simp [IntKind.wrap, IntKind.bits, IntKind.signed]; omega
theorem shr32 (x : Int) : shr .u64 x 32 = x / 4294967296 := rfl
theorem u16_mod (x : Int) (h0 : -32768 ≤ x) (h1 : x < 32768) : (x + 65536) % 65536 = x % 65536 := by omega

set_option maxHeartbeats 4000000 in
set_option maxRecDepth 100000 in
theorem c_implKeptMake (m : Mm) (wf : m.wf) (w : World) : Calls Try.prog 9 #[.agg (mc m)] w fun e w' => ∃ v, e = .returned v ∧ (Kd.int .u8).R 5 w' w.heap.size (fun _ => True) v (keptBytes m) ∧ Below w.heap.size w w' := by
  have HS := Aside0.mk (Priv.nil w)
  obtain ⟨_, _, ⟨m0, m1⟩, ⟨s0, s1⟩, _, hT, hC, hD, _, _⟩ := wf
  have HT := Aside0.mk hT; have HC0 := Aside0.mk hC; have HD := Aside0.mk hD
  clear hT hC hD
  go_enter Try.func9, Try.ntmps9
  go_wp2_with (first
      | ((with_reducible refine gate_dst (N := 10) rfl ?_); refine ev_room HS.out rfl (c := 134) (cells := madeCells #[.int .u8 0] 134) (run_msl rfl rfl rfl (run_mk _)) (by simp [madeCells]) (by decide) ?_; intro v_ W_ HP HO_; clear HS; have HS := Aside0.mk HP; clear HP; have HO := Aside0.mk HO_; clear HO_; (try simp only [Act.put, List.setIfInBounds_toArray, List.set_cons_zero, List.set_cons_succ]))
      | ((with_reducible refine gate_dst (N := 15) rfl ?_); refine ev_bytes HS.out HO.out rfl rfl Try.func28 (by kernel_rfl) rfl (by (try simp only [List.map_toArray, List.map_cons, List.map_nil]); first | done | rfl) (c_little _ _ 4 (by rfl) (by decide) (by omega) (by omega) _) ?_; intro v_ W_ HP HO_ HC_; clear HS; have HS := Aside0.mk HP; clear HP; clear HO; have HO := Aside0.mk HO_; clear HO_; have HC := Aside0.mk HC_; clear HC_; (try simp only [Act.put, List.setIfInBounds_toArray, List.set_cons_zero, List.set_cons_succ]))
      | ((with_reducible refine gate_dst (N := 16) rfl ?_); refine ev_append HS.out HO.out HC.out rfl rfl Try.underlying37 inf5 rfl rfl (by simp only [List.length_append, hB_length, tB_length, cB_length, dB_length, le_length, List.length_nil, List.length_cons]; omega) ?_; intro v_ W_ HP HO_; clear HC; clear HS; have HS := Aside0.mk HP; clear HP; clear HO; have HO := Aside0.mk HO_; clear HO_; (try simp only [Act.put, List.setIfInBounds_toArray, List.set_cons_zero, List.set_cons_succ]))
      | ((with_reducible refine gate_dst (N := 21) rfl ?_); refine ev_bytes HS.out HO.out rfl rfl Try.func28 (by kernel_rfl) rfl (by (try simp only [List.map_toArray, List.map_cons, List.map_nil]); first | done | rfl) (c_little _ _ 2 (by rfl) (by decide) s0 (by omega) _) ?_; intro v_ W_ HP HO_ HC_; clear HS; have HS := Aside0.mk HP; clear HP; clear HO; have HO := Aside0.mk HO_; clear HO_; have HC := Aside0.mk HC_; clear HC_; (try simp only [Act.put, List.setIfInBounds_toArray, List.set_cons_zero, List.set_cons_succ]))
      | ((with_reducible refine gate_dst (N := 22) rfl ?_); refine ev_append HS.out HO.out HC.out rfl rfl Try.underlying37 inf5 rfl rfl (by simp only [List.length_append, hB_length, tB_length, cB_length, dB_length, le_length, List.length_nil, List.length_cons]; omega) ?_; intro v_ W_ HP HO_; clear HC; clear HS; have HS := Aside0.mk HP; clear HP; clear HO; have HO := Aside0.mk HO_; clear HO_; (try simp only [Act.put, List.setIfInBounds_toArray, List.set_cons_zero, List.set_cons_succ]))
      | ((with_reducible refine gate_dst (N := 1) rfl ?_); (with_reducible refine box_new HS.out rfl rfl (by first | exact eval_tmp rfl | exact eval_const) ?_); intro g1 W1_ HP; clear HS; have HS := Aside0.mk HP; clear HP; (try simp only [Act.put, List.setIfInBounds_toArray, List.set_cons_zero, List.set_cons_succ]))
      | ((with_reducible refine gate_dst (N := 12) rfl ?_); (with_reducible refine field_at rfl rfl rfl fo44_2 ?_); (try simp only [toNat_16, toNat_12, Int.toNat_natCast, Nat.zero_add, Nat.add_zero, Nat.mul_one]); (try simp only [Act.put, List.setIfInBounds_toArray, List.set_cons_zero, List.set_cons_succ]))
      | ((with_reducible refine gate_dst (N := 13) rfl ?_); (with_reducible refine load_one HS.out rfl rfl on23 rfl (by first | exact at0 | exact at1 | exact at2 | exact at3 | exact at4 | exact at5 | exact at6) (by with_reducible first | exact get_X _ | exact get_Y _ | exact get_M _ | exact get_S _ | exact get_E _ | exact get_Time _ | exact get_Ran _ | exact get_Fault _ | exact el_T0 _ _ (by omega) | exact el_T1 _ _ (by omega) | exact el_C0 _ _ (by omega) | exact el_C1 _ _ (by omega) | exact el_C2 _ _ (by omega) | exact el_D _ _ (by omega) | exact el_R _ _ (by omega) | exact dc_get _ _ (by omega) | exact rc_get _ _ (by omega) | exact at0a | exact at1a | exact at2a | exact at3a) ?_); (try simp only [Act.put, List.setIfInBounds_toArray, List.set_cons_zero, List.set_cons_succ]))
      | ((with_reducible refine gate_dst (N := 18) rfl ?_); (with_reducible refine field_at rfl rfl rfl fo44_3 ?_); (try simp only [toNat_16, toNat_12, Int.toNat_natCast, Nat.zero_add, Nat.add_zero, Nat.mul_one]); (try simp only [Act.put, List.setIfInBounds_toArray, List.set_cons_zero, List.set_cons_succ]))
      | ((with_reducible refine gate_dst (N := 19) rfl ?_); (with_reducible refine load_one HS.out rfl rfl on24 rfl (by first | exact at0 | exact at1 | exact at2 | exact at3 | exact at4 | exact at5 | exact at6) (by with_reducible first | exact get_X _ | exact get_Y _ | exact get_M _ | exact get_S _ | exact get_E _ | exact get_Time _ | exact get_Ran _ | exact get_Fault _ | exact el_T0 _ _ (by omega) | exact el_T1 _ _ (by omega) | exact el_C0 _ _ (by omega) | exact el_C1 _ _ (by omega) | exact el_C2 _ _ (by omega) | exact el_D _ _ (by omega) | exact el_R _ _ (by omega) | exact dc_get _ _ (by omega) | exact rc_get _ _ (by omega) | exact at0a | exact at1a | exact at2a | exact at3a) ?_); (try simp only [Act.put, List.setIfInBounds_toArray, List.set_cons_zero, List.set_cons_succ]))
      | ((with_reducible refine gate_dst (N := 23) rfl ?_); (with_reducible refine field_at rfl rfl rfl fo44_5 ?_); (try simp only [toNat_16, toNat_12, Int.toNat_natCast, Nat.zero_add, Nat.add_zero, Nat.mul_one]); (try simp only [Act.put, List.setIfInBounds_toArray, List.set_cons_zero, List.set_cons_succ]))
      | ((with_reducible refine gate_dst (N := 24) rfl ?_); (with_reducible refine load_seg HS.out rfl rfl ag40 rfl (by first | exact at0 | exact at1 | exact at2 | exact at3 | exact at4 | exact at5 | exact at6) (by with_reducible first | exact get_T _ | exact get_C _ | exact get_D _ | exact get_R _ | exact el_T _ _ (by omega) | exact el_C _ _ (by omega) | exact tc_el _ _ (by omega) | exact cc_el _ _ (by omega) | exact whole _) (by with_reducible first | exact mc_size _ | exact tc_size _ | exact cc_size _ | exact dc_size _ | exact rc_size _ | exact sz1 | exact sz2 | exact sz3 | exact sz4) ?_); (try simp only [Act.put, List.setIfInBounds_toArray, List.set_cons_zero, List.set_cons_succ]))
      | ((with_reducible refine gate_store (t := 39) (p := 5) rfl ?_); (with_reducible refine store_seg HS.out rfl rfl rfl ag39 rfl (by first | exact eval_tmp rfl | exact eval_const) (by first | exact at0 | exact at1 | exact at2 | exact at3 | exact at4 | exact at5 | exact at6) (by with_reducible first | exact set_X _ _ | exact set_Y _ _ | exact set_M _ _ | exact set_S _ _ | exact set_E _ _ | exact set_Time _ _ | exact set_Ran _ _ | exact set_Fault _ _ | exact set_T _ _ | exact set_C _ _ | exact set_D _ _ | exact set_R _ _ | exact put_T _ _ (by omega) _ _ | exact put_C _ _ (by omega) _ _ _ | exact put_D _ _ (by omega) _ | exact put_R _ _ (by omega) _ | exact tc_put _ _ (by omega) _ _ | exact cc_put _ _ (by omega) _ _ _ | exact dc_put _ _ (by omega) _ | exact rc_put _ _ (by omega) _ | exact lay_mc _ _ | exact lay_tc _ _ | exact lay_cc _ _ | exact lay_dc _ _ | exact lay_rc _ _ | exact lay2_0 | exact lay2_1 | exact lay3_0 | exact lay3_1 | exact lay3_2 | exact lay2_w | exact lay3_w) (by with_reducible first | exact mc_size _ | exact tc_size _ | exact cc_size _ | exact dc_size _ | exact rc_size _ | exact sz1 | exact sz2 | exact sz3 | exact sz4) (by simp only [mc_size, tc_size, cc_size, dc_size, rc_size, List.size_toArray, List.length_cons, List.length_nil]; omega) (by first | (with_reducible first | exact mc_one _ | exact tc_one _ | exact cc_one _ | exact dc_one _ | exact rc_one _ | exact t2_one _ _ | exact t3_one _ _ _) | (simp [Value.oneCell']; done)) ?_); intro W_ HP; clear HS; have HS := Aside0.mk HP; clear HP; (try simp only [List.set_cons_zero, List.set_cons_succ] at HS))
      | ((with_reducible refine gate_store (t := 41) (p := 7) rfl ?_); (with_reducible refine store_seg HS.out rfl rfl rfl ag41 rfl (by first | exact eval_tmp rfl | exact eval_const) (by first | exact at0 | exact at1 | exact at2 | exact at3 | exact at4 | exact at5 | exact at6) (by with_reducible first | exact set_X _ _ | exact set_Y _ _ | exact set_M _ _ | exact set_S _ _ | exact set_E _ _ | exact set_Time _ _ | exact set_Ran _ _ | exact set_Fault _ _ | exact set_T _ _ | exact set_C _ _ | exact set_D _ _ | exact set_R _ _ | exact put_T _ _ (by omega) _ _ | exact put_C _ _ (by omega) _ _ _ | exact put_D _ _ (by omega) _ | exact put_R _ _ (by omega) _ | exact tc_put _ _ (by omega) _ _ | exact cc_put _ _ (by omega) _ _ _ | exact dc_put _ _ (by omega) _ | exact rc_put _ _ (by omega) _ | exact lay_mc _ _ | exact lay_tc _ _ | exact lay_cc _ _ | exact lay_dc _ _ | exact lay_rc _ _ | exact lay2_0 | exact lay2_1 | exact lay3_0 | exact lay3_1 | exact lay3_2 | exact lay2_w | exact lay3_w) (by with_reducible first | exact mc_size _ | exact tc_size _ | exact cc_size _ | exact dc_size _ | exact rc_size _ | exact sz1 | exact sz2 | exact sz3 | exact sz4) (by simp only [mc_size, tc_size, cc_size, dc_size, rc_size, List.size_toArray, List.length_cons, List.length_nil]; omega) (by first | (with_reducible first | exact mc_one _ | exact tc_one _ | exact cc_one _ | exact dc_one _ | exact rc_one _ | exact t2_one _ _ | exact t3_one _ _ _) | (simp [Value.oneCell']; done)) ?_); intro W_ HP; clear HS; have HS := Aside0.mk HP; clear HP; (try simp only [List.set_cons_zero, List.set_cons_succ] at HS)))
  go_loopw [3, 25] (fun v3 v25 W => ∃ (k : Nat) (v : Value), v3 = v ∧ v25 = .int .i64 k ∧ k ≤ 16 ∧ Aside0 (Row w W [(g1, mc m)] v (hB m ++ tB m.T k)) ∧ Aside0 (Priv w W [(g1, mc m)])) (fun _ v25 _ => 16 - (intOf v25).toNat)
  case atStart => exact ⟨0, _, rfl, rfl, by omega, ⟨by have h_ := HO.out; simpa [hB, tB] using h_⟩, HS⟩
  case round =>
    clear HS HO
    obtain ⟨k, v, rfl, rfl, hk, HO, HS⟩ := hrel
    by_cases hlt : k < 16
    · obtain ⟨t0, t1⟩ := HT.out k hlt
      go_wp2_with (first
      | ((with_reducible refine gate_dst (N := 27) rfl ?_); refine index_seg rfl rfl rfl rfl ae40 (Int.natCast_nonneg _) (by omega) rfl (by simp only [tc_size, cc_size, Int.toNat_natCast]; omega) (by simp only [Int.toNat_natCast]; exact tc_el _ _ hlt) ?_; (try simp only [Act.put, List.setIfInBounds_toArray, List.set_cons_zero, List.set_cons_succ]))
      | ((with_reducible refine gate_dst (N := 5) rfl ?_); (with_reducible refine alloc_row HS.out HO.out rfl rfl ze39 ?_); intro g5 W5_ HP HO_; clear HS; have HS := Aside0.mk HP; clear HP; clear HO; have HO := Aside0.mk HO_; clear HO_; (try simp only [Act.put, List.setIfInBounds_toArray, List.set_cons_zero, List.set_cons_succ]))
      | ((with_reducible refine gate_store (t := 39) (p := 5) rfl ?_); (with_reducible refine store_row HS.out HO.out rfl rfl rfl ag39 rfl (by first | exact eval_tmp rfl | exact eval_const) (by first | exact at0 | exact at1 | exact at2 | exact at3 | exact at4 | exact at5 | exact at6) (by with_reducible first | exact set_X _ _ | exact set_Y _ _ | exact set_M _ _ | exact set_S _ _ | exact set_E _ _ | exact set_Time _ _ | exact set_Ran _ _ | exact set_Fault _ _ | exact set_T _ _ | exact set_C _ _ | exact set_D _ _ | exact set_R _ _ | exact put_T _ _ (by omega) _ _ | exact put_C _ _ (by omega) _ _ _ | exact put_D _ _ (by omega) _ | exact put_R _ _ (by omega) _ | exact tc_put _ _ (by omega) _ _ | exact cc_put _ _ (by omega) _ _ _ | exact dc_put _ _ (by omega) _ | exact rc_put _ _ (by omega) _ | exact lay_mc _ _ | exact lay_tc _ _ | exact lay_cc _ _ | exact lay_dc _ _ | exact lay_rc _ _ | exact lay2_0 | exact lay2_1 | exact lay3_0 | exact lay3_1 | exact lay3_2 | exact lay2_w | exact lay3_w) (by with_reducible first | exact mc_size _ | exact tc_size _ | exact cc_size _ | exact dc_size _ | exact rc_size _ | exact sz1 | exact sz2 | exact sz3 | exact sz4) (by simp only [mc_size, tc_size, cc_size, dc_size, rc_size, List.size_toArray, List.length_cons, List.length_nil]; omega) (by first | (with_reducible first | exact mc_one _ | exact tc_one _ | exact cc_one _ | exact dc_one _ | exact rc_one _ | exact t2_one _ _ | exact t3_one _ _ _) | (simp [Value.oneCell']; done)) ?_); intro W_ HP HO_; (try simp only [List.set_cons_zero, List.set_cons_succ] at HP HO_); clear HS; have HS := Aside0.mk HP; clear HP; clear HO; have HO := Aside0.mk HO_; clear HO_)
      | ((with_reducible refine gate_store (t := 39) (p := 5) rfl ?_); (with_reducible refine store_seg HS.out rfl rfl rfl ag39 rfl (by first | exact eval_tmp rfl | exact eval_const) (by first | exact at0 | exact at1 | exact at2 | exact at3 | exact at4 | exact at5 | exact at6) (by with_reducible first | exact set_X _ _ | exact set_Y _ _ | exact set_M _ _ | exact set_S _ _ | exact set_E _ _ | exact set_Time _ _ | exact set_Ran _ _ | exact set_Fault _ _ | exact set_T _ _ | exact set_C _ _ | exact set_D _ _ | exact set_R _ _ | exact put_T _ _ (by omega) _ _ | exact put_C _ _ (by omega) _ _ _ | exact put_D _ _ (by omega) _ | exact put_R _ _ (by omega) _ | exact tc_put _ _ (by omega) _ _ | exact cc_put _ _ (by omega) _ _ _ | exact dc_put _ _ (by omega) _ | exact rc_put _ _ (by omega) _ | exact lay_mc _ _ | exact lay_tc _ _ | exact lay_cc _ _ | exact lay_dc _ _ | exact lay_rc _ _ | exact lay2_0 | exact lay2_1 | exact lay3_0 | exact lay3_1 | exact lay3_2 | exact lay2_w | exact lay3_w) (by with_reducible first | exact mc_size _ | exact tc_size _ | exact cc_size _ | exact dc_size _ | exact rc_size _ | exact sz1 | exact sz2 | exact sz3 | exact sz4) (by simp only [mc_size, tc_size, cc_size, dc_size, rc_size, List.size_toArray, List.length_cons, List.length_nil]; omega) (by first | (with_reducible first | exact mc_one _ | exact tc_one _ | exact cc_one _ | exact dc_one _ | exact rc_one _ | exact t2_one _ _ | exact t3_one _ _ _) | (simp [Value.oneCell']; done)) ?_); intro W_ HP; clear HS; have HS := Aside0.mk HP; clear HP; (try simp only [List.set_cons_zero, List.set_cons_succ] at HS))
      | ((with_reducible refine gate_store (t := 41) (p := 7) rfl ?_); (with_reducible refine store_seg HS.out rfl rfl rfl ag41 rfl (by first | exact eval_tmp rfl | exact eval_const) (by first | exact at0 | exact at1 | exact at2 | exact at3 | exact at4 | exact at5 | exact at6) (by with_reducible first | exact set_X _ _ | exact set_Y _ _ | exact set_M _ _ | exact set_S _ _ | exact set_E _ _ | exact set_Time _ _ | exact set_Ran _ _ | exact set_Fault _ _ | exact set_T _ _ | exact set_C _ _ | exact set_D _ _ | exact set_R _ _ | exact put_T _ _ (by omega) _ _ | exact put_C _ _ (by omega) _ _ _ | exact put_D _ _ (by omega) _ | exact put_R _ _ (by omega) _ | exact tc_put _ _ (by omega) _ _ | exact cc_put _ _ (by omega) _ _ _ | exact dc_put _ _ (by omega) _ | exact rc_put _ _ (by omega) _ | exact lay_mc _ _ | exact lay_tc _ _ | exact lay_cc _ _ | exact lay_dc _ _ | exact lay_rc _ _ | exact lay2_0 | exact lay2_1 | exact lay3_0 | exact lay3_1 | exact lay3_2 | exact lay2_w | exact lay3_w) (by with_reducible first | exact mc_size _ | exact tc_size _ | exact cc_size _ | exact dc_size _ | exact rc_size _ | exact sz1 | exact sz2 | exact sz3 | exact sz4) (by simp only [mc_size, tc_size, cc_size, dc_size, rc_size, List.size_toArray, List.length_cons, List.length_nil]; omega) (by first | (with_reducible first | exact mc_one _ | exact tc_one _ | exact cc_one _ | exact dc_one _ | exact rc_one _ | exact t2_one _ _ | exact t3_one _ _ _) | (simp [Value.oneCell']; done)) ?_); intro W_ HP; clear HS; have HS := Aside0.mk HP; clear HP; (try simp only [List.set_cons_zero, List.set_cons_succ] at HS)))
      have E1 : IntKind.u8.wrap (flags (m.T k).1 false) = flags (m.T k).1 false := by have := flags_range (m.T k).1 false; exact w8 _ (by omega) (by omega)
      have E2 : IntKind.u64.wrap (m.T k).2 = (m.T k).2 := w64 _ t0 (by omega)
      refine start_P (LS := _) #[false, false, false, false, false, false, false, false, false, false, false, false, false] HS.out HO.out (by kernel_rfl) rfl rfl (fun W_ HSS => HSS.one at0) ?_
      intro W_ HP HO_ hHeld; clear HS; have HS := Aside0.mk HP; clear HP; clear HO; have HO := Aside0.mk HO_; clear HO_
      refine PrintLast.pure_ (i := 0) (oi := { dst := some 28, op := Go.Op.move (Go.Operand.tmp 3), type := 37, pos := "l19_kept.go:42", after := #[], guard := none }) (N := some 28) (v := ?_) (a' := ?_) #[true, false, false, false, false, false, false, false, false, false, false, false, false] rfl rfl (by kernel_rfl) (fun _ _ _ h => h) (Or.inl ⟨by rfl, ?_⟩) ?_ ?_
      rotate_left
      · intro w'
        go_simp
        with_reducible rfl
      rotate_left
      · simp only [Act.put, List.setIfInBounds_toArray, List.set_cons_zero, List.set_cons_succ, Nat.zero_add, Nat.add_zero, E1, E2]
        rfl
      refine PrintLast.pure_ (i := 1) (oi := { dst := some 29, op := Go.Op.fieldAddr 39 (Go.Operand.tmp 5) 0, type := 0, pos := "l19_kept.go:42", after := #[], guard := none }) (N := some 29) (v := ?_) (a' := ?_) #[true, true, false, false, false, false, false, false, false, false, false, false, false] rfl rfl (by kernel_rfl) (fun _ _ _ h => h) (Or.inl ⟨by rfl, ?_⟩) ?_ ?_
      rotate_left
      · intro w'
        refine Eq.trans (run_field_at rfl rfl rfl fo39_0) ?_
        with_reducible rfl
      rotate_left
      · simp only [Act.put, List.setIfInBounds_toArray, List.set_cons_zero, List.set_cons_succ, Nat.zero_add, Nat.add_zero, E1, E2]
        rfl
      refine PrintLast.take_ (i := 2) (oi := { dst := some 30, op := Go.Op.load 4 (Go.Operand.tmp 29), type := 4, pos := "l19_kept.go:42", after := #[{ on := 1, ground := Go.Ground.data }], guard := none }) (N := some 30) (v := ?_) (a' := ?_) #[true, true, true, false, false, false, false, false, false, false, false, false, false] rfl rfl (by kernel_rfl) (fun _ _ _ h => h) (Or.inl ⟨by rfl, ?_⟩) hHeld ?_ ?_
      rotate_left
      · intro w' hS
        refine Eq.trans (run_load_one hS rfl rfl on4 rfl at0 at0a) ?_
        with_reducible rfl
      rotate_left
      · simp only [Act.put, List.setIfInBounds_toArray, List.set_cons_zero, List.set_cons_succ, Nat.zero_add, Nat.add_zero, E1, E2]
        rfl
      refine PrintLast.pure_ (i := 7) (oi := { dst := some 35, op := Go.Op.fieldAddr 39 (Go.Operand.tmp 5) 1, type := 0, pos := "l19_kept.go:42", after := #[], guard := none }) (N := some 35) (v := ?_) (a' := ?_) #[true, true, true, false, false, false, false, true, false, false, false, false, false] rfl rfl (by kernel_rfl) (fun _ _ _ h => h) (Or.inl ⟨by rfl, ?_⟩) ?_ ?_
      rotate_left
      · intro w'
        refine Eq.trans (run_field_at rfl rfl rfl fo39_1) ?_
        with_reducible rfl
      rotate_left
      · simp only [Act.put, List.setIfInBounds_toArray, List.set_cons_zero, List.set_cons_succ, Nat.zero_add, Nat.add_zero, E1, E2]
        rfl
      refine PrintLast.take_ (i := 8) (oi := { dst := some 36, op := Go.Op.load 24 (Go.Operand.tmp 35), type := 24, pos := "l19_kept.go:42", after := #[{ on := 7, ground := Go.Ground.data }], guard := none }) (N := some 36) (v := ?_) (a' := ?_) #[true, true, true, false, false, false, false, true, true, false, false, false, false] rfl rfl (by kernel_rfl) (fun _ _ _ h => h) (Or.inl ⟨by rfl, ?_⟩) hHeld ?_ ?_
      rotate_left
      · intro w' hS
        refine Eq.trans (run_load_one hS rfl rfl on24 rfl at0 at1a) ?_
        with_reducible rfl
      rotate_left
      · simp only [Act.put, List.setIfInBounds_toArray, List.set_cons_zero, List.set_cons_succ, Nat.zero_add, Nat.add_zero, E1, E2]
        rfl
      refine PrintLast.pure_ (i := 9) (oi := { dst := some 37, op := Go.Op.convert 24 23 (Go.Operand.tmp 36), type := 23, pos := "l19_kept.go:42", after := #[{ on := 8, ground := Go.Ground.data }], guard := none }) (N := some 37) (v := ?_) (a' := ?_) #[true, true, true, false, false, false, false, true, true, true, false, false, false] rfl rfl (by kernel_rfl) (fun _ _ _ h => h) (Or.inl ⟨by rfl, ?_⟩) ?_ ?_
      rotate_left
      · intro w'
        go_simp
        with_reducible rfl
      rotate_left
      · simp only [Act.put, List.setIfInBounds_toArray, List.set_cons_zero, List.set_cons_succ, Nat.zero_add, Nat.add_zero, E1, E2]
        rfl
      refine PrintLast.one_ (i := 3) (oi := { dst := some 31, op := Go.Op.call { callee := Go.Callee.value (Go.Operand.func 29), args := #[Go.Operand.tmp 30], argTypes := #[4] }, type := 23, pos := "l19_kept.go:42", after := #[{ on := 2, ground := Go.Ground.data }], guard := none }) (N := some 31) #[true, true, true, true, false, false, false, true, true, true, false, false, false] rfl rfl (by kernel_rfl) (by decide) (fun K hK => ?_)
      refine step_quiet (wanted_of rfl) rfl rfl Try.func29 (by kernel_rfl) rfl (c_bit _ _) (by (try simp only [List.map_toArray, List.map_cons, List.map_nil]); first | done | rfl) ?_
      refine hK.out _ _ hHeld (fun hHeld => ?_)
      clear hK K
      refine PrintLast.norm_ (a' := ?_) ?_ ?_
      rotate_left
      · show Act.put _ (some 31) _ = _
        simp only [Act.put, List.setIfInBounds_toArray, List.set_cons_zero, List.set_cons_succ, Nat.zero_add, Nat.add_zero, E1, E2]
        rfl
      refine PrintLast.pure_ (i := 4) (oi := { dst := some 32, op := Go.Op.convert 23 5 (Go.Operand.tmp 31), type := 5, pos := "l19_kept.go:42", after := #[{ on := 3, ground := Go.Ground.data }], guard := none }) (N := some 32) (v := ?_) (a' := ?_) #[true, true, true, true, true, false, false, true, true, true, false, false, false] rfl rfl (by kernel_rfl) (fun _ _ _ h => h) (Or.inl ⟨by rfl, ?_⟩) ?_ ?_
      rotate_left
      · intro w'
        go_simp
        with_reducible rfl
      rotate_left
      · simp only [Act.put, List.setIfInBounds_toArray, List.set_cons_zero, List.set_cons_succ, Nat.zero_add, Nat.add_zero, E1, E2]
        rfl
      refine PrintLast.one_ (i := 5) (oi := { dst := some 33, op := Go.Op.buildSlice 37 1 #[(0, Go.Operand.tmp 32)], type := 37, pos := "l19_kept.go:42", after := #[{ on := 4, ground := Go.Ground.data }], guard := none }) (N := some 33) #[true, true, true, true, true, true, false, true, true, true, false, false, false] rfl rfl (by kernel_rfl) (by decide) (fun K hK => ?_)
      refine step_lit (wanted_of rfl) HS.out HO.out rfl (by first | (go_simp; done) | (go_simp; rfl)) ?_
      intro v_ W_ HP HO_ HC_; clear hHeld; clear HS; have HS := Aside0.mk HP; clear HP; clear HO; have HO := Aside0.mk HO_; clear HO_; have HC := Aside0.mk HC_; clear HC_
      refine hK.out _ _ (HS.out.one at0) (fun hHeld => ?_)
      clear hK K
      refine PrintLast.norm_ (a' := ?_) ?_ ?_
      rotate_left
      · show Act.put _ (some 33) _ = _
        simp only [Act.put, List.setIfInBounds_toArray, List.set_cons_zero, List.set_cons_succ, Nat.zero_add, Nat.add_zero, E1, E2]
        rfl
      refine PrintLast.one_ (i := 6) (oi := { dst := some 34, op := Go.Op.call { callee := Go.Callee.builtin Go.Builtin.append, args := #[Go.Operand.tmp 28, Go.Operand.tmp 33], argTypes := #[37, 37] }, type := 37, pos := "l19_kept.go:42", after := #[{ on := 0, ground := Go.Ground.data }, { on := 5, ground := Go.Ground.data }, { on := 3, ground := Go.Ground.chain }], guard := none }) (N := some 34) #[true, true, true, true, true, true, true, true, true, true, false, false, false] rfl rfl (by kernel_rfl) (by decide) (fun K hK => ?_)
      refine step_append (wanted_of rfl) HS.out HO.out HC.out rfl Try.underlying37 inf5 rfl rfl (by simp only [List.length_append, hB_length, tB_length, cB_length, dB_length, le_length, List.length_nil, List.length_cons]; omega) ?_
      intro v_ W_ HP HO_; clear HC; try clear hHeld
      clear HS; have HS := Aside0.mk HP; clear HP; clear HO; have HO := Aside0.mk HO_; clear HO_
      refine hK.out _ _ (HS.out.one at0) (fun hHeld => ?_)
      clear hK K
      refine PrintLast.norm_ (a' := ?_) ?_ ?_
      rotate_left
      · show Act.put _ (some 34) _ = _
        simp only [Act.put, List.setIfInBounds_toArray, List.set_cons_zero, List.set_cons_succ, Nat.zero_add, Nat.add_zero, E1, E2]
        rfl
      refine PrintLast.one_ (i := 10) (oi := { dst := some 38, op := Go.Op.call { callee := Go.Callee.value (Go.Operand.func 28), args := #[Go.Operand.tmp 37, Go.Operand.const (Go.Value.int Go.IntKind.i64 2)], argTypes := #[23, 3] }, type := 37, pos := "l19_kept.go:42", after := #[{ on := 9, ground := Go.Ground.data }, { on := 6, ground := Go.Ground.chain }], guard := none }) (N := some 38) #[true, true, true, true, true, true, true, true, true, true, true, false, false] rfl rfl (by kernel_rfl) (by decide) (fun K hK => ?_)
      refine step_bytes (wanted_of rfl) HS.out HO.out rfl rfl Try.func28 (by kernel_rfl) rfl (by (try simp only [List.map_toArray, List.map_cons, List.map_nil]); first | done | rfl) (c_little _ _ 2 (by rfl) (by decide) t0 (by omega) _) ?_
      intro v_ W_ HP HO_ HC_; try clear hHeld
      clear HS; have HS := Aside0.mk HP; clear HP; clear HO; have HO := Aside0.mk HO_; clear HO_; have HC := Aside0.mk HC_; clear HC_
      refine hK.out _ _ (HS.out.one at0) (fun hHeld => ?_)
      clear hK K
      refine PrintLast.norm_ (a' := ?_) ?_ ?_
      rotate_left
      · show Act.put _ (some 38) _ = _
        simp only [Act.put, List.setIfInBounds_toArray, List.set_cons_zero, List.set_cons_succ, Nat.zero_add, Nat.add_zero, E1, E2]
        rfl
      refine PrintLast.one_ (i := 11) (oi := { dst := some 39, op := Go.Op.call { callee := Go.Callee.builtin Go.Builtin.append, args := #[Go.Operand.tmp 34, Go.Operand.tmp 38], argTypes := #[37, 37] }, type := 37, pos := "l19_kept.go:42", after := #[{ on := 6, ground := Go.Ground.data }, { on := 10, ground := Go.Ground.data }, { on := 10, ground := Go.Ground.chain }], guard := none }) (N := some 39) #[true, true, true, true, true, true, true, true, true, true, true, true, false] rfl rfl (by kernel_rfl) (by decide) (fun K hK => ?_)
      refine step_append (wanted_of rfl) HS.out HO.out HC.out rfl Try.underlying37 inf5 rfl rfl (by simp only [List.length_append, hB_length, tB_length, cB_length, dB_length, le_length, List.length_nil, List.length_cons]; omega) ?_
      intro v_ W_ HP HO_; clear HC; try clear hHeld
      clear HS; have HS := Aside0.mk HP; clear HP; clear HO; have HO := Aside0.mk HO_; clear HO_
      refine hK.out _ _ (HS.out.one at0) (fun hHeld => ?_)
      clear hK K
      refine PrintLast.norm_ (a' := ?_) ?_ ?_
      rotate_left
      · show Act.put _ (some 39) _ = _
        simp only [Act.put, List.setIfInBounds_toArray, List.set_cons_zero, List.set_cons_succ, Nat.zero_add, Nat.add_zero, E1, E2]
        rfl
      refine PrintLast.pure_ (i := 12) (oi := { dst := some 3, op := Go.Op.assign (Go.Operand.tmp 39), type := 37, pos := "l19_kept.go:42", after := #[{ on := 11, ground := Go.Ground.data }, { on := 11, ground := Go.Ground.chain }, { on := 0, ground := Go.Ground.phase }, { on := 1, ground := Go.Ground.phase }, { on := 2, ground := Go.Ground.phase }, { on := 3, ground := Go.Ground.phase }, { on := 4, ground := Go.Ground.phase }, { on := 5, ground := Go.Ground.phase }, { on := 6, ground := Go.Ground.phase }, { on := 7, ground := Go.Ground.phase }, { on := 8, ground := Go.Ground.phase }, { on := 9, ground := Go.Ground.phase }, { on := 10, ground := Go.Ground.phase }, { on := 11, ground := Go.Ground.phase }], guard := none }) (N := some 3) (v := ?_) (a' := ?_) #[true, true, true, true, true, true, true, true, true, true, true, true, true] rfl rfl (by kernel_rfl) (fun _ _ _ h => h) (Or.inl ⟨by rfl, ?_⟩) ?_ ?_
      rotate_left
      · intro w'
        go_simp
        with_reducible rfl
      rotate_left
      · simp only [Act.put, List.setIfInBounds_toArray, List.set_cons_zero, List.set_cons_succ, Nat.zero_add, Nat.add_zero, E1, E2]
        rfl
      refine PrintLast.done_ (by kernel_rfl) ?_
      clear hHeld
      go_wp2_with fail
      go_roundw
      case rel => exact ⟨k + 1, _, rfl, by go_num, by omega, ⟨by have h_ := Row_one HO.out at1; simpa [tB, List.append_assoc, le1f, flags_u8] using h_⟩, ⟨HS.out.one at1⟩⟩
      case measure => simp [intOf]; omega
    · have e_ : k = 16 := by omega
      have HO_ := HO.out
      rw [e_] at HO_
      clear HO e_
      have HO := Aside0.mk HO_
      clear HO_
      go_wp2_with (first
      | ((with_reducible refine gate_store (t := 39) (p := 5) rfl ?_); (with_reducible refine store_seg HS.out rfl rfl rfl ag39 rfl (by first | exact eval_tmp rfl | exact eval_const) (by first | exact at0 | exact at1 | exact at2 | exact at3 | exact at4 | exact at5 | exact at6) (by with_reducible first | exact set_X _ _ | exact set_Y _ _ | exact set_M _ _ | exact set_S _ _ | exact set_E _ _ | exact set_Time _ _ | exact set_Ran _ _ | exact set_Fault _ _ | exact set_T _ _ | exact set_C _ _ | exact set_D _ _ | exact set_R _ _ | exact put_T _ _ (by omega) _ _ | exact put_C _ _ (by omega) _ _ _ | exact put_D _ _ (by omega) _ | exact put_R _ _ (by omega) _ | exact tc_put _ _ (by omega) _ _ | exact cc_put _ _ (by omega) _ _ _ | exact dc_put _ _ (by omega) _ | exact rc_put _ _ (by omega) _ | exact lay_mc _ _ | exact lay_tc _ _ | exact lay_cc _ _ | exact lay_dc _ _ | exact lay_rc _ _ | exact lay2_0 | exact lay2_1 | exact lay3_0 | exact lay3_1 | exact lay3_2 | exact lay2_w | exact lay3_w) (by with_reducible first | exact mc_size _ | exact tc_size _ | exact cc_size _ | exact dc_size _ | exact rc_size _ | exact sz1 | exact sz2 | exact sz3 | exact sz4) (by simp only [mc_size, tc_size, cc_size, dc_size, rc_size, List.size_toArray, List.length_cons, List.length_nil]; omega) (by first | (with_reducible first | exact mc_one _ | exact tc_one _ | exact cc_one _ | exact dc_one _ | exact rc_one _ | exact t2_one _ _ | exact t3_one _ _ _) | (simp [Value.oneCell']; done)) ?_); intro W_ HP; clear HS; have HS := Aside0.mk HP; clear HP; (try simp only [List.set_cons_zero, List.set_cons_succ] at HS))
      | ((with_reducible refine gate_dst (N := 41) rfl ?_); (with_reducible refine field_at rfl rfl rfl fo44_6 ?_); (try simp only [toNat_16, toNat_12, Int.toNat_natCast, Nat.zero_add, Nat.add_zero, Nat.mul_one]); (try simp only [Act.put, List.setIfInBounds_toArray, List.set_cons_zero, List.set_cons_succ]))
      | ((with_reducible refine gate_dst (N := 42) rfl ?_); (with_reducible refine load_seg HS.out rfl rfl ag42 rfl (by first | exact at0 | exact at1 | exact at2 | exact at3 | exact at4 | exact at5 | exact at6) (by with_reducible first | exact get_T _ | exact get_C _ | exact get_D _ | exact get_R _ | exact el_T _ _ (by omega) | exact el_C _ _ (by omega) | exact tc_el _ _ (by omega) | exact cc_el _ _ (by omega) | exact whole _) (by with_reducible first | exact mc_size _ | exact tc_size _ | exact cc_size _ | exact dc_size _ | exact rc_size _ | exact sz1 | exact sz2 | exact sz3 | exact sz4) ?_); (try simp only [Act.put, List.setIfInBounds_toArray, List.set_cons_zero, List.set_cons_succ]))
      | ((with_reducible refine gate_store (t := 41) (p := 7) rfl ?_); (with_reducible refine store_seg HS.out rfl rfl rfl ag41 rfl (by first | exact eval_tmp rfl | exact eval_const) (by first | exact at0 | exact at1 | exact at2 | exact at3 | exact at4 | exact at5 | exact at6) (by with_reducible first | exact set_X _ _ | exact set_Y _ _ | exact set_M _ _ | exact set_S _ _ | exact set_E _ _ | exact set_Time _ _ | exact set_Ran _ _ | exact set_Fault _ _ | exact set_T _ _ | exact set_C _ _ | exact set_D _ _ | exact set_R _ _ | exact put_T _ _ (by omega) _ _ | exact put_C _ _ (by omega) _ _ _ | exact put_D _ _ (by omega) _ | exact put_R _ _ (by omega) _ | exact tc_put _ _ (by omega) _ _ | exact cc_put _ _ (by omega) _ _ _ | exact dc_put _ _ (by omega) _ | exact rc_put _ _ (by omega) _ | exact lay_mc _ _ | exact lay_tc _ _ | exact lay_cc _ _ | exact lay_dc _ _ | exact lay_rc _ _ | exact lay2_0 | exact lay2_1 | exact lay3_0 | exact lay3_1 | exact lay3_2 | exact lay2_w | exact lay3_w) (by with_reducible first | exact mc_size _ | exact tc_size _ | exact cc_size _ | exact dc_size _ | exact rc_size _ | exact sz1 | exact sz2 | exact sz3 | exact sz4) (by simp only [mc_size, tc_size, cc_size, dc_size, rc_size, List.size_toArray, List.length_cons, List.length_nil]; omega) (by first | (with_reducible first | exact mc_one _ | exact tc_one _ | exact cc_one _ | exact dc_one _ | exact rc_one _ | exact t2_one _ _ | exact t3_one _ _ _) | (simp [Value.oneCell']; done)) ?_); intro W_ HP; clear HS; have HS := Aside0.mk HP; clear HP; (try simp only [List.set_cons_zero, List.set_cons_succ] at HS)))
      go_loopw [3, 43] (fun v3 v43 W => ∃ (k : Nat) (v : Value), v3 = v ∧ v43 = .int .i64 k ∧ k ≤ 16 ∧ Aside0 (Row w W [(g1, mc m)] v (hB m ++ tB m.T 16 ++ cB m.C k)) ∧ Aside0 (Priv w W [(g1, mc m)])) (fun _ v43 _ => 16 - (intOf v43).toNat)
      case atStart => exact ⟨0, _, rfl, rfl, by omega, ⟨by have h_ := HO.out; simpa [cB] using h_⟩, HS⟩
      case round =>
        clear HS HO
        obtain ⟨k, v, rfl, rfl, hk, HO, HS⟩ := hrel
        by_cases hlt : k < 16
        · obtain ⟨t0, t1⟩ := HC0.out k hlt
          go_wp2_with (first
      | ((with_reducible refine gate_dst (N := 45) rfl ?_); refine index_seg rfl rfl rfl rfl ae42 (Int.natCast_nonneg _) (by omega) rfl (by simp only [tc_size, cc_size, Int.toNat_natCast]; omega) (by simp only [Int.toNat_natCast]; exact cc_el _ _ hlt) ?_; (try simp only [Act.put, List.setIfInBounds_toArray, List.set_cons_zero, List.set_cons_succ]))
      | ((with_reducible refine gate_dst (N := 7) rfl ?_); (with_reducible refine alloc_row HS.out HO.out rfl rfl ze41 ?_); intro g7 W7_ HP HO_; clear HS; have HS := Aside0.mk HP; clear HP; clear HO; have HO := Aside0.mk HO_; clear HO_; (try simp only [Act.put, List.setIfInBounds_toArray, List.set_cons_zero, List.set_cons_succ]))
      | ((with_reducible refine gate_store (t := 41) (p := 7) rfl ?_); (with_reducible refine store_row HS.out HO.out rfl rfl rfl ag41 rfl (by first | exact eval_tmp rfl | exact eval_const) (by first | exact at0 | exact at1 | exact at2 | exact at3 | exact at4 | exact at5 | exact at6) (by with_reducible first | exact set_X _ _ | exact set_Y _ _ | exact set_M _ _ | exact set_S _ _ | exact set_E _ _ | exact set_Time _ _ | exact set_Ran _ _ | exact set_Fault _ _ | exact set_T _ _ | exact set_C _ _ | exact set_D _ _ | exact set_R _ _ | exact put_T _ _ (by omega) _ _ | exact put_C _ _ (by omega) _ _ _ | exact put_D _ _ (by omega) _ | exact put_R _ _ (by omega) _ | exact tc_put _ _ (by omega) _ _ | exact cc_put _ _ (by omega) _ _ _ | exact dc_put _ _ (by omega) _ | exact rc_put _ _ (by omega) _ | exact lay_mc _ _ | exact lay_tc _ _ | exact lay_cc _ _ | exact lay_dc _ _ | exact lay_rc _ _ | exact lay2_0 | exact lay2_1 | exact lay3_0 | exact lay3_1 | exact lay3_2 | exact lay2_w | exact lay3_w) (by with_reducible first | exact mc_size _ | exact tc_size _ | exact cc_size _ | exact dc_size _ | exact rc_size _ | exact sz1 | exact sz2 | exact sz3 | exact sz4) (by simp only [mc_size, tc_size, cc_size, dc_size, rc_size, List.size_toArray, List.length_cons, List.length_nil]; omega) (by first | (with_reducible first | exact mc_one _ | exact tc_one _ | exact cc_one _ | exact dc_one _ | exact rc_one _ | exact t2_one _ _ | exact t3_one _ _ _) | (simp [Value.oneCell']; done)) ?_); intro W_ HP HO_; (try simp only [List.set_cons_zero, List.set_cons_succ] at HP HO_); clear HS; have HS := Aside0.mk HP; clear HP; clear HO; have HO := Aside0.mk HO_; clear HO_)
      | ((with_reducible refine gate_store (t := 39) (p := 5) rfl ?_); (with_reducible refine store_seg HS.out rfl rfl rfl ag39 rfl (by first | exact eval_tmp rfl | exact eval_const) (by first | exact at0 | exact at1 | exact at2 | exact at3 | exact at4 | exact at5 | exact at6) (by with_reducible first | exact set_X _ _ | exact set_Y _ _ | exact set_M _ _ | exact set_S _ _ | exact set_E _ _ | exact set_Time _ _ | exact set_Ran _ _ | exact set_Fault _ _ | exact set_T _ _ | exact set_C _ _ | exact set_D _ _ | exact set_R _ _ | exact put_T _ _ (by omega) _ _ | exact put_C _ _ (by omega) _ _ _ | exact put_D _ _ (by omega) _ | exact put_R _ _ (by omega) _ | exact tc_put _ _ (by omega) _ _ | exact cc_put _ _ (by omega) _ _ _ | exact dc_put _ _ (by omega) _ | exact rc_put _ _ (by omega) _ | exact lay_mc _ _ | exact lay_tc _ _ | exact lay_cc _ _ | exact lay_dc _ _ | exact lay_rc _ _ | exact lay2_0 | exact lay2_1 | exact lay3_0 | exact lay3_1 | exact lay3_2 | exact lay2_w | exact lay3_w) (by with_reducible first | exact mc_size _ | exact tc_size _ | exact cc_size _ | exact dc_size _ | exact rc_size _ | exact sz1 | exact sz2 | exact sz3 | exact sz4) (by simp only [mc_size, tc_size, cc_size, dc_size, rc_size, List.size_toArray, List.length_cons, List.length_nil]; omega) (by first | (with_reducible first | exact mc_one _ | exact tc_one _ | exact cc_one _ | exact dc_one _ | exact rc_one _ | exact t2_one _ _ | exact t3_one _ _ _) | (simp [Value.oneCell']; done)) ?_); intro W_ HP; clear HS; have HS := Aside0.mk HP; clear HP; (try simp only [List.set_cons_zero, List.set_cons_succ] at HS))
      | ((with_reducible refine gate_store (t := 41) (p := 7) rfl ?_); (with_reducible refine store_seg HS.out rfl rfl rfl ag41 rfl (by first | exact eval_tmp rfl | exact eval_const) (by first | exact at0 | exact at1 | exact at2 | exact at3 | exact at4 | exact at5 | exact at6) (by with_reducible first | exact set_X _ _ | exact set_Y _ _ | exact set_M _ _ | exact set_S _ _ | exact set_E _ _ | exact set_Time _ _ | exact set_Ran _ _ | exact set_Fault _ _ | exact set_T _ _ | exact set_C _ _ | exact set_D _ _ | exact set_R _ _ | exact put_T _ _ (by omega) _ _ | exact put_C _ _ (by omega) _ _ _ | exact put_D _ _ (by omega) _ | exact put_R _ _ (by omega) _ | exact tc_put _ _ (by omega) _ _ | exact cc_put _ _ (by omega) _ _ _ | exact dc_put _ _ (by omega) _ | exact rc_put _ _ (by omega) _ | exact lay_mc _ _ | exact lay_tc _ _ | exact lay_cc _ _ | exact lay_dc _ _ | exact lay_rc _ _ | exact lay2_0 | exact lay2_1 | exact lay3_0 | exact lay3_1 | exact lay3_2 | exact lay2_w | exact lay3_w) (by with_reducible first | exact mc_size _ | exact tc_size _ | exact cc_size _ | exact dc_size _ | exact rc_size _ | exact sz1 | exact sz2 | exact sz3 | exact sz4) (by simp only [mc_size, tc_size, cc_size, dc_size, rc_size, List.size_toArray, List.length_cons, List.length_nil]; omega) (by first | (with_reducible first | exact mc_one _ | exact tc_one _ | exact cc_one _ | exact dc_one _ | exact rc_one _ | exact t2_one _ _ | exact t3_one _ _ _) | (simp [Value.oneCell']; done)) ?_); intro W_ HP; clear HS; have HS := Aside0.mk HP; clear HP; (try simp only [List.set_cons_zero, List.set_cons_succ] at HS)))
          have E1 : IntKind.u64.wrap (2 * flags (m.C k).2.1 false) = 2 * flags (m.C k).2.1 false := by have := flags_range (m.C k).2.1 false; exact w64 _ (by omega) (by omega)
          have E2 : IntKind.u64.wrap (flags (m.C k).1 (m.C k).2.1) = flags (m.C k).1 (m.C k).2.1 := by have := flags_range (m.C k).1 (m.C k).2.1; exact w64 _ (by omega) (by omega)
          have E3 : IntKind.u8.wrap (flags (m.C k).1 (m.C k).2.1) = flags (m.C k).1 (m.C k).2.1 := by have := flags_range (m.C k).1 (m.C k).2.1; exact w8 _ (by omega) (by omega)
          have E4 : IntKind.u64.wrap (m.C k).2.2 = (m.C k).2.2 := w64 _ t0 (by omega)
          refine start_P (LS := _) #[false, false, false, false, false, false, false, false, false, false, false, false, false, false, false, false, false, false] HS.out HO.out (by kernel_rfl) rfl rfl (fun W_ HSS => HSS.one at0) ?_
          intro W_ HP HO_ hHeld; clear HS; have HS := Aside0.mk HP; clear HP; clear HO; have HO := Aside0.mk HO_; clear HO_
          refine PrintLast.pure_ (i := 0) (oi := { dst := some 46, op := Go.Op.move (Go.Operand.tmp 3), type := 37, pos := "l19_kept.go:45", after := #[], guard := none }) (N := some 46) (v := ?_) (a' := ?_) #[true, false, false, false, false, false, false, false, false, false, false, false, false, false, false, false, false, false] rfl rfl (by kernel_rfl) (fun _ _ _ h => h) (Or.inl ⟨by rfl, ?_⟩) ?_ ?_
          rotate_left
          · intro w'
            go_simp
            with_reducible rfl
          rotate_left
          · simp only [Act.put, List.setIfInBounds_toArray, List.set_cons_zero, List.set_cons_succ, Nat.zero_add, Nat.add_zero, E1, E2, E3, E4, flags2]
            rfl
          refine PrintLast.pure_ (i := 1) (oi := { dst := some 47, op := Go.Op.fieldAddr 41 (Go.Operand.tmp 7) 0, type := 0, pos := "l19_kept.go:45", after := #[], guard := none }) (N := some 47) (v := ?_) (a' := ?_) #[true, true, false, false, false, false, false, false, false, false, false, false, false, false, false, false, false, false] rfl rfl (by kernel_rfl) (fun _ _ _ h => h) (Or.inl ⟨by rfl, ?_⟩) ?_ ?_
          rotate_left
          · intro w'
            refine Eq.trans (run_field_at rfl rfl rfl fo41_0) ?_
            with_reducible rfl
          rotate_left
          · simp only [Act.put, List.setIfInBounds_toArray, List.set_cons_zero, List.set_cons_succ, Nat.zero_add, Nat.add_zero, E1, E2, E3, E4, flags2]
            rfl
          refine PrintLast.take_ (i := 2) (oi := { dst := some 48, op := Go.Op.load 4 (Go.Operand.tmp 47), type := 4, pos := "l19_kept.go:45", after := #[{ on := 1, ground := Go.Ground.data }], guard := none }) (N := some 48) (v := ?_) (a' := ?_) #[true, true, true, false, false, false, false, false, false, false, false, false, false, false, false, false, false, false] rfl rfl (by kernel_rfl) (fun _ _ _ h => h) (Or.inl ⟨by rfl, ?_⟩) hHeld ?_ ?_
          rotate_left
          · intro w' hS
            refine Eq.trans (run_load_one hS rfl rfl on4 rfl at0 at0a) ?_
            with_reducible rfl
          rotate_left
          · simp only [Act.put, List.setIfInBounds_toArray, List.set_cons_zero, List.set_cons_succ, Nat.zero_add, Nat.add_zero, E1, E2, E3, E4, flags2]
            rfl
          refine PrintLast.pure_ (i := 4) (oi := { dst := some 50, op := Go.Op.fieldAddr 41 (Go.Operand.tmp 7) 1, type := 0, pos := "l19_kept.go:45", after := #[], guard := none }) (N := some 50) (v := ?_) (a' := ?_) #[true, true, true, false, true, false, false, false, false, false, false, false, false, false, false, false, false, false] rfl rfl (by kernel_rfl) (fun _ _ _ h => h) (Or.inl ⟨by rfl, ?_⟩) ?_ ?_
          rotate_left
          · intro w'
            refine Eq.trans (run_field_at rfl rfl rfl fo41_1) ?_
            with_reducible rfl
          rotate_left
          · simp only [Act.put, List.setIfInBounds_toArray, List.set_cons_zero, List.set_cons_succ, Nat.zero_add, Nat.add_zero, E1, E2, E3, E4, flags2]
            rfl
          refine PrintLast.take_ (i := 5) (oi := { dst := some 51, op := Go.Op.load 4 (Go.Operand.tmp 50), type := 4, pos := "l19_kept.go:45", after := #[{ on := 4, ground := Go.Ground.data }], guard := none }) (N := some 51) (v := ?_) (a' := ?_) #[true, true, true, false, true, true, false, false, false, false, false, false, false, false, false, false, false, false] rfl rfl (by kernel_rfl) (fun _ _ _ h => h) (Or.inl ⟨by rfl, ?_⟩) hHeld ?_ ?_
          rotate_left
          · intro w' hS
            refine Eq.trans (run_load_one hS rfl rfl on4 rfl at0 at1a) ?_
            with_reducible rfl
          rotate_left
          · simp only [Act.put, List.setIfInBounds_toArray, List.set_cons_zero, List.set_cons_succ, Nat.zero_add, Nat.add_zero, E1, E2, E3, E4, flags2]
            rfl
          refine PrintLast.pure_ (i := 12) (oi := { dst := some 58, op := Go.Op.fieldAddr 41 (Go.Operand.tmp 7) 2, type := 0, pos := "l19_kept.go:45", after := #[], guard := none }) (N := some 58) (v := ?_) (a' := ?_) #[true, true, true, false, true, true, false, false, false, false, false, false, true, false, false, false, false, false] rfl rfl (by kernel_rfl) (fun _ _ _ h => h) (Or.inl ⟨by rfl, ?_⟩) ?_ ?_
          rotate_left
          · intro w'
            refine Eq.trans (run_field_at rfl rfl rfl fo41_2) ?_
            with_reducible rfl
          rotate_left
          · simp only [Act.put, List.setIfInBounds_toArray, List.set_cons_zero, List.set_cons_succ, Nat.zero_add, Nat.add_zero, E1, E2, E3, E4, flags2]
            rfl
          refine PrintLast.take_ (i := 13) (oi := { dst := some 59, op := Go.Op.load 24 (Go.Operand.tmp 58), type := 24, pos := "l19_kept.go:45", after := #[{ on := 12, ground := Go.Ground.data }], guard := none }) (N := some 59) (v := ?_) (a' := ?_) #[true, true, true, false, true, true, false, false, false, false, false, false, true, true, false, false, false, false] rfl rfl (by kernel_rfl) (fun _ _ _ h => h) (Or.inl ⟨by rfl, ?_⟩) hHeld ?_ ?_
          rotate_left
          · intro w' hS
            refine Eq.trans (run_load_one hS rfl rfl on24 rfl at0 at2a) ?_
            with_reducible rfl
          rotate_left
          · simp only [Act.put, List.setIfInBounds_toArray, List.set_cons_zero, List.set_cons_succ, Nat.zero_add, Nat.add_zero, E1, E2, E3, E4, flags2]
            rfl
          refine PrintLast.pure_ (i := 14) (oi := { dst := some 60, op := Go.Op.convert 24 23 (Go.Operand.tmp 59), type := 23, pos := "l19_kept.go:45", after := #[{ on := 13, ground := Go.Ground.data }], guard := none }) (N := some 60) (v := ?_) (a' := ?_) #[true, true, true, false, true, true, false, false, false, false, false, false, true, true, true, false, false, false] rfl rfl (by kernel_rfl) (fun _ _ _ h => h) (Or.inl ⟨by rfl, ?_⟩) ?_ ?_
          rotate_left
          · intro w'
            go_simp
            with_reducible rfl
          rotate_left
          · simp only [Act.put, List.setIfInBounds_toArray, List.set_cons_zero, List.set_cons_succ, Nat.zero_add, Nat.add_zero, E1, E2, E3, E4, flags2]
            rfl
          refine PrintLast.one_ (i := 3) (oi := { dst := some 49, op := Go.Op.call { callee := Go.Callee.value (Go.Operand.func 29), args := #[Go.Operand.tmp 48], argTypes := #[4] }, type := 23, pos := "l19_kept.go:45", after := #[{ on := 2, ground := Go.Ground.data }], guard := none }) (N := some 49) #[true, true, true, true, true, true, false, false, false, false, false, false, true, true, true, false, false, false] rfl rfl (by kernel_rfl) (by decide) (fun K hK => ?_)
          refine step_quiet (wanted_of rfl) rfl rfl Try.func29 (by kernel_rfl) rfl (c_bit _ _) (by (try simp only [List.map_toArray, List.map_cons, List.map_nil]); first | done | rfl) ?_
          refine hK.out _ _ hHeld (fun hHeld => ?_)
          clear hK K
          refine PrintLast.norm_ (a' := ?_) ?_ ?_
          rotate_left
          · show Act.put _ (some 49) _ = _
            simp only [Act.put, List.setIfInBounds_toArray, List.set_cons_zero, List.set_cons_succ, Nat.zero_add, Nat.add_zero, E1, E2, E3, E4, flags2]
            rfl
          refine PrintLast.one_ (i := 6) (oi := { dst := some 52, op := Go.Op.call { callee := Go.Callee.value (Go.Operand.func 29), args := #[Go.Operand.tmp 51], argTypes := #[4] }, type := 23, pos := "l19_kept.go:45", after := #[{ on := 5, ground := Go.Ground.data }, { on := 3, ground := Go.Ground.chain }], guard := none }) (N := some 52) #[true, true, true, true, true, true, true, false, false, false, false, false, true, true, true, false, false, false] rfl rfl (by kernel_rfl) (by decide) (fun K hK => ?_)
          refine step_quiet (wanted_of rfl) rfl rfl Try.func29 (by kernel_rfl) rfl (c_bit _ _) (by (try simp only [List.map_toArray, List.map_cons, List.map_nil]); first | done | rfl) ?_
          refine hK.out _ _ hHeld (fun hHeld => ?_)
          clear hK K
          refine PrintLast.norm_ (a' := ?_) ?_ ?_
          rotate_left
          · show Act.put _ (some 52) _ = _
            simp only [Act.put, List.setIfInBounds_toArray, List.set_cons_zero, List.set_cons_succ, Nat.zero_add, Nat.add_zero, E1, E2, E3, E4, flags2]
            rfl
          refine PrintLast.pure_ (i := 7) (oi := { dst := some 53, op := Go.Op.binOp Go.BinOp.mul 23 (Go.Operand.const (Go.Value.int Go.IntKind.u64 2)) (Go.Operand.tmp 52) 23, type := 23, pos := "l19_kept.go:45", after := #[{ on := 6, ground := Go.Ground.data }], guard := none }) (N := some 53) (v := ?_) (a' := ?_) #[true, true, true, true, true, true, true, true, false, false, false, false, true, true, true, false, false, false] rfl rfl (by kernel_rfl) (fun _ _ _ h => h) (Or.inl ⟨by rfl, ?_⟩) ?_ ?_
          rotate_left
          · intro w'
            go_simp
            with_reducible rfl
          rotate_left
          · simp only [Act.put, List.setIfInBounds_toArray, List.set_cons_zero, List.set_cons_succ, Nat.zero_add, Nat.add_zero, E1, E2, E3, E4, flags2]
            rfl
          refine PrintLast.pure_ (i := 8) (oi := { dst := some 54, op := Go.Op.binOp Go.BinOp.add 23 (Go.Operand.tmp 49) (Go.Operand.tmp 53) 23, type := 23, pos := "l19_kept.go:45", after := #[{ on := 3, ground := Go.Ground.data }, { on := 7, ground := Go.Ground.data }], guard := none }) (N := some 54) (v := ?_) (a' := ?_) #[true, true, true, true, true, true, true, true, true, false, false, false, true, true, true, false, false, false] rfl rfl (by kernel_rfl) (fun _ _ _ h => h) (Or.inl ⟨by rfl, ?_⟩) ?_ ?_
          rotate_left
          · intro w'
            go_simp
            with_reducible rfl
          rotate_left
          · simp only [Act.put, List.setIfInBounds_toArray, List.set_cons_zero, List.set_cons_succ, Nat.zero_add, Nat.add_zero, E1, E2, E3, E4, flags2]
            rfl
          refine PrintLast.pure_ (i := 9) (oi := { dst := some 55, op := Go.Op.convert 23 5 (Go.Operand.tmp 54), type := 5, pos := "l19_kept.go:45", after := #[{ on := 8, ground := Go.Ground.data }], guard := none }) (N := some 55) (v := ?_) (a' := ?_) #[true, true, true, true, true, true, true, true, true, true, false, false, true, true, true, false, false, false] rfl rfl (by kernel_rfl) (fun _ _ _ h => h) (Or.inl ⟨by rfl, ?_⟩) ?_ ?_
          rotate_left
          · intro w'
            go_simp
            with_reducible rfl
          rotate_left
          · simp only [Act.put, List.setIfInBounds_toArray, List.set_cons_zero, List.set_cons_succ, Nat.zero_add, Nat.add_zero, E1, E2, E3, E4, flags2]
            rfl
          refine PrintLast.one_ (i := 10) (oi := { dst := some 56, op := Go.Op.buildSlice 37 1 #[(0, Go.Operand.tmp 55)], type := 37, pos := "l19_kept.go:45", after := #[{ on := 9, ground := Go.Ground.data }], guard := none }) (N := some 56) #[true, true, true, true, true, true, true, true, true, true, true, false, true, true, true, false, false, false] rfl rfl (by kernel_rfl) (by decide) (fun K hK => ?_)
          refine step_lit (wanted_of rfl) HS.out HO.out rfl (by first | (go_simp; done) | (go_simp; rfl)) ?_
          intro v_ W_ HP HO_ HC_; clear hHeld; clear HS; have HS := Aside0.mk HP; clear HP; clear HO; have HO := Aside0.mk HO_; clear HO_; have HC := Aside0.mk HC_; clear HC_
          refine hK.out _ _ (HS.out.one at0) (fun hHeld => ?_)
          clear hK K
          refine PrintLast.norm_ (a' := ?_) ?_ ?_
          rotate_left
          · show Act.put _ (some 56) _ = _
            simp only [Act.put, List.setIfInBounds_toArray, List.set_cons_zero, List.set_cons_succ, Nat.zero_add, Nat.add_zero, E1, E2, E3, E4, flags2]
            rfl
          refine PrintLast.one_ (i := 11) (oi := { dst := some 57, op := Go.Op.call { callee := Go.Callee.builtin Go.Builtin.append, args := #[Go.Operand.tmp 46, Go.Operand.tmp 56], argTypes := #[37, 37] }, type := 37, pos := "l19_kept.go:45", after := #[{ on := 0, ground := Go.Ground.data }, { on := 10, ground := Go.Ground.data }, { on := 6, ground := Go.Ground.chain }], guard := none }) (N := some 57) #[true, true, true, true, true, true, true, true, true, true, true, true, true, true, true, false, false, false] rfl rfl (by kernel_rfl) (by decide) (fun K hK => ?_)
          refine step_append (wanted_of rfl) HS.out HO.out HC.out rfl Try.underlying37 inf5 rfl rfl (by simp only [List.length_append, hB_length, tB_length, cB_length, dB_length, le_length, List.length_nil, List.length_cons]; omega) ?_
          intro v_ W_ HP HO_; clear HC; try clear hHeld
          clear HS; have HS := Aside0.mk HP; clear HP; clear HO; have HO := Aside0.mk HO_; clear HO_
          refine hK.out _ _ (HS.out.one at0) (fun hHeld => ?_)
          clear hK K
          refine PrintLast.norm_ (a' := ?_) ?_ ?_
          rotate_left
          · show Act.put _ (some 57) _ = _
            simp only [Act.put, List.setIfInBounds_toArray, List.set_cons_zero, List.set_cons_succ, Nat.zero_add, Nat.add_zero, E1, E2, E3, E4, flags2]
            rfl
          refine PrintLast.one_ (i := 15) (oi := { dst := some 61, op := Go.Op.call { callee := Go.Callee.value (Go.Operand.func 28), args := #[Go.Operand.tmp 60, Go.Operand.const (Go.Value.int Go.IntKind.i64 2)], argTypes := #[23, 3] }, type := 37, pos := "l19_kept.go:45", after := #[{ on := 14, ground := Go.Ground.data }, { on := 11, ground := Go.Ground.chain }], guard := none }) (N := some 61) #[true, true, true, true, true, true, true, true, true, true, true, true, true, true, true, true, false, false] rfl rfl (by kernel_rfl) (by decide) (fun K hK => ?_)
          refine step_bytes (wanted_of rfl) HS.out HO.out rfl rfl Try.func28 (by kernel_rfl) rfl (by (try simp only [List.map_toArray, List.map_cons, List.map_nil]); first | done | rfl) (c_little _ _ 2 (by rfl) (by decide) t0 (by omega) _) ?_
          intro v_ W_ HP HO_ HC_; try clear hHeld
          clear HS; have HS := Aside0.mk HP; clear HP; clear HO; have HO := Aside0.mk HO_; clear HO_; have HC := Aside0.mk HC_; clear HC_
          refine hK.out _ _ (HS.out.one at0) (fun hHeld => ?_)
          clear hK K
          refine PrintLast.norm_ (a' := ?_) ?_ ?_
          rotate_left
          · show Act.put _ (some 61) _ = _
            simp only [Act.put, List.setIfInBounds_toArray, List.set_cons_zero, List.set_cons_succ, Nat.zero_add, Nat.add_zero, E1, E2, E3, E4, flags2]
            rfl
          refine PrintLast.one_ (i := 16) (oi := { dst := some 62, op := Go.Op.call { callee := Go.Callee.builtin Go.Builtin.append, args := #[Go.Operand.tmp 57, Go.Operand.tmp 61], argTypes := #[37, 37] }, type := 37, pos := "l19_kept.go:45", after := #[{ on := 11, ground := Go.Ground.data }, { on := 15, ground := Go.Ground.data }, { on := 15, ground := Go.Ground.chain }], guard := none }) (N := some 62) #[true, true, true, true, true, true, true, true, true, true, true, true, true, true, true, true, true, false] rfl rfl (by kernel_rfl) (by decide) (fun K hK => ?_)
          refine step_append (wanted_of rfl) HS.out HO.out HC.out rfl Try.underlying37 inf5 rfl rfl (by simp only [List.length_append, hB_length, tB_length, cB_length, dB_length, le_length, List.length_nil, List.length_cons]; omega) ?_
          intro v_ W_ HP HO_; clear HC; try clear hHeld
          clear HS; have HS := Aside0.mk HP; clear HP; clear HO; have HO := Aside0.mk HO_; clear HO_
          refine hK.out _ _ (HS.out.one at0) (fun hHeld => ?_)
          clear hK K
          refine PrintLast.norm_ (a' := ?_) ?_ ?_
          rotate_left
          · show Act.put _ (some 62) _ = _
            simp only [Act.put, List.setIfInBounds_toArray, List.set_cons_zero, List.set_cons_succ, Nat.zero_add, Nat.add_zero, E1, E2, E3, E4, flags2]
            rfl
          refine PrintLast.pure_ (i := 17) (oi := { dst := some 3, op := Go.Op.assign (Go.Operand.tmp 62), type := 37, pos := "l19_kept.go:45", after := #[{ on := 16, ground := Go.Ground.data }, { on := 16, ground := Go.Ground.chain }, { on := 0, ground := Go.Ground.phase }, { on := 1, ground := Go.Ground.phase }, { on := 2, ground := Go.Ground.phase }, { on := 3, ground := Go.Ground.phase }, { on := 4, ground := Go.Ground.phase }, { on := 5, ground := Go.Ground.phase }, { on := 6, ground := Go.Ground.phase }, { on := 7, ground := Go.Ground.phase }, { on := 8, ground := Go.Ground.phase }, { on := 9, ground := Go.Ground.phase }, { on := 10, ground := Go.Ground.phase }, { on := 11, ground := Go.Ground.phase }, { on := 12, ground := Go.Ground.phase }, { on := 13, ground := Go.Ground.phase }, { on := 14, ground := Go.Ground.phase }, { on := 15, ground := Go.Ground.phase }, { on := 16, ground := Go.Ground.phase }], guard := none }) (N := some 3) (v := ?_) (a' := ?_) #[true, true, true, true, true, true, true, true, true, true, true, true, true, true, true, true, true, true] rfl rfl (by kernel_rfl) (fun _ _ _ h => h) (Or.inl ⟨by rfl, ?_⟩) ?_ ?_
          rotate_left
          · intro w'
            go_simp
            with_reducible rfl
          rotate_left
          · simp only [Act.put, List.setIfInBounds_toArray, List.set_cons_zero, List.set_cons_succ, Nat.zero_add, Nat.add_zero, E1, E2, E3, E4, flags2]
            rfl
          refine PrintLast.done_ (by kernel_rfl) ?_
          clear hHeld
          go_wp2_with fail
          go_roundw
          case rel => exact ⟨k + 1, _, rfl, by go_num, by omega, ⟨by have h_ := Row_one HO.out at1; simpa [cB, List.append_assoc, le1f, flags_u8] using h_⟩, ⟨HS.out.one at1⟩⟩
          case measure => simp [intOf]; omega
        · have e_ : k = 16 := by omega
          have HO_ := HO.out
          rw [e_] at HO_
          clear HO e_
          have HO := Aside0.mk HO_
          clear HO_
          go_wp2_with (first
      | ((with_reducible refine gate_store (t := 39) (p := 5) rfl ?_); (with_reducible refine store_seg HS.out rfl rfl rfl ag39 rfl (by first | exact eval_tmp rfl | exact eval_const) (by first | exact at0 | exact at1 | exact at2 | exact at3 | exact at4 | exact at5 | exact at6) (by with_reducible first | exact set_X _ _ | exact set_Y _ _ | exact set_M _ _ | exact set_S _ _ | exact set_E _ _ | exact set_Time _ _ | exact set_Ran _ _ | exact set_Fault _ _ | exact set_T _ _ | exact set_C _ _ | exact set_D _ _ | exact set_R _ _ | exact put_T _ _ (by omega) _ _ | exact put_C _ _ (by omega) _ _ _ | exact put_D _ _ (by omega) _ | exact put_R _ _ (by omega) _ | exact tc_put _ _ (by omega) _ _ | exact cc_put _ _ (by omega) _ _ _ | exact dc_put _ _ (by omega) _ | exact rc_put _ _ (by omega) _ | exact lay_mc _ _ | exact lay_tc _ _ | exact lay_cc _ _ | exact lay_dc _ _ | exact lay_rc _ _ | exact lay2_0 | exact lay2_1 | exact lay3_0 | exact lay3_1 | exact lay3_2 | exact lay2_w | exact lay3_w) (by with_reducible first | exact mc_size _ | exact tc_size _ | exact cc_size _ | exact dc_size _ | exact rc_size _ | exact sz1 | exact sz2 | exact sz3 | exact sz4) (by simp only [mc_size, tc_size, cc_size, dc_size, rc_size, List.size_toArray, List.length_cons, List.length_nil]; omega) (by first | (with_reducible first | exact mc_one _ | exact tc_one _ | exact cc_one _ | exact dc_one _ | exact rc_one _ | exact t2_one _ _ | exact t3_one _ _ _) | (simp [Value.oneCell']; done)) ?_); intro W_ HP; clear HS; have HS := Aside0.mk HP; clear HP; (try simp only [List.set_cons_zero, List.set_cons_succ] at HS))
      | ((with_reducible refine gate_store (t := 41) (p := 7) rfl ?_); (with_reducible refine store_seg HS.out rfl rfl rfl ag41 rfl (by first | exact eval_tmp rfl | exact eval_const) (by first | exact at0 | exact at1 | exact at2 | exact at3 | exact at4 | exact at5 | exact at6) (by with_reducible first | exact set_X _ _ | exact set_Y _ _ | exact set_M _ _ | exact set_S _ _ | exact set_E _ _ | exact set_Time _ _ | exact set_Ran _ _ | exact set_Fault _ _ | exact set_T _ _ | exact set_C _ _ | exact set_D _ _ | exact set_R _ _ | exact put_T _ _ (by omega) _ _ | exact put_C _ _ (by omega) _ _ _ | exact put_D _ _ (by omega) _ | exact put_R _ _ (by omega) _ | exact tc_put _ _ (by omega) _ _ | exact cc_put _ _ (by omega) _ _ _ | exact dc_put _ _ (by omega) _ | exact rc_put _ _ (by omega) _ | exact lay_mc _ _ | exact lay_tc _ _ | exact lay_cc _ _ | exact lay_dc _ _ | exact lay_rc _ _ | exact lay2_0 | exact lay2_1 | exact lay3_0 | exact lay3_1 | exact lay3_2 | exact lay2_w | exact lay3_w) (by with_reducible first | exact mc_size _ | exact tc_size _ | exact cc_size _ | exact dc_size _ | exact rc_size _ | exact sz1 | exact sz2 | exact sz3 | exact sz4) (by simp only [mc_size, tc_size, cc_size, dc_size, rc_size, List.size_toArray, List.length_cons, List.length_nil]; omega) (by first | (with_reducible first | exact mc_one _ | exact tc_one _ | exact cc_one _ | exact dc_one _ | exact rc_one _ | exact t2_one _ _ | exact t3_one _ _ _) | (simp [Value.oneCell']; done)) ?_); intro W_ HP; clear HS; have HS := Aside0.mk HP; clear HP; (try simp only [List.set_cons_zero, List.set_cons_succ] at HS))
      | ((with_reducible refine gate_dst (N := 64) rfl ?_); (with_reducible refine field_at rfl rfl rfl fo44_7 ?_); (try simp only [toNat_16, toNat_12, Int.toNat_natCast, Nat.zero_add, Nat.add_zero, Nat.mul_one]); (try simp only [Act.put, List.setIfInBounds_toArray, List.set_cons_zero, List.set_cons_succ])))
          go_loopw [3, 67] (fun v3 v67 W => ∃ (k : Nat) (v : Value), v3 = v ∧ v67 = .int .i64 k ∧ k ≤ 16 ∧ Aside0 (Row w W [(g1, mc m)] v (hB m ++ tB m.T 16 ++ cB m.C 16 ++ dB m.D k)) ∧ Aside0 (Priv w W [(g1, mc m)])) (fun _ v67 _ => 16 - (intOf v67).toNat)
          case atStart => exact ⟨0, _, rfl, rfl, by omega, ⟨by have h_ := HO.out; simpa [dB] using h_⟩, HS⟩
          case round =>
            clear HS HO
            obtain ⟨k, v, rfl, rfl, hk, HO, HS⟩ := hrel
            by_cases hlt : k < 16
            · obtain ⟨t0, t1⟩ := HD.out (16 + k) (by omega)
              go_wp2_with (first
      | ((with_reducible refine gate_dst (N := 70) rfl ?_); (with_reducible refine load_one HS.out rfl rfl on31 rfl at0 (el_D16 _ _ hlt) ?_); (try simp only [Act.put, List.setIfInBounds_toArray, List.set_cons_zero, List.set_cons_succ]))
      | ((with_reducible refine gate_dst (N := 75) rfl ?_); refine ev_bytes HS.out HO.out rfl rfl Try.func28 (by kernel_rfl) rfl (by (try simp only [List.map_toArray, List.map_cons, List.map_nil]); first | done | rfl) (c_little _ _ 2 (by rfl) (by decide) (by rw [w64u16]; omega) (by rw [w64u16]; omega) _) ?_; intro v_ W_ HP HO_ HC_; clear HS; have HS := Aside0.mk HP; clear HP; clear HO; have HO := Aside0.mk HO_; clear HO_; have HC := Aside0.mk HC_; clear HC_; (try simp only [Act.put, List.setIfInBounds_toArray, List.set_cons_zero, List.set_cons_succ]))
      | ((with_reducible refine gate_dst (N := 76) rfl ?_); refine ev_append HS.out HO.out HC.out rfl rfl Try.underlying37 inf5 rfl rfl (by simp only [List.length_append, hB_length, tB_length, cB_length, dB_length, le_length, List.length_nil, List.length_cons]; omega) ?_; intro v_ W_ HP HO_; clear HC; clear HS; have HS := Aside0.mk HP; clear HP; clear HO; have HO := Aside0.mk HO_; clear HO_; (try simp only [Act.put, List.setIfInBounds_toArray, List.set_cons_zero, List.set_cons_succ]))
      | ((with_reducible refine gate_store (t := 39) (p := 5) rfl ?_); (with_reducible refine store_seg HS.out rfl rfl rfl ag39 rfl (by first | exact eval_tmp rfl | exact eval_const) (by first | exact at0 | exact at1 | exact at2 | exact at3 | exact at4 | exact at5 | exact at6) (by with_reducible first | exact set_X _ _ | exact set_Y _ _ | exact set_M _ _ | exact set_S _ _ | exact set_E _ _ | exact set_Time _ _ | exact set_Ran _ _ | exact set_Fault _ _ | exact set_T _ _ | exact set_C _ _ | exact set_D _ _ | exact set_R _ _ | exact put_T _ _ (by omega) _ _ | exact put_C _ _ (by omega) _ _ _ | exact put_D _ _ (by omega) _ | exact put_R _ _ (by omega) _ | exact tc_put _ _ (by omega) _ _ | exact cc_put _ _ (by omega) _ _ _ | exact dc_put _ _ (by omega) _ | exact rc_put _ _ (by omega) _ | exact lay_mc _ _ | exact lay_tc _ _ | exact lay_cc _ _ | exact lay_dc _ _ | exact lay_rc _ _ | exact lay2_0 | exact lay2_1 | exact lay3_0 | exact lay3_1 | exact lay3_2 | exact lay2_w | exact lay3_w) (by with_reducible first | exact mc_size _ | exact tc_size _ | exact cc_size _ | exact dc_size _ | exact rc_size _ | exact sz1 | exact sz2 | exact sz3 | exact sz4) (by simp only [mc_size, tc_size, cc_size, dc_size, rc_size, List.size_toArray, List.length_cons, List.length_nil]; omega) (by first | (with_reducible first | exact mc_one _ | exact tc_one _ | exact cc_one _ | exact dc_one _ | exact rc_one _ | exact t2_one _ _ | exact t3_one _ _ _) | (simp [Value.oneCell']; done)) ?_); intro W_ HP; clear HS; have HS := Aside0.mk HP; clear HP; (try simp only [List.set_cons_zero, List.set_cons_succ] at HS))
      | ((with_reducible refine gate_store (t := 41) (p := 7) rfl ?_); (with_reducible refine store_seg HS.out rfl rfl rfl ag41 rfl (by first | exact eval_tmp rfl | exact eval_const) (by first | exact at0 | exact at1 | exact at2 | exact at3 | exact at4 | exact at5 | exact at6) (by with_reducible first | exact set_X _ _ | exact set_Y _ _ | exact set_M _ _ | exact set_S _ _ | exact set_E _ _ | exact set_Time _ _ | exact set_Ran _ _ | exact set_Fault _ _ | exact set_T _ _ | exact set_C _ _ | exact set_D _ _ | exact set_R _ _ | exact put_T _ _ (by omega) _ _ | exact put_C _ _ (by omega) _ _ _ | exact put_D _ _ (by omega) _ | exact put_R _ _ (by omega) _ | exact tc_put _ _ (by omega) _ _ | exact cc_put _ _ (by omega) _ _ _ | exact dc_put _ _ (by omega) _ | exact rc_put _ _ (by omega) _ | exact lay_mc _ _ | exact lay_tc _ _ | exact lay_cc _ _ | exact lay_dc _ _ | exact lay_rc _ _ | exact lay2_0 | exact lay2_1 | exact lay3_0 | exact lay3_1 | exact lay3_2 | exact lay2_w | exact lay3_w) (by with_reducible first | exact mc_size _ | exact tc_size _ | exact cc_size _ | exact dc_size _ | exact rc_size _ | exact sz1 | exact sz2 | exact sz3 | exact sz4) (by simp only [mc_size, tc_size, cc_size, dc_size, rc_size, List.size_toArray, List.length_cons, List.length_nil]; omega) (by first | (with_reducible first | exact mc_one _ | exact tc_one _ | exact cc_one _ | exact dc_one _ | exact rc_one _ | exact t2_one _ _ | exact t3_one _ _ _) | (simp [Value.oneCell']; done)) ?_); intro W_ HP; clear HS; have HS := Aside0.mk HP; clear HP; (try simp only [List.set_cons_zero, List.set_cons_succ] at HS)))
              go_roundw
              case rel => exact ⟨k + 1, _, rfl, by go_num, by omega, ⟨by have h_ := HO.out; simpa [dB, List.append_assoc, u16_mod _ t0 t1, w64u16] using h_⟩, HS⟩
              case measure => simp [intOf]; omega
            · have e_ : k = 16 := by omega
              have HO_ := HO.out
              rw [e_] at HO_
              clear HO e_
              have HO := Aside0.mk HO_
              clear HO_
              go_wp2_with fail
              go_ret
              exact ⟨_, rfl, Kd.R_mono HO.out (fun _ _ => trivial), HS.out.below⟩

end Go.Proofs.Ytdmjdcapkjnipaa.K
