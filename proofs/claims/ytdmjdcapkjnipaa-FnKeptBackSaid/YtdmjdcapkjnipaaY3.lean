/- Walks over the ladders' memory: what the functions of this seat answer. -/
import Derived.Test.YtdmjdcapkjnipaaProg
import Derived.Test.YtdmjdcapkjnipaaMW
import Derived.WalkKit
import Derived.Deep.LoopGhost
import Derived.Deep.DeepCutAuto
import Derived.BigFrame
import Derived.Deep.QuietTactic
import Derived.BigQuiet
import Derived.Test.YtdmjdcapkjnipaaOP
import Derived.Test.YtdmjdcapkjnipaaRW
import Derived.Test.YtdmjdcapkjnipaaRL
import Derived.Test.YtdmjdcapkjnipaaQKept
import Derived.Outline
import Derived.Lib.JoinLaws
import Derived.Test.YtdmjdcapkjnipaaQBack
import Derived.Test.YtdmjdcapkjnipaaY2
namespace Go.Proofs.Ytdmjdcapkjnipaa.K
open Go Go.RowKit Go.Proofs.YtdmjdcapkjnipaaW Go.Proofs.YtdmjdcapkjnipaaW.PrintWords Go.Proofs.Ytdmjdcapkjnipaa.MW
set_option linter.unusedVariables false
set_option linter.unusedSimpArgs false
set_option maxRecDepth 100000
theorem inf5 : (Try.prog.info? 5).map (fun i => (i.zero, i.size, i.bytes)) = some (some (.int .u8 0), 1, 1) := by kernel_rfl
theorem ae40 : arrEl Try.prog 40 = some (16, 2) := by kernel_rfl
theorem ae42 : arrEl Try.prog 42 = some (16, 3) := by kernel_rfl
open QKept
theorem c_little (x m : Int) (n : Nat) (hm : m = n) (hn : n ≤ 8) (h0 : 0 ≤ x) (h1 : x < 18446744073709551616) (W : World) : Calls Try.prog 28 #[.int .u64 x, .int .i64 m] W fun e w' => ∃ v0, e = .returned v0 ∧ (Kd.int .u8).R 5 w' W.heap.size (fun _ => True) v0 (le n x) ∧ Below W.heap.size W w' := by
  subst hm
  obtain ⟨k, hk⟩ := little_ev x n hn h0 h1
  exact F.impl_little.calls k x n _ W hk
theorem c_bit (b : Bool) (w : World) : Calls Try.prog 29 #[.bool b] w (fun e w' => e = .returned (.int .u64 (flags b false)) ∧ w' = w) := by
  cases b <;> (go_enter Try.func29, Try.ntmps29; go_wp2; go_ret; exact ⟨rfl, rfl⟩)
theorem run_mk (W : World) : (Instr.makeSlice 37 (.int .i64 0) (.int .i64 134)).run Try.prog W = .ok (.slice (some ⟨W.heap.size, 0, none⟩) 0 134) (W.alloc (.cells (madeCells #[.int .u8 0] 134) 5)) := Go.run_make_room 37 5 (.int .u8 0) 1 Try.underlying37 inf5 rfl .i64 .i64 134 (by decide) (by decide) W
theorem run_msl {o : Oper} {a : Act} {W W1 : World} {ty : TypeId} {x y : Operand} {vx vy v : Value} (ho : o.op = .makeSlice ty x y) (hx : a.eval x = vx) (hy : a.eval y = vy) (h : (Instr.makeSlice ty vx vy).run Try.prog W = .ok v W1) : (execOp a.eval o).run Try.prog W = .ok (.value v) W1 := by
  unfold execOp
  simp [ho, hx, hy, h]
theorem le1f (a b : Bool) : le 1 (flags a b) = [flags a b] := by cases a <;> cases b <;> decide
theorem flags2 (a b : Bool) : flags a false + 2 * flags b false = flags a b := by cases a <;> cases b <;> decide
theorem flags_u8 (a b : Bool) : flags a b % 256 = flags a b := by cases a <;> cases b <;> decide
theorem Row_one {w W : World} {L : List (Nat × Array Value)} {v : Value} {l : List Int} {i g : Nat} {cs : Array Value} (HO : Row w W L v l) (hi : L[i]? = some (g, cs)) : Row w W [(g, cs)] v l :=
  Kd.R_mono HO (fun k hk y hy => by rw [List.mem_singleton] at hy; subst hy; exact hk _ (List.mem_of_getElem? hi))
theorem w8 (x : Int) (h0 : 0 ≤ x) (h1 : x < 256) : IntKind.u8.wrap x = x := by rw [IntKind.wrap_u8]; omega
theorem w64 (x : Int) (h0 : 0 ≤ x) (h1 : x < 18446744073709551616) : IntKind.u64.wrap x = x := by rw [IntKind.wrap_u64]; omega
theorem el_D16 (m : Mm) (k : Nat) (h : k < 16) : (mc m)[101 + k]? = some (.int .i16 (m.D (16 + k))) := by rw [show 101 + k = 85 + (16 + k) by omega]; exact el_D m _ (by omega)
theorem w64u16 (x : Int) : IntKind.u64.wrap (IntKind.u16.wrap x) = x % 65536 := by simp [IntKind.wrap, IntKind.bits, IntKind.signed]; omega
theorem shr32 (x : Int) : shr .u64 x 32 = x / 4294967296 := rfl
theorem u16_mod (x : Int) (h0 : -32768 ≤ x) (h1 : x < 32768) : (x + 65536) % 65536 = x % 65536 := by omega

set_option maxHeartbeats 4000000 in
set_option maxRecDepth 100000 in
theorem c_implKeptMake (m : Mm) (wf : m.wf) (w : World) : Calls Try.prog 9 #[.agg (mc m)] w fun e w' => ∃ v, e = .returned v ∧ (Kd.int .u8).R 5 w' w.heap.size (fun _ => True) v (keptBytes m) ∧ Below w.heap.size w w' := by
  have HS := Aside0.mk (Priv.nil w)
  obtain ⟨_, _, ⟨m0, m1⟩, ⟨s0, s1⟩, _, hT, hC, hD, _, _⟩ := wf
  have HT := Aside0.mk hT; have HC0 := Aside0.mk hC; have HD := Aside0.mk hD
  clear hT hC hD
  go_enter Try.func9, Try.ntmps9
  go_wp2_with ((first
      | ((with_reducible refine gate_dst (N := 10) rfl ?_); refine ev_room HS.out rfl (c := 134) (cells := madeCells #[.int .u8 0] 134) (run_msl rfl rfl rfl (run_mk _)) (by simp [madeCells]) (by decide) ?_; intro v_ W_ HP HO_; clear HS; have HS := Aside0.mk HP; clear HP; have HO := Aside0.mk HO_; clear HO_)
      | ((with_reducible refine gate_dst (N := 15) rfl ?_); refine ev_bytes HS.out HO.out rfl rfl Try.func28 (by kernel_rfl) rfl (by (try simp only [List.map_toArray, List.map_cons, List.map_nil]); first | done | rfl) (c_little _ _ 4 (by rfl) (by decide) (by omega) (by omega) _) ?_; intro v_ W_ HP HO_ HC_; clear HS; have HS := Aside0.mk HP; clear HP; clear HO; have HO := Aside0.mk HO_; clear HO_; have HC := Aside0.mk HC_; clear HC_)
      | ((with_reducible refine gate_dst (N := 16) rfl ?_); refine ev_append HS.out HO.out HC.out rfl rfl Try.underlying37 inf5 rfl rfl (by simp only [List.length_append, hB_length, tB_length, cB_length, dB_length, le_length, List.length_nil, List.length_cons]; omega) ?_; intro v_ W_ HP HO_; clear HC; clear HS; have HS := Aside0.mk HP; clear HP; clear HO; have HO := Aside0.mk HO_; clear HO_)
      | ((with_reducible refine gate_dst (N := 21) rfl ?_); refine ev_bytes HS.out HO.out rfl rfl Try.func28 (by kernel_rfl) rfl (by (try simp only [List.map_toArray, List.map_cons, List.map_nil]); first | done | rfl) (c_little _ _ 2 (by rfl) (by decide) s0 (by omega) _) ?_; intro v_ W_ HP HO_ HC_; clear HS; have HS := Aside0.mk HP; clear HP; clear HO; have HO := Aside0.mk HO_; clear HO_; have HC := Aside0.mk HC_; clear HC_)
      | ((with_reducible refine gate_dst (N := 22) rfl ?_); refine ev_append HS.out HO.out HC.out rfl rfl Try.underlying37 inf5 rfl rfl (by simp only [List.length_append, hB_length, tB_length, cB_length, dB_length, le_length, List.length_nil, List.length_cons]; omega) ?_; intro v_ W_ HP HO_; clear HC; clear HS; have HS := Aside0.mk HP; clear HP; clear HO; have HO := Aside0.mk HO_; clear HO_)
      | ((with_reducible refine gate_dst (N := 1) rfl ?_); (with_reducible refine box_new HS.out rfl rfl (by first | exact eval_tmp rfl | exact eval_const) ?_); intro g1 W1_ HP; clear HS; have HS := Aside0.mk HP; clear HP)
      | ((with_reducible refine gate_dst (N := 12) rfl ?_); (with_reducible refine field_at rfl rfl rfl fo44_2 ?_); (try simp only [toNat_16, toNat_12, Int.toNat_natCast, Nat.zero_add, Nat.add_zero, Nat.mul_one]))
      | ((with_reducible refine gate_dst (N := 13) rfl ?_); (with_reducible refine load_one HS.out rfl rfl on23 rfl (by first | exact at0 | exact at1 | exact at2 | exact at3 | exact at4 | exact at5 | exact at6) (by with_reducible exact get_M _) ?_))
      | ((with_reducible refine gate_dst (N := 18) rfl ?_); (with_reducible refine field_at rfl rfl rfl fo44_3 ?_); (try simp only [toNat_16, toNat_12, Int.toNat_natCast, Nat.zero_add, Nat.add_zero, Nat.mul_one]))
      | ((with_reducible refine gate_dst (N := 19) rfl ?_); (with_reducible refine load_one HS.out rfl rfl on24 rfl (by first | exact at0 | exact at1 | exact at2 | exact at3 | exact at4 | exact at5 | exact at6) (by with_reducible exact get_S _) ?_))
      | ((with_reducible refine gate_dst (N := 23) rfl ?_); (with_reducible refine field_at rfl rfl rfl fo44_5 ?_); (try simp only [toNat_16, toNat_12, Int.toNat_natCast, Nat.zero_add, Nat.add_zero, Nat.mul_one]))
      | ((with_reducible refine gate_dst (N := 24) rfl ?_); (with_reducible refine load_seg HS.out rfl rfl ag40 rfl (by first | exact at0 | exact at1 | exact at2 | exact at3 | exact at4 | exact at5 | exact at6) (by with_reducible first | exact get_T _ | exact el_T _ _ (by omega)) (by with_reducible first | exact mc_size _ | exact tc_size _ | exact cc_size _ | exact dc_size _ | exact rc_size _ | exact sz1 | exact sz2 | exact sz3 | exact sz4) ?_))
      | ((with_reducible refine gate_store (t := 39) (p := 5) rfl ?_); (with_reducible refine store_seg HS.out rfl rfl rfl ag39 rfl (by first | exact eval_tmp rfl | exact eval_const) (by first | exact at0 | exact at1 | exact at2 | exact at3 | exact at4 | exact at5 | exact at6) (by with_reducible first | exact tc_put _ _ (by omega) _ _ | exact cc_put _ _ (by omega) _ _ _ | exact dc_put _ _ (by omega) _ | exact rc_put _ _ (by omega) _ | exact lay_mc _ _ | exact lay_tc _ _ | exact lay_cc _ _ | exact lay_dc _ _ | exact lay_rc _ _ | exact lay2_0 | exact lay2_1 | exact lay3_0 | exact lay3_1 | exact lay3_2 | exact lay2_w | exact lay3_w) (by with_reducible first | exact mc_size _ | exact tc_size _ | exact cc_size _ | exact dc_size _ | exact rc_size _ | exact sz1 | exact sz2 | exact sz3 | exact sz4) (by simp only [mc_size, tc_size, cc_size, dc_size, rc_size, List.size_toArray, List.length_cons, List.length_nil]; omega) (by first | (with_reducible first | exact mc_one _ | exact tc_one _ | exact cc_one _ | exact dc_one _ | exact rc_one _ | exact t2_one _ _ | exact t3_one _ _ _) | (simp [Value.oneCell']; done)) ?_); intro W_ HP; clear HS; have HS := Aside0.mk HP; clear HP; (try simp only [List.set_cons_zero, List.set_cons_succ] at HS))
      | ((with_reducible refine gate_store (t := 41) (p := 7) rfl ?_); (with_reducible refine store_seg HS.out rfl rfl rfl ag41 rfl (by first | exact eval_tmp rfl | exact eval_const) (by first | exact at0 | exact at1 | exact at2 | exact at3 | exact at4 | exact at5 | exact at6) (by with_reducible first | exact tc_put _ _ (by omega) _ _ | exact cc_put _ _ (by omega) _ _ _ | exact dc_put _ _ (by omega) _ | exact rc_put _ _ (by omega) _ | exact lay_mc _ _ | exact lay_tc _ _ | exact lay_cc _ _ | exact lay_dc _ _ | exact lay_rc _ _ | exact lay2_0 | exact lay2_1 | exact lay3_0 | exact lay3_1 | exact lay3_2 | exact lay2_w | exact lay3_w) (by with_reducible first | exact mc_size _ | exact tc_size _ | exact cc_size _ | exact dc_size _ | exact rc_size _ | exact sz1 | exact sz2 | exact sz3 | exact sz4) (by simp only [mc_size, tc_size, cc_size, dc_size, rc_size, List.size_toArray, List.length_cons, List.length_nil]; omega) (by first | (with_reducible first | exact mc_one _ | exact tc_one _ | exact cc_one _ | exact dc_one _ | exact rc_one _ | exact t2_one _ _ | exact t3_one _ _ _) | (simp [Value.oneCell']; done)) ?_); intro W_ HP; clear HS; have HS := Aside0.mk HP; clear HP; (try simp only [List.set_cons_zero, List.set_cons_succ] at HS))); (try simp only [Act.put, List.setIfInBounds_toArray, List.set_cons_zero, List.set_cons_succ]))
  go_loopw [3, 25] (fun v3 v25 W => ∃ (k : Nat) (v : Value), v3 = v ∧ v25 = .int .i64 k ∧ k ≤ 16 ∧ Aside0 (Row w W [(g1, mc m)] v (hB m ++ tB m.T k)) ∧ Aside0 (Priv w W [(g1, mc m)])) (fun _ v25 _ => 16 - (intOf v25).toNat)
  case atStart => exact ⟨0, _, rfl, rfl, by omega, ⟨by have h_ := HO.out; simpa [hB, tB] using h_⟩, HS⟩
  case round =>
    clear HS HO
    obtain ⟨k, v, rfl, rfl, hk, HO, HS⟩ := hrel
    by_cases hlt : k < 16
    · obtain ⟨t0, t1⟩ := HT.out k hlt
      go_wp2_with ((first
      | ((with_reducible refine gate_dst (N := 27) rfl ?_); refine index_seg rfl rfl rfl rfl ae40 (Int.natCast_nonneg _) (by omega) rfl (by simp only [tc_size, cc_size, Int.toNat_natCast]; omega) (by simp only [Int.toNat_natCast]; exact tc_el _ _ hlt) ?_)
      | ((with_reducible refine gate_dst (N := 5) rfl ?_); (with_reducible refine alloc_row HS.out HO.out rfl rfl ze39 ?_); intro g5 W5_ HP HO_; clear HS; have HS := Aside0.mk HP; clear HP; clear HO; have HO := Aside0.mk HO_; clear HO_)
      | ((with_reducible refine gate_store (t := 39) (p := 5) rfl ?_); (with_reducible refine store_row HS.out HO.out rfl rfl rfl ag39 rfl (by first | exact eval_tmp rfl | exact eval_const) (by first | exact at0 | exact at1 | exact at2 | exact at3 | exact at4 | exact at5 | exact at6) (by with_reducible first | exact set_X _ _ | exact set_Y _ _ | exact set_M _ _ | exact set_S _ _ | exact set_E _ _ | exact set_Time _ _ | exact set_Ran _ _ | exact set_Fault _ _ | exact set_T _ _ | exact set_C _ _ | exact set_D _ _ | exact set_R _ _ | exact put_T _ _ (by omega) _ _ | exact put_C _ _ (by omega) _ _ _ | exact put_D _ _ (by omega) _ | exact put_R _ _ (by omega) _ | exact tc_put _ _ (by omega) _ _ | exact cc_put _ _ (by omega) _ _ _ | exact dc_put _ _ (by omega) _ | exact rc_put _ _ (by omega) _ | exact lay_mc _ _ | exact lay_tc _ _ | exact lay_cc _ _ | exact lay_dc _ _ | exact lay_rc _ _ | exact lay2_0 | exact lay2_1 | exact lay3_0 | exact lay3_1 | exact lay3_2 | exact lay2_w | exact lay3_w) (by with_reducible first | exact mc_size _ | exact tc_size _ | exact cc_size _ | exact dc_size _ | exact rc_size _ | exact sz1 | exact sz2 | exact sz3 | exact sz4) (by simp only [mc_size, tc_size, cc_size, dc_size, rc_size, List.size_toArray, List.length_cons, List.length_nil]; omega) (by first | (with_reducible first | exact mc_one _ | exact tc_one _ | exact cc_one _ | exact dc_one _ | exact rc_one _ | exact t2_one _ _ | exact t3_one _ _ _) | (simp [Value.oneCell']; done)) ?_); intro W_ HP HO_; (try simp only [List.set_cons_zero, List.set_cons_succ] at HP HO_); clear HS; have HS := Aside0.mk HP; clear HP; clear HO; have HO := Aside0.mk HO_; clear HO_)
      | ((with_reducible refine gate_store (t := 39) (p := 5) rfl ?_); (with_reducible refine store_seg HS.out rfl rfl rfl ag39 rfl (by first | exact eval_tmp rfl | exact eval_const) (by first | exact at0 | exact at1 | exact at2 | exact at3 | exact at4 | exact at5 | exact at6) (by with_reducible first | exact tc_put _ _ (by omega) _ _ | exact cc_put _ _ (by omega) _ _ _ | exact dc_put _ _ (by omega) _ | exact rc_put _ _ (by omega) _ | exact lay_mc _ _ | exact lay_tc _ _ | exact lay_cc _ _ | exact lay_dc _ _ | exact lay_rc _ _ | exact lay2_0 | exact lay2_1 | exact lay3_0 | exact lay3_1 | exact lay3_2 | exact lay2_w | exact lay3_w) (by with_reducible first | exact mc_size _ | exact tc_size _ | exact cc_size _ | exact dc_size _ | exact rc_size _ | exact sz1 | exact sz2 | exact sz3 | exact sz4) (by simp only [mc_size, tc_size, cc_size, dc_size, rc_size, List.size_toArray, List.length_cons, List.length_nil]; omega) (by first | (with_reducible first | exact mc_one _ | exact tc_one _ | exact cc_one _ | exact dc_one _ | exact rc_one _ | exact t2_one _ _ | exact t3_one _ _ _) | (simp [Value.oneCell']; done)) ?_); intro W_ HP; clear HS; have HS := Aside0.mk HP; clear HP; (try simp only [List.set_cons_zero, List.set_cons_succ] at HS))
      | ((with_reducible refine gate_store (t := 41) (p := 7) rfl ?_); (with_reducible refine store_seg HS.out rfl rfl rfl ag41 rfl (by first | exact eval_tmp rfl | exact eval_const) (by first | exact at0 | exact at1 | exact at2 | exact at3 | exact at4 | exact at5 | exact at6) (by with_reducible first | exact tc_put _ _ (by omega) _ _ | exact cc_put _ _ (by omega) _ _ _ | exact dc_put _ _ (by omega) _ | exact rc_put _ _ (by omega) _ | exact lay_mc _ _ | exact lay_tc _ _ | exact lay_cc _ _ | exact lay_dc _ _ | exact lay_rc _ _ | exact lay2_0 | exact lay2_1 | exact lay3_0 | exact lay3_1 | exact lay3_2 | exact lay2_w | exact lay3_w) (by with_reducible first | exact mc_size _ | exact tc_size _ | exact cc_size _ | exact dc_size _ | exact rc_size _ | exact sz1 | exact sz2 | exact sz3 | exact sz4) (by simp only [mc_size, tc_size, cc_size, dc_size, rc_size, List.size_toArray, List.length_cons, List.length_nil]; omega) (by first | (with_reducible first | exact mc_one _ | exact tc_one _ | exact cc_one _ | exact dc_one _ | exact rc_one _ | exact t2_one _ _ | exact t3_one _ _ _) | (simp [Value.oneCell']; done)) ?_); intro W_ HP; clear HS; have HS := Aside0.mk HP; clear HP; (try simp only [List.set_cons_zero, List.set_cons_succ] at HS))); (try simp only [Act.put, List.setIfInBounds_toArray, List.set_cons_zero, List.set_cons_succ]))
      have E1 : IntKind.u8.wrap (flags (m.T k).1 false) = flags (m.T k).1 false := by have := flags_range (m.T k).1 false; exact w8 _ (by omega) (by omega)
      have E2 : IntKind.u64.wrap (m.T k).2 = (m.T k).2 := w64 _ t0 (by omega)
      refine start_P (LS := _) #[false, false, false, false, false, false, false, false, false, false, false, false, false] HS.out HO.out (by kernel_rfl) rfl rfl (fun W_ HSS => HSS.one at0) ?_
      intro W_ HP HO_ hHeld; clear HS; have HS := Aside0.mk HP; clear HP; clear HO; have HO := Aside0.mk HO_; clear HO_
      refine PrintLast.pure_ (i := 0) (N := some 28) (v := ?_) (a' := ?_) #[true, false, false, false, false, false, false, false, false, false, false, false, false] rfl rfl (by kernel_rfl) (fun _ _ _ h => h) (Or.inl ⟨by rfl, ?_⟩) ?_ ?_
      rotate_left
      · intro w'
        go_simp
        with_reducible rfl
      rotate_left
      · simp only [Act.put, List.setIfInBounds_toArray, List.set_cons_zero, List.set_cons_succ, Nat.zero_add, Nat.add_zero, E1, E2]
        rfl
      refine PrintLast.pure_ (i := 1) (N := some 29) (v := ?_) (a' := ?_) #[true, true, false, false, false, false, false, false, false, false, false, false, false] rfl rfl (by kernel_rfl) (fun _ _ _ h => h) (Or.inl ⟨by rfl, ?_⟩) ?_ ?_
      rotate_left
      · intro w'
        refine Eq.trans (run_field_at rfl rfl rfl fo39_0) ?_
        with_reducible rfl
      rotate_left
      · simp only [Act.put, List.setIfInBounds_toArray, List.set_cons_zero, List.set_cons_succ, Nat.zero_add, Nat.add_zero, E1, E2]
        rfl
      refine PrintLast.take_ (i := 2) (N := some 30) (v := ?_) (a' := ?_) #[true, true, true, false, false, false, false, false, false, false, false, false, false] rfl rfl (by kernel_rfl) (fun _ _ _ h => h) (Or.inl ⟨by rfl, ?_⟩) hHeld ?_ ?_
      rotate_left
      · intro w' hS
        refine Eq.trans (run_load_one hS rfl rfl on4 rfl at0 at0a) ?_
        with_reducible rfl
      rotate_left
      · simp only [Act.put, List.setIfInBounds_toArray, List.set_cons_zero, List.set_cons_succ, Nat.zero_add, Nat.add_zero, E1, E2]
        rfl
      refine PrintLast.pure_ (i := 7) (N := some 35) (v := ?_) (a' := ?_) #[true, true, true, false, false, false, false, true, false, false, false, false, false] rfl rfl (by kernel_rfl) (fun _ _ _ h => h) (Or.inl ⟨by rfl, ?_⟩) ?_ ?_
      rotate_left
      · intro w'
        refine Eq.trans (run_field_at rfl rfl rfl fo39_1) ?_
        with_reducible rfl
      rotate_left
      · simp only [Act.put, List.setIfInBounds_toArray, List.set_cons_zero, List.set_cons_succ, Nat.zero_add, Nat.add_zero, E1, E2]
        rfl
      refine PrintLast.take_ (i := 8) (N := some 36) (v := ?_) (a' := ?_) #[true, true, true, false, false, false, false, true, true, false, false, false, false] rfl rfl (by kernel_rfl) (fun _ _ _ h => h) (Or.inl ⟨by rfl, ?_⟩) hHeld ?_ ?_
      rotate_left
      · intro w' hS
        refine Eq.trans (run_load_one hS rfl rfl on24 rfl at0 at1a) ?_
        with_reducible rfl
      rotate_left
      · simp only [Act.put, List.setIfInBounds_toArray, List.set_cons_zero, List.set_cons_succ, Nat.zero_add, Nat.add_zero, E1, E2]
        rfl
      refine PrintLast.pure_ (i := 9) (N := some 37) (v := ?_) (a' := ?_) #[true, true, true, false, false, false, false, true, true, true, false, false, false] rfl rfl (by kernel_rfl) (fun _ _ _ h => h) (Or.inl ⟨by rfl, ?_⟩) ?_ ?_
      rotate_left
      · intro w'
        go_simp
        with_reducible rfl
      rotate_left
      · simp only [Act.put, List.setIfInBounds_toArray, List.set_cons_zero, List.set_cons_succ, Nat.zero_add, Nat.add_zero, E1, E2]
        rfl
      refine PrintLast.one_ (i := 3) (N := some 31) #[true, true, true, true, false, false, false, true, true, true, false, false, false] rfl rfl (by kernel_rfl) (by decide) (fun K hK => ?_)
      refine step_quiet (wanted_of rfl) rfl rfl Try.func29 (by kernel_rfl) rfl (c_bit _ _) (by (try simp only [List.map_toArray, List.map_cons, List.map_nil]); first | done | rfl) ?_
      refine hK.out _ _ hHeld (fun hHeld => ?_)
      clear hK K
      refine PrintLast.norm_ (a' := ?_) ?_ ?_
      rotate_left
      · show Act.put _ (some 31) _ = _
        simp only [Act.put, List.setIfInBounds_toArray, List.set_cons_zero, List.set_cons_succ, Nat.zero_add, Nat.add_zero, E1, E2]
        rfl
      refine PrintLast.pure_ (i := 4) (N := some 32) (v := ?_) (a' := ?_) #[true, true, true, true, true, false, false, true, true, true, false, false, false] rfl rfl (by kernel_rfl) (fun _ _ _ h => h) (Or.inl ⟨by rfl, ?_⟩) ?_ ?_
      rotate_left
      · intro w'
        go_simp
        with_reducible rfl
      rotate_left
      · simp only [Act.put, List.setIfInBounds_toArray, List.set_cons_zero, List.set_cons_succ, Nat.zero_add, Nat.add_zero, E1, E2]
        rfl
      refine PrintLast.one_ (i := 5) (N := some 33) #[true, true, true, true, true, true, false, true, true, true, false, false, false] rfl rfl (by kernel_rfl) (by decide) (fun K hK => ?_)
      refine step_lit (wanted_of rfl) HS.out HO.out rfl (by first | (go_simp; done) | (go_simp; rfl)) ?_
      intro v_ W_ HP HO_ HC_; clear hHeld; clear HS; have HS := Aside0.mk HP; clear HP; clear HO; have HO := Aside0.mk HO_; clear HO_; have HC := Aside0.mk HC_; clear HC_
      refine hK.out _ _ (HS.out.one at0) (fun hHeld => ?_)
      clear hK K
      refine PrintLast.norm_ (a' := ?_) ?_ ?_
      rotate_left
      · show Act.put _ (some 33) _ = _
        simp only [Act.put, List.setIfInBounds_toArray, List.set_cons_zero, List.set_cons_succ, Nat.zero_add, Nat.add_zero, E1, E2]
        rfl
      refine PrintLast.one_ (i := 6) (N := some 34) #[true, true, true, true, true, true, true, true, true, true, false, false, false] rfl rfl (by kernel_rfl) (by decide) (fun K hK => ?_)
      refine step_append (wanted_of rfl) HS.out HO.out HC.out rfl Try.underlying37 inf5 rfl rfl (by simp only [List.length_append, hB_length, tB_length, cB_length, dB_length, le_length, List.length_nil, List.length_cons]; omega) ?_
      intro v_ W_ HP HO_; clear HC; try clear hHeld
      clear HS; have HS := Aside0.mk HP; clear HP; clear HO; have HO := Aside0.mk HO_; clear HO_
      refine hK.out _ _ (HS.out.one at0) (fun hHeld => ?_)
      clear hK K
      refine PrintLast.norm_ (a' := ?_) ?_ ?_
      rotate_left
      · show Act.put _ (some 34) _ = _
        simp only [Act.put, List.setIfInBounds_toArray, List.set_cons_zero, List.set_cons_succ, Nat.zero_add, Nat.add_zero, E1, E2]
        rfl
      refine PrintLast.one_ (i := 10) (N := some 38) #[true, true, true, true, true, true, true, true, true, true, true, false, false] rfl rfl (by kernel_rfl) (by decide) (fun K hK => ?_)
      refine step_bytes (wanted_of rfl) HS.out HO.out rfl rfl Try.func28 (by kernel_rfl) rfl (by (try simp only [List.map_toArray, List.map_cons, List.map_nil]); first | done | rfl) (c_little _ _ 2 (by rfl) (by decide) t0 (by omega) _) ?_
      intro v_ W_ HP HO_ HC_; try clear hHeld
      clear HS; have HS := Aside0.mk HP; clear HP; clear HO; have HO := Aside0.mk HO_; clear HO_; have HC := Aside0.mk HC_; clear HC_
      refine hK.out _ _ (HS.out.one at0) (fun hHeld => ?_)
      clear hK K
      refine PrintLast.norm_ (a' := ?_) ?_ ?_
      rotate_left
      · show Act.put _ (some 38) _ = _
        simp only [Act.put, List.setIfInBounds_toArray, List.set_cons_zero, List.set_cons_succ, Nat.zero_add, Nat.add_zero, E1, E2]
        rfl
      refine PrintLast.one_ (i := 11) (N := some 39) #[true, true, true, true, true, true, true, true, true, true, true, true, false] rfl rfl (by kernel_rfl) (by decide) (fun K hK => ?_)
      refine step_append (wanted_of rfl) HS.out HO.out HC.out rfl Try.underlying37 inf5 rfl rfl (by simp only [List.length_append, hB_length, tB_length, cB_length, dB_length, le_length, List.length_nil, List.length_cons]; omega) ?_
      intro v_ W_ HP HO_; clear HC; try clear hHeld
      clear HS; have HS := Aside0.mk HP; clear HP; clear HO; have HO := Aside0.mk HO_; clear HO_
      refine hK.out _ _ (HS.out.one at0) (fun hHeld => ?_)
      clear hK K
      refine PrintLast.norm_ (a' := ?_) ?_ ?_
      rotate_left
      · show Act.put _ (some 39) _ = _
        simp only [Act.put, List.setIfInBounds_toArray, List.set_cons_zero, List.set_cons_succ, Nat.zero_add, Nat.add_zero, E1, E2]
        rfl
      refine PrintLast.pure_ (i := 12) (N := some 3) (v := ?_) (a' := ?_) #[true, true, true, true, true, true, true, true, true, true, true, true, true] rfl rfl (by kernel_rfl) (fun _ _ _ h => h) (Or.inl ⟨by rfl, ?_⟩) ?_ ?_
      rotate_left
      · intro w'
        go_simp
        with_reducible rfl
      rotate_left
      · simp only [Act.put, List.setIfInBounds_toArray, List.set_cons_zero, List.set_cons_succ, Nat.zero_add, Nat.add_zero, E1, E2]
        rfl
      refine PrintLast.done_ (by kernel_rfl) ?_
      clear hHeld
      go_wp2_with fail
      go_roundw
      case rel => exact ⟨k + 1, _, rfl, by go_num, by omega, ⟨by have h_ := Row_one HO.out at1; simpa [tB, List.append_assoc, le1f, flags_u8] using h_⟩, ⟨HS.out.one at1⟩⟩
      case measure => simp [intOf]; omega
    · have e_ : k = 16 := by omega
      have HO_ := HO.out
      rw [e_] at HO_
      clear HO e_
      have HO := Aside0.mk HO_
      clear HO_
      go_wp2_with ((first
      | ((with_reducible refine gate_store (t := 39) (p := 5) rfl ?_); (with_reducible refine store_seg HS.out rfl rfl rfl ag39 rfl (by first | exact eval_tmp rfl | exact eval_const) (by first | exact at0 | exact at1 | exact at2 | exact at3 | exact at4 | exact at5 | exact at6) (by with_reducible first | exact tc_put _ _ (by omega) _ _ | exact cc_put _ _ (by omega) _ _ _ | exact dc_put _ _ (by omega) _ | exact rc_put _ _ (by omega) _ | exact lay_mc _ _ | exact lay_tc _ _ | exact lay_cc _ _ | exact lay_dc _ _ | exact lay_rc _ _ | exact lay2_0 | exact lay2_1 | exact lay3_0 | exact lay3_1 | exact lay3_2 | exact lay2_w | exact lay3_w) (by with_reducible first | exact mc_size _ | exact tc_size _ | exact cc_size _ | exact dc_size _ | exact rc_size _ | exact sz1 | exact sz2 | exact sz3 | exact sz4) (by simp only [mc_size, tc_size, cc_size, dc_size, rc_size, List.size_toArray, List.length_cons, List.length_nil]; omega) (by first | (with_reducible first | exact mc_one _ | exact tc_one _ | exact cc_one _ | exact dc_one _ | exact rc_one _ | exact t2_one _ _ | exact t3_one _ _ _) | (simp [Value.oneCell']; done)) ?_); intro W_ HP; clear HS; have HS := Aside0.mk HP; clear HP; (try simp only [List.set_cons_zero, List.set_cons_succ] at HS))
      | ((with_reducible refine gate_dst (N := 41) rfl ?_); (with_reducible refine field_at rfl rfl rfl fo44_6 ?_); (try simp only [toNat_16, toNat_12, Int.toNat_natCast, Nat.zero_add, Nat.add_zero, Nat.mul_one]))
      | ((with_reducible refine gate_dst (N := 42) rfl ?_); (with_reducible refine load_seg HS.out rfl rfl ag42 rfl (by first | exact at0 | exact at1 | exact at2 | exact at3 | exact at4 | exact at5 | exact at6) (by with_reducible first | exact get_C _ | exact el_C _ _ (by omega)) (by with_reducible first | exact mc_size _ | exact tc_size _ | exact cc_size _ | exact dc_size _ | exact rc_size _ | exact sz1 | exact sz2 | exact sz3 | exact sz4) ?_))
      | ((with_reducible refine gate_store (t := 41) (p := 7) rfl ?_); (with_reducible refine store_seg HS.out rfl rfl rfl ag41 rfl (by first | exact eval_tmp rfl | exact eval_const) (by first | exact at0 | exact at1 | exact at2 | exact at3 | exact at4 | exact at5 | exact at6) (by with_reducible first | exact tc_put _ _ (by omega) _ _ | exact cc_put _ _ (by omega) _ _ _ | exact dc_put _ _ (by omega) _ | exact rc_put _ _ (by omega) _ | exact lay_mc _ _ | exact lay_tc _ _ | exact lay_cc _ _ | exact lay_dc _ _ | exact lay_rc _ _ | exact lay2_0 | exact lay2_1 | exact lay3_0 | exact lay3_1 | exact lay3_2 | exact lay2_w | exact lay3_w) (by with_reducible first | exact mc_size _ | exact tc_size _ | exact cc_size _ | exact dc_size _ | exact rc_size _ | exact sz1 | exact sz2 | exact sz3 | exact sz4) (by simp only [mc_size, tc_size, cc_size, dc_size, rc_size, List.size_toArray, List.length_cons, List.length_nil]; omega) (by first | (with_reducible first | exact mc_one _ | exact tc_one _ | exact cc_one _ | exact dc_one _ | exact rc_one _ | exact t2_one _ _ | exact t3_one _ _ _) | (simp [Value.oneCell']; done)) ?_); intro W_ HP; clear HS; have HS := Aside0.mk HP; clear HP; (try simp only [List.set_cons_zero, List.set_cons_succ] at HS))); (try simp only [Act.put, List.setIfInBounds_toArray, List.set_cons_zero, List.set_cons_succ]))
      go_loopw [3, 43] (fun v3 v43 W => ∃ (k : Nat) (v : Value), v3 = v ∧ v43 = .int .i64 k ∧ k ≤ 16 ∧ Aside0 (Row w W [(g1, mc m)] v (hB m ++ tB m.T 16 ++ cB m.C k)) ∧ Aside0 (Priv w W [(g1, mc m)])) (fun _ v43 _ => 16 - (intOf v43).toNat)
      case atStart => exact ⟨0, _, rfl, rfl, by omega, ⟨by have h_ := HO.out; simpa [cB] using h_⟩, HS⟩
      case round =>
        clear HS HO
        obtain ⟨k, v, rfl, rfl, hk, HO, HS⟩ := hrel
        by_cases hlt : k < 16
        · obtain ⟨t0, t1⟩ := HC0.out k hlt
          go_wp2_with ((first
      | ((with_reducible refine gate_dst (N := 45) rfl ?_); refine index_seg rfl rfl rfl rfl ae42 (Int.natCast_nonneg _) (by omega) rfl (by simp only [tc_size, cc_size, Int.toNat_natCast]; omega) (by simp only [Int.toNat_natCast]; exact cc_el _ _ hlt) ?_)
      | ((with_reducible refine gate_dst (N := 7) rfl ?_); (with_reducible refine alloc_row HS.out HO.out rfl rfl ze41 ?_); intro g7 W7_ HP HO_; clear HS; have HS := Aside0.mk HP; clear HP; clear HO; have HO := Aside0.mk HO_; clear HO_)
      | ((with_reducible refine gate_store (t := 41) (p := 7) rfl ?_); (with_reducible refine store_row HS.out HO.out rfl rfl rfl ag41 rfl (by first | exact eval_tmp rfl | exact eval_const) (by first | exact at0 | exact at1 | exact at2 | exact at3 | exact at4 | exact at5 | exact at6) (by with_reducible first | exact set_X _ _ | exact set_Y _ _ | exact set_M _ _ | exact set_S _ _ | exact set_E _ _ | exact set_Time _ _ | exact set_Ran _ _ | exact set_Fault _ _ | exact set_T _ _ | exact set_C _ _ | exact set_D _ _ | exact set_R _ _ | exact put_T _ _ (by omega) _ _ | exact put_C _ _ (by omega) _ _ _ | exact put_D _ _ (by omega) _ | exact put_R _ _ (by omega) _ | exact tc_put _ _ (by omega) _ _ | exact cc_put _ _ (by omega) _ _ _ | exact dc_put _ _ (by omega) _ | exact rc_put _ _ (by omega) _ | exact lay_mc _ _ | exact lay_tc _ _ | exact lay_cc _ _ | exact lay_dc _ _ | exact lay_rc _ _ | exact lay2_0 | exact lay2_1 | exact lay3_0 | exact lay3_1 | exact lay3_2 | exact lay2_w | exact lay3_w) (by with_reducible first | exact mc_size _ | exact tc_size _ | exact cc_size _ | exact dc_size _ | exact rc_size _ | exact sz1 | exact sz2 | exact sz3 | exact sz4) (by simp only [mc_size, tc_size, cc_size, dc_size, rc_size, List.size_toArray, List.length_cons, List.length_nil]; omega) (by first | (with_reducible first | exact mc_one _ | exact tc_one _ | exact cc_one _ | exact dc_one _ | exact rc_one _ | exact t2_one _ _ | exact t3_one _ _ _) | (simp [Value.oneCell']; done)) ?_); intro W_ HP HO_; (try simp only [List.set_cons_zero, List.set_cons_succ] at HP HO_); clear HS; have HS := Aside0.mk HP; clear HP; clear HO; have HO := Aside0.mk HO_; clear HO_)
      | ((with_reducible refine gate_store (t := 39) (p := 5) rfl ?_); (with_reducible refine store_seg HS.out rfl rfl rfl ag39 rfl (by first | exact eval_tmp rfl | exact eval_const) (by first | exact at0 | exact at1 | exact at2 | exact at3 | exact at4 | exact at5 | exact at6) (by with_reducible first | exact tc_put _ _ (by omega) _ _ | exact cc_put _ _ (by omega) _ _ _ | exact dc_put _ _ (by omega) _ | exact rc_put _ _ (by omega) _ | exact lay_mc _ _ | exact lay_tc _ _ | exact lay_cc _ _ | exact lay_dc _ _ | exact lay_rc _ _ | exact lay2_0 | exact lay2_1 | exact lay3_0 | exact lay3_1 | exact lay3_2 | exact lay2_w | exact lay3_w) (by with_reducible first | exact mc_size _ | exact tc_size _ | exact cc_size _ | exact dc_size _ | exact rc_size _ | exact sz1 | exact sz2 | exact sz3 | exact sz4) (by simp only [mc_size, tc_size, cc_size, dc_size, rc_size, List.size_toArray, List.length_cons, List.length_nil]; omega) (by first | (with_reducible first | exact mc_one _ | exact tc_one _ | exact cc_one _ | exact dc_one _ | exact rc_one _ | exact t2_one _ _ | exact t3_one _ _ _) | (simp [Value.oneCell']; done)) ?_); intro W_ HP; clear HS; have HS := Aside0.mk HP; clear HP; (try simp only [List.set_cons_zero, List.set_cons_succ] at HS))
      | ((with_reducible refine gate_store (t := 41) (p := 7) rfl ?_); (with_reducible refine store_seg HS.out rfl rfl rfl ag41 rfl (by first | exact eval_tmp rfl | exact eval_const) (by first | exact at0 | exact at1 | exact at2 | exact at3 | exact at4 | exact at5 | exact at6) (by with_reducible first | exact tc_put _ _ (by omega) _ _ | exact cc_put _ _ (by omega) _ _ _ | exact dc_put _ _ (by omega) _ | exact rc_put _ _ (by omega) _ | exact lay_mc _ _ | exact lay_tc _ _ | exact lay_cc _ _ | exact lay_dc _ _ | exact lay_rc _ _ | exact lay2_0 | exact lay2_1 | exact lay3_0 | exact lay3_1 | exact lay3_2 | exact lay2_w | exact lay3_w) (by with_reducible first | exact mc_size _ | exact tc_size _ | exact cc_size _ | exact dc_size _ | exact rc_size _ | exact sz1 | exact sz2 | exact sz3 | exact sz4) (by simp only [mc_size, tc_size, cc_size, dc_size, rc_size, List.size_toArray, List.length_cons, List.length_nil]; omega) (by first | (with_reducible first | exact mc_one _ | exact tc_one _ | exact cc_one _ | exact dc_one _ | exact rc_one _ | exact t2_one _ _ | exact t3_one _ _ _) | (simp [Value.oneCell']; done)) ?_); intro W_ HP; clear HS; have HS := Aside0.mk HP; clear HP; (try simp only [List.set_cons_zero, List.set_cons_succ] at HS))); (try simp only [Act.put, List.setIfInBounds_toArray, List.set_cons_zero, List.set_cons_succ]))
          have E1 : IntKind.u64.wrap (2 * flags (m.C k).2.1 false) = 2 * flags (m.C k).2.1 false := by have := flags_range (m.C k).2.1 false; exact w64 _ (by omega) (by omega)
          have E2 : IntKind.u64.wrap (flags (m.C k).1 (m.C k).2.1) = flags (m.C k).1 (m.C k).2.1 := by have := flags_range (m.C k).1 (m.C k).2.1; exact w64 _ (by omega) (by omega)
          have E3 : IntKind.u8.wrap (flags (m.C k).1 (m.C k).2.1) = flags (m.C k).1 (m.C k).2.1 := by have := flags_range (m.C k).1 (m.C k).2.1; exact w8 _ (by omega) (by omega)
          have E4 : IntKind.u64.wrap (m.C k).2.2 = (m.C k).2.2 := w64 _ t0 (by omega)
          refine start_P (LS := _) #[false, false, false, false, false, false, false, false, false, false, false, false, false, false, false, false, false, false] HS.out HO.out (by kernel_rfl) rfl rfl (fun W_ HSS => HSS.one at0) ?_
          intro W_ HP HO_ hHeld; clear HS; have HS := Aside0.mk HP; clear HP; clear HO; have HO := Aside0.mk HO_; clear HO_
          refine PrintLast.pure_ (i := 0) (N := some 46) (v := ?_) (a' := ?_) #[true, false, false, false, false, false, false, false, false, false, false, false, false, false, false, false, false, false] rfl rfl (by kernel_rfl) (fun _ _ _ h => h) (Or.inl ⟨by rfl, ?_⟩) ?_ ?_
          rotate_left
          · intro w'
            go_simp
            with_reducible rfl
          rotate_left
          · simp only [Act.put, List.setIfInBounds_toArray, List.set_cons_zero, List.set_cons_succ, Nat.zero_add, Nat.add_zero, E1, E2, E3, E4, flags2]
            rfl
          refine PrintLast.pure_ (i := 1) (N := some 47) (v := ?_) (a' := ?_) #[true, true, false, false, false, false, false, false, false, false, false, false, false, false, false, false, false, false] rfl rfl (by kernel_rfl) (fun _ _ _ h => h) (Or.inl ⟨by rfl, ?_⟩) ?_ ?_
          rotate_left
          · intro w'
            refine Eq.trans (run_field_at rfl rfl rfl fo41_0) ?_
            with_reducible rfl
          rotate_left
          · simp only [Act.put, List.setIfInBounds_toArray, List.set_cons_zero, List.set_cons_succ, Nat.zero_add, Nat.add_zero, E1, E2, E3, E4, flags2]
            rfl
          refine PrintLast.take_ (i := 2) (N := some 48) (v := ?_) (a' := ?_) #[true, true, true, false, false, false, false, false, false, false, false, false, false, false, false, false, false, false] rfl rfl (by kernel_rfl) (fun _ _ _ h => h) (Or.inl ⟨by rfl, ?_⟩) hHeld ?_ ?_
          rotate_left
          · intro w' hS
            refine Eq.trans (run_load_one hS rfl rfl on4 rfl at0 at0a) ?_
            with_reducible rfl
          rotate_left
          · simp only [Act.put, List.setIfInBounds_toArray, List.set_cons_zero, List.set_cons_succ, Nat.zero_add, Nat.add_zero, E1, E2, E3, E4, flags2]
            rfl
          refine PrintLast.pure_ (i := 4) (N := some 50) (v := ?_) (a' := ?_) #[true, true, true, false, true, false, false, false, false, false, false, false, false, false, false, false, false, false] rfl rfl (by kernel_rfl) (fun _ _ _ h => h) (Or.inl ⟨by rfl, ?_⟩) ?_ ?_
          rotate_left
          · intro w'
            refine Eq.trans (run_field_at rfl rfl rfl fo41_1) ?_
            with_reducible rfl
          rotate_left
          · simp only [Act.put, List.setIfInBounds_toArray, List.set_cons_zero, List.set_cons_succ, Nat.zero_add, Nat.add_zero, E1, E2, E3, E4, flags2]
            rfl
          refine PrintLast.take_ (i := 5) (N := some 51) (v := ?_) (a' := ?_) #[true, true, true, false, true, true, false, false, false, false, false, false, false, false, false, false, false, false] rfl rfl (by kernel_rfl) (fun _ _ _ h => h) (Or.inl ⟨by rfl, ?_⟩) hHeld ?_ ?_
          rotate_left
          · intro w' hS
            refine Eq.trans (run_load_one hS rfl rfl on4 rfl at0 at1a) ?_
            with_reducible rfl
          rotate_left
          · simp only [Act.put, List.setIfInBounds_toArray, List.set_cons_zero, List.set_cons_succ, Nat.zero_add, Nat.add_zero, E1, E2, E3, E4, flags2]
            rfl
          refine PrintLast.pure_ (i := 12) (N := some 58) (v := ?_) (a' := ?_) #[true, true, true, false, true, true, false, false, false, false, false, false, true, false, false, false, false, false] rfl rfl (by kernel_rfl) (fun _ _ _ h => h) (Or.inl ⟨by rfl, ?_⟩) ?_ ?_
          rotate_left
          · intro w'
            refine Eq.trans (run_field_at rfl rfl rfl fo41_2) ?_
            with_reducible rfl
          rotate_left
          · simp only [Act.put, List.setIfInBounds_toArray, List.set_cons_zero, List.set_cons_succ, Nat.zero_add, Nat.add_zero, E1, E2, E3, E4, flags2]
            rfl
          refine PrintLast.take_ (i := 13) (N := some 59) (v := ?_) (a' := ?_) #[true, true, true, false, true, true, false, false, false, false, false, false, true, true, false, false, false, false] rfl rfl (by kernel_rfl) (fun _ _ _ h => h) (Or.inl ⟨by rfl, ?_⟩) hHeld ?_ ?_
          rotate_left
          · intro w' hS
            refine Eq.trans (run_load_one hS rfl rfl on24 rfl at0 at2a) ?_
            with_reducible rfl
          rotate_left
          · simp only [Act.put, List.setIfInBounds_toArray, List.set_cons_zero, List.set_cons_succ, Nat.zero_add, Nat.add_zero, E1, E2, E3, E4, flags2]
            rfl
          refine PrintLast.pure_ (i := 14) (N := some 60) (v := ?_) (a' := ?_) #[true, true, true, false, true, true, false, false, false, false, false, false, true, true, true, false, false, false] rfl rfl (by kernel_rfl) (fun _ _ _ h => h) (Or.inl ⟨by rfl, ?_⟩) ?_ ?_
          rotate_left
          · intro w'
            go_simp
            with_reducible rfl
          rotate_left
          · simp only [Act.put, List.setIfInBounds_toArray, List.set_cons_zero, List.set_cons_succ, Nat.zero_add, Nat.add_zero, E1, E2, E3, E4, flags2]
            rfl
          refine PrintLast.one_ (i := 3) (N := some 49) #[true, true, true, true, true, true, false, false, false, false, false, false, true, true, true, false, false, false] rfl rfl (by kernel_rfl) (by decide) (fun K hK => ?_)
          refine step_quiet (wanted_of rfl) rfl rfl Try.func29 (by kernel_rfl) rfl (c_bit _ _) (by (try simp only [List.map_toArray, List.map_cons, List.map_nil]); first | done | rfl) ?_
          refine hK.out _ _ hHeld (fun hHeld => ?_)
          clear hK K
          refine PrintLast.norm_ (a' := ?_) ?_ ?_
          rotate_left
          · show Act.put _ (some 49) _ = _
            simp only [Act.put, List.setIfInBounds_toArray, List.set_cons_zero, List.set_cons_succ, Nat.zero_add, Nat.add_zero, E1, E2, E3, E4, flags2]
            rfl
          refine PrintLast.one_ (i := 6) (N := some 52) #[true, true, true, true, true, true, true, false, false, false, false, false, true, true, true, false, false, false] rfl rfl (by kernel_rfl) (by decide) (fun K hK => ?_)
          refine step_quiet (wanted_of rfl) rfl rfl Try.func29 (by kernel_rfl) rfl (c_bit _ _) (by (try simp only [List.map_toArray, List.map_cons, List.map_nil]); first | done | rfl) ?_
          refine hK.out _ _ hHeld (fun hHeld => ?_)
          clear hK K
          refine PrintLast.norm_ (a' := ?_) ?_ ?_
          rotate_left
          · show Act.put _ (some 52) _ = _
            simp only [Act.put, List.setIfInBounds_toArray, List.set_cons_zero, List.set_cons_succ, Nat.zero_add, Nat.add_zero, E1, E2, E3, E4, flags2]
            rfl
          refine PrintLast.pure_ (i := 7) (N := some 53) (v := ?_) (a' := ?_) #[true, true, true, true, true, true, true, true, false, false, false, false, true, true, true, false, false, false] rfl rfl (by kernel_rfl) (fun _ _ _ h => h) (Or.inl ⟨by rfl, ?_⟩) ?_ ?_
          rotate_left
          · intro w'
            go_simp
            with_reducible rfl
          rotate_left
          · simp only [Act.put, List.setIfInBounds_toArray, List.set_cons_zero, List.set_cons_succ, Nat.zero_add, Nat.add_zero, E1, E2, E3, E4, flags2]
            rfl
          refine PrintLast.pure_ (i := 8) (N := some 54) (v := ?_) (a' := ?_) #[true, true, true, true, true, true, true, true, true, false, false, false, true, true, true, false, false, false] rfl rfl (by kernel_rfl) (fun _ _ _ h => h) (Or.inl ⟨by rfl, ?_⟩) ?_ ?_
          rotate_left
          · intro w'
            go_simp
            with_reducible rfl
          rotate_left
          · simp only [Act.put, List.setIfInBounds_toArray, List.set_cons_zero, List.set_cons_succ, Nat.zero_add, Nat.add_zero, E1, E2, E3, E4, flags2]
            rfl
          refine PrintLast.pure_ (i := 9) (N := some 55) (v := ?_) (a' := ?_) #[true, true, true, true, true, true, true, true, true, true, false, false, true, true, true, false, false, false] rfl rfl (by kernel_rfl) (fun _ _ _ h => h) (Or.inl ⟨by rfl, ?_⟩) ?_ ?_
          rotate_left
          · intro w'
            go_simp
            with_reducible rfl
          rotate_left
          · simp only [Act.put, List.setIfInBounds_toArray, List.set_cons_zero, List.set_cons_succ, Nat.zero_add, Nat.add_zero, E1, E2, E3, E4, flags2]
            rfl
          refine PrintLast.one_ (i := 10) (N := some 56) #[true, true, true, true, true, true, true, true, true, true, true, false, true, true, true, false, false, false] rfl rfl (by kernel_rfl) (by decide) (fun K hK => ?_)
          refine step_lit (wanted_of rfl) HS.out HO.out rfl (by first | (go_simp; done) | (go_simp; rfl)) ?_
          intro v_ W_ HP HO_ HC_; clear hHeld; clear HS; have HS := Aside0.mk HP; clear HP; clear HO; have HO := Aside0.mk HO_; clear HO_; have HC := Aside0.mk HC_; clear HC_
          refine hK.out _ _ (HS.out.one at0) (fun hHeld => ?_)
          clear hK K
          refine PrintLast.norm_ (a' := ?_) ?_ ?_
          rotate_left
          · show Act.put _ (some 56) _ = _
            simp only [Act.put, List.setIfInBounds_toArray, List.set_cons_zero, List.set_cons_succ, Nat.zero_add, Nat.add_zero, E1, E2, E3, E4, flags2]
            rfl
          refine PrintLast.one_ (i := 11) (N := some 57) #[true, true, true, true, true, true, true, true, true, true, true, true, true, true, true, false, false, false] rfl rfl (by kernel_rfl) (by decide) (fun K hK => ?_)
          refine step_append (wanted_of rfl) HS.out HO.out HC.out rfl Try.underlying37 inf5 rfl rfl (by simp only [List.length_append, hB_length, tB_length, cB_length, dB_length, le_length, List.length_nil, List.length_cons]; omega) ?_
          intro v_ W_ HP HO_; clear HC; try clear hHeld
          clear HS; have HS := Aside0.mk HP; clear HP; clear HO; have HO := Aside0.mk HO_; clear HO_
          refine hK.out _ _ (HS.out.one at0) (fun hHeld => ?_)
          clear hK K
          refine PrintLast.norm_ (a' := ?_) ?_ ?_
          rotate_left
          · show Act.put _ (some 57) _ = _
            simp only [Act.put, List.setIfInBounds_toArray, List.set_cons_zero, List.set_cons_succ, Nat.zero_add, Nat.add_zero, E1, E2, E3, E4, flags2]
            rfl
          refine PrintLast.one_ (i := 15) (N := some 61) #[true, true, true, true, true, true, true, true, true, true, true, true, true, true, true, true, false, false] rfl rfl (by kernel_rfl) (by decide) (fun K hK => ?_)
          refine step_bytes (wanted_of rfl) HS.out HO.out rfl rfl Try.func28 (by kernel_rfl) rfl (by (try simp only [List.map_toArray, List.map_cons, List.map_nil]); first | done | rfl) (c_little _ _ 2 (by rfl) (by decide) t0 (by omega) _) ?_
          intro v_ W_ HP HO_ HC_; try clear hHeld
          clear HS; have HS := Aside0.mk HP; clear HP; clear HO; have HO := Aside0.mk HO_; clear HO_; have HC := Aside0.mk HC_; clear HC_
          refine hK.out _ _ (HS.out.one at0) (fun hHeld => ?_)
          clear hK K
          refine PrintLast.norm_ (a' := ?_) ?_ ?_
          rotate_left
          · show Act.put _ (some 61) _ = _
            simp only [Act.put, List.setIfInBounds_toArray, List.set_cons_zero, List.set_cons_succ, Nat.zero_add, Nat.add_zero, E1, E2, E3, E4, flags2]
            rfl
          refine PrintLast.one_ (i := 16) (N := some 62) #[true, true, true, true, true, true, true, true, true, true, true, true, true, true, true, true, true, false] rfl rfl (by kernel_rfl) (by decide) (fun K hK => ?_)
          refine step_append (wanted_of rfl) HS.out HO.out HC.out rfl Try.underlying37 inf5 rfl rfl (by simp only [List.length_append, hB_length, tB_length, cB_length, dB_length, le_length, List.length_nil, List.length_cons]; omega) ?_
          intro v_ W_ HP HO_; clear HC; try clear hHeld
          clear HS; have HS := Aside0.mk HP; clear HP; clear HO; have HO := Aside0.mk HO_; clear HO_
          refine hK.out _ _ (HS.out.one at0) (fun hHeld => ?_)
          clear hK K
          refine PrintLast.norm_ (a' := ?_) ?_ ?_
          rotate_left
          · show Act.put _ (some 62) _ = _
            simp only [Act.put, List.setIfInBounds_toArray, List.set_cons_zero, List.set_cons_succ, Nat.zero_add, Nat.add_zero, E1, E2, E3, E4, flags2]
            rfl
          refine PrintLast.pure_ (i := 17) (N := some 3) (v := ?_) (a' := ?_) #[true, true, true, true, true, true, true, true, true, true, true, true, true, true, true, true, true, true] rfl rfl (by kernel_rfl) (fun _ _ _ h => h) (Or.inl ⟨by rfl, ?_⟩) ?_ ?_
          rotate_left
          · intro w'
            go_simp
            with_reducible rfl
          rotate_left
          · simp only [Act.put, List.setIfInBounds_toArray, List.set_cons_zero, List.set_cons_succ, Nat.zero_add, Nat.add_zero, E1, E2, E3, E4, flags2]
            rfl
          refine PrintLast.done_ (by kernel_rfl) ?_
          clear hHeld
          go_wp2_with fail
          go_roundw
          case rel => exact ⟨k + 1, _, rfl, by go_num, by omega, ⟨by have h_ := Row_one HO.out at1; simpa [cB, List.append_assoc, le1f, flags_u8] using h_⟩, ⟨HS.out.one at1⟩⟩
          case measure => simp [intOf]; omega
        · have e_ : k = 16 := by omega
          have HO_ := HO.out
          rw [e_] at HO_
          clear HO e_
          have HO := Aside0.mk HO_
          clear HO_
          go_wp2_with (first
      | ((with_reducible refine gate_store (t := 39) (p := 5) rfl ?_); (with_reducible refine store_seg HS.out rfl rfl rfl ag39 rfl (by first | exact eval_tmp rfl | exact eval_const) (by first | exact at0 | exact at1 | exact at2 | exact at3 | exact at4 | exact at5 | exact at6) (by with_reducible first | exact tc_put _ _ (by omega) _ _ | exact cc_put _ _ (by omega) _ _ _ | exact dc_put _ _ (by omega) _ | exact rc_put _ _ (by omega) _ | exact lay_mc _ _ | exact lay_tc _ _ | exact lay_cc _ _ | exact lay_dc _ _ | exact lay_rc _ _ | exact lay2_0 | exact lay2_1 | exact lay3_0 | exact lay3_1 | exact lay3_2 | exact lay2_w | exact lay3_w) (by with_reducible first | exact mc_size _ | exact tc_size _ | exact cc_size _ | exact dc_size _ | exact rc_size _ | exact sz1 | exact sz2 | exact sz3 | exact sz4) (by simp only [mc_size, tc_size, cc_size, dc_size, rc_size, List.size_toArray, List.length_cons, List.length_nil]; omega) (by first | (with_reducible first | exact mc_one _ | exact tc_one _ | exact cc_one _ | exact dc_one _ | exact rc_one _ | exact t2_one _ _ | exact t3_one _ _ _) | (simp [Value.oneCell']; done)) ?_); intro W_ HP; clear HS; have HS := Aside0.mk HP; clear HP; (try simp only [List.set_cons_zero, List.set_cons_succ] at HS))
      | ((with_reducible refine gate_store (t := 41) (p := 7) rfl ?_); (with_reducible refine store_seg HS.out rfl rfl rfl ag41 rfl (by first | exact eval_tmp rfl | exact eval_const) (by first | exact at0 | exact at1 | exact at2 | exact at3 | exact at4 | exact at5 | exact at6) (by with_reducible first | exact tc_put _ _ (by omega) _ _ | exact cc_put _ _ (by omega) _ _ _ | exact dc_put _ _ (by omega) _ | exact rc_put _ _ (by omega) _ | exact lay_mc _ _ | exact lay_tc _ _ | exact lay_cc _ _ | exact lay_dc _ _ | exact lay_rc _ _ | exact lay2_0 | exact lay2_1 | exact lay3_0 | exact lay3_1 | exact lay3_2 | exact lay2_w | exact lay3_w) (by with_reducible first | exact mc_size _ | exact tc_size _ | exact cc_size _ | exact dc_size _ | exact rc_size _ | exact sz1 | exact sz2 | exact sz3 | exact sz4) (by simp only [mc_size, tc_size, cc_size, dc_size, rc_size, List.size_toArray, List.length_cons, List.length_nil]; omega) (by first | (with_reducible first | exact mc_one _ | exact tc_one _ | exact cc_one _ | exact dc_one _ | exact rc_one _ | exact t2_one _ _ | exact t3_one _ _ _) | (simp [Value.oneCell']; done)) ?_); intro W_ HP; clear HS; have HS := Aside0.mk HP; clear HP; (try simp only [List.set_cons_zero, List.set_cons_succ] at HS))
      | ((with_reducible refine gate_dst (N := 64) rfl ?_); (with_reducible refine field_at rfl rfl rfl fo44_7 ?_); (try simp only [toNat_16, toNat_12, Int.toNat_natCast, Nat.zero_add, Nat.add_zero, Nat.mul_one]); (try simp only [Act.put, List.setIfInBounds_toArray, List.set_cons_zero, List.set_cons_succ])))
          go_loopw [3, 67] (fun v3 v67 W => ∃ (k : Nat) (v : Value), v3 = v ∧ v67 = .int .i64 k ∧ k ≤ 16 ∧ Aside0 (Row w W [(g1, mc m)] v (hB m ++ tB m.T 16 ++ cB m.C 16 ++ dB m.D k)) ∧ Aside0 (Priv w W [(g1, mc m)])) (fun _ v67 _ => 16 - (intOf v67).toNat)
          case atStart => exact ⟨0, _, rfl, rfl, by omega, ⟨by have h_ := HO.out; simpa [dB] using h_⟩, HS⟩
          case round =>
            clear HS HO
            obtain ⟨k, v, rfl, rfl, hk, HO, HS⟩ := hrel
            by_cases hlt : k < 16
            · obtain ⟨t0, t1⟩ := HD.out (16 + k) (by omega)
              go_wp2_with ((first
      | ((with_reducible refine gate_dst (N := 70) rfl ?_); (with_reducible refine load_one HS.out rfl rfl on31 rfl at0 (el_D16 _ _ hlt) ?_))
      | ((with_reducible refine gate_dst (N := 75) rfl ?_); refine ev_bytes HS.out HO.out rfl rfl Try.func28 (by kernel_rfl) rfl (by (try simp only [List.map_toArray, List.map_cons, List.map_nil]); first | done | rfl) (c_little _ _ 2 (by rfl) (by decide) (by rw [w64u16]; omega) (by rw [w64u16]; omega) _) ?_; intro v_ W_ HP HO_ HC_; clear HS; have HS := Aside0.mk HP; clear HP; clear HO; have HO := Aside0.mk HO_; clear HO_; have HC := Aside0.mk HC_; clear HC_)
      | ((with_reducible refine gate_dst (N := 76) rfl ?_); refine ev_append HS.out HO.out HC.out rfl rfl Try.underlying37 inf5 rfl rfl (by simp only [List.length_append, hB_length, tB_length, cB_length, dB_length, le_length, List.length_nil, List.length_cons]; omega) ?_; intro v_ W_ HP HO_; clear HC; clear HS; have HS := Aside0.mk HP; clear HP; clear HO; have HO := Aside0.mk HO_; clear HO_)
      | ((with_reducible refine gate_store (t := 39) (p := 5) rfl ?_); (with_reducible refine store_seg HS.out rfl rfl rfl ag39 rfl (by first | exact eval_tmp rfl | exact eval_const) (by first | exact at0 | exact at1 | exact at2 | exact at3 | exact at4 | exact at5 | exact at6) (by with_reducible first | exact tc_put _ _ (by omega) _ _ | exact cc_put _ _ (by omega) _ _ _ | exact dc_put _ _ (by omega) _ | exact rc_put _ _ (by omega) _ | exact lay_mc _ _ | exact lay_tc _ _ | exact lay_cc _ _ | exact lay_dc _ _ | exact lay_rc _ _ | exact lay2_0 | exact lay2_1 | exact lay3_0 | exact lay3_1 | exact lay3_2 | exact lay2_w | exact lay3_w) (by with_reducible first | exact mc_size _ | exact tc_size _ | exact cc_size _ | exact dc_size _ | exact rc_size _ | exact sz1 | exact sz2 | exact sz3 | exact sz4) (by simp only [mc_size, tc_size, cc_size, dc_size, rc_size, List.size_toArray, List.length_cons, List.length_nil]; omega) (by first | (with_reducible first | exact mc_one _ | exact tc_one _ | exact cc_one _ | exact dc_one _ | exact rc_one _ | exact t2_one _ _ | exact t3_one _ _ _) | (simp [Value.oneCell']; done)) ?_); intro W_ HP; clear HS; have HS := Aside0.mk HP; clear HP; (try simp only [List.set_cons_zero, List.set_cons_succ] at HS))
      | ((with_reducible refine gate_store (t := 41) (p := 7) rfl ?_); (with_reducible refine store_seg HS.out rfl rfl rfl ag41 rfl (by first | exact eval_tmp rfl | exact eval_const) (by first | exact at0 | exact at1 | exact at2 | exact at3 | exact at4 | exact at5 | exact at6) (by with_reducible first | exact tc_put _ _ (by omega) _ _ | exact cc_put _ _ (by omega) _ _ _ | exact dc_put _ _ (by omega) _ | exact rc_put _ _ (by omega) _ | exact lay_mc _ _ | exact lay_tc _ _ | exact lay_cc _ _ | exact lay_dc _ _ | exact lay_rc _ _ | exact lay2_0 | exact lay2_1 | exact lay3_0 | exact lay3_1 | exact lay3_2 | exact lay2_w | exact lay3_w) (by with_reducible first | exact mc_size _ | exact tc_size _ | exact cc_size _ | exact dc_size _ | exact rc_size _ | exact sz1 | exact sz2 | exact sz3 | exact sz4) (by simp only [mc_size, tc_size, cc_size, dc_size, rc_size, List.size_toArray, List.length_cons, List.length_nil]; omega) (by first | (with_reducible first | exact mc_one _ | exact tc_one _ | exact cc_one _ | exact dc_one _ | exact rc_one _ | exact t2_one _ _ | exact t3_one _ _ _) | (simp [Value.oneCell']; done)) ?_); intro W_ HP; clear HS; have HS := Aside0.mk HP; clear HP; (try simp only [List.set_cons_zero, List.set_cons_succ] at HS))); (try simp only [Act.put, List.setIfInBounds_toArray, List.set_cons_zero, List.set_cons_succ]))
              go_roundw
              case rel => exact ⟨k + 1, _, rfl, by go_num, by omega, ⟨by have h_ := HO.out; simpa [dB, List.append_assoc, u16_mod _ t0 t1, w64u16] using h_⟩, HS⟩
              case measure => simp [intOf]; omega
            · have e_ : k = 16 := by omega
              have HO_ := HO.out
              rw [e_] at HO_
              clear HO e_
              have HO := Aside0.mk HO_
              clear HO_
              go_wp2_with fail
              go_ret
              exact ⟨_, rfl, Kd.R_mono HO.out (fun _ _ => trivial), HS.out.below⟩



open QKept QBack
def pm (l : List Int) : Mm := { zm with M := gt l 0 4 * 4294967296, S := gt l 4 2, T := fun k => (decide (l.getD (6 + 3 * k) 0 % 2 = 1), gt l (7 + 3 * k) 2), C := fun k => (decide (l.getD (54 + 3 * k) 0 % 2 = 1), decide (l.getD (54 + 3 * k) 0 / 2 % 2 = 1), gt l (55 + 3 * k) 2), D := fun i => if 16 ≤ i then w16 (gt l (102 + 2 * (i - 16)) 2) else 0 }
def okB (l : List Int) : Prop := ∀ k, k < 16 → l.getD (6 + 3 * k) 0 ≤ 1 ∧ l.getD (54 + 3 * k) 0 ≤ 3
section
variable {l : List Int} (hb : ∀ x ∈ l, 0 ≤ x ∧ x ≤ 255) (hl : l.length = 134)
include hb hl
omit hl in
theorem pm_wf : (pm l).wf := by
  have g2 := fun a => gt_small hb a 2 (by decide)
  have z : 0 ≤ (0 : Int) ∧ (0 : Int) < 4294967296 := by decide
  refine ⟨z, z, ?_, ?_, z, fun k _ => ?_, fun k _ => ?_, fun k _ => ?_, fun k _ => by show (0 : Nat) < 2 ^ 64; decide, z⟩
  · have := gt_small hb 0 4 (by decide)
    show 0 ≤ gt l 0 4 * 4294967296 ∧ gt l 0 4 * 4294967296 < 18446744073709551616
    omega
  · have := g2 4
    show 0 ≤ gt l 4 2 ∧ gt l 4 2 < 65536
    omega
  · have := g2 (7 + 3 * k)
    show 0 ≤ gt l (7 + 3 * k) 2 ∧ gt l (7 + 3 * k) 2 < 65536
    omega
  · have := g2 (55 + 3 * k)
    show 0 ≤ gt l (55 + 3 * k) 2 ∧ gt l (55 + 3 * k) 2 < 65536
    omega
  · have := g2 (102 + 2 * (k - 16))
    show -32768 ≤ (if 16 ≤ k then w16 (gt l (102 + 2 * (k - 16)) 2) else 0) ∧ (if 16 ≤ k then w16 (gt l (102 + 2 * (k - 16)) 2) else 0) < 32768
    by_cases h : 16 ≤ k
    · rw [if_pos h]; unfold w16; split <;> omega
    · rw [if_neg h]; decide
theorem hB_pm : hB (pm l) = l.take 6 := by
  have g := gt_small hb 0 4 (by decide)
  show le 4 (gt l 0 4 * 4294967296 / 4294967296) ++ le 2 (gt l 4 2) = l.take 6
  rw [show gt l 0 4 * 4294967296 / 4294967296 = gt l 0 4 by omega, le_gt hb 4 0 (by omega), le_gt hb 2 4 (by omega), List.drop_zero]
  exact (List.take_add (l := l) (i := 4) (j := 2)).symm
theorem dB_pm : ∀ k, k ≤ 16 → dB (pm l).D k = (l.drop 102).take (2 * k)
  | 0, _ => rfl
  | k + 1, h => by
    have ih := dB_pm k (by omega)
    have g := gt_small hb (102 + 2 * k) 2 (by decide)
    show dB (pm l).D k ++ le 2 (((pm l).D (16 + k) + 65536) % 65536) = _
    have e : (pm l).D (16 + k) = w16 (gt l (102 + 2 * k) 2) := by
      show (if 16 ≤ 16 + k then w16 (gt l (102 + 2 * (16 + k - 16)) 2) else 0) = _
      rw [if_pos (by omega), show 16 + k - 16 = k by omega]
    rw [ih, e, show (w16 (gt l (102 + 2 * k) 2) + 65536) % 65536 = gt l (102 + 2 * k) 2 by unfold w16; split <;> omega, le_gt hb 2 _ (by omega), show 2 * (k + 1) = 2 * k + 2 by omega, List.take_add, List.drop_drop]
theorem tB_pm (ok : okB l) : ∀ k, k ≤ 16 → tB (pm l).T k = (l.drop 6).take (3 * k)
  | 0, _ => rfl
  | k + 1, h => by
    have ih := tB_pm ok k (by omega)
    have o := (ok k (by omega)).1
    have b := byte_in hb (6 + 3 * k)
    show tB (pm l).T k ++ le 1 (flags (decide (l.getD (6 + 3 * k) 0 % 2 = 1)) false) ++ le 2 (gt l (7 + 3 * k) 2) = _
    have e : flags (decide (l.getD (6 + 3 * k) 0 % 2 = 1)) false = gt l (6 + 3 * k) 1 := by
      show _ = l.getD (6 + 3 * k) 0 + 256 * 0
      generalize l.getD (6 + 3 * k) 0 = x at *
      have : x = 0 ∨ x = 1 := by omega
      rcases this with rfl | rfl <;> decide
    rw [ih, e, le_gt hb 1 _ (by omega), le_gt hb 2 _ (by omega), show 3 * (k + 1) = 3 * k + (1 + 2) by omega, List.take_add, List.take_add, List.drop_drop, List.drop_drop, List.append_assoc, show 6 + 3 * k + 1 = 7 + 3 * k by omega]
theorem cB_pm (ok : okB l) : ∀ k, k ≤ 16 → cB (pm l).C k = (l.drop 54).take (3 * k)
  | 0, _ => rfl
  | k + 1, h => by
    have ih := cB_pm ok k (by omega)
    have o := (ok k (by omega)).2
    have b := byte_in hb (54 + 3 * k)
    show cB (pm l).C k ++ le 1 (flags (decide (l.getD (54 + 3 * k) 0 % 2 = 1)) (decide (l.getD (54 + 3 * k) 0 / 2 % 2 = 1))) ++ le 2 (gt l (55 + 3 * k) 2) = _
    have e : flags (decide (l.getD (54 + 3 * k) 0 % 2 = 1)) (decide (l.getD (54 + 3 * k) 0 / 2 % 2 = 1)) = gt l (54 + 3 * k) 1 := by
      show _ = l.getD (54 + 3 * k) 0 + 256 * 0
      generalize l.getD (54 + 3 * k) 0 = x at *
      have : x = 0 ∨ x = 1 ∨ x = 2 ∨ x = 3 := by omega
      rcases this with rfl | rfl | rfl | rfl <;> decide
    rw [ih, e, le_gt hb 1 _ (by omega), le_gt hb 2 _ (by omega), show 3 * (k + 1) = 3 * k + (1 + 2) by omega, List.take_add, List.take_add, List.drop_drop, List.drop_drop, List.append_assoc, show 54 + 3 * k + 1 = 55 + 3 * k by omega]
theorem back_ok (ok : okB l) : keptBytes (pm l) = l := by
  unfold keptBytes
  rw [hB_pm hb hl, tB_pm hb hl ok 16 (by decide), cB_pm hb hl ok 16 (by decide), dB_pm hb hl 16 (by decide)]
  have e1 : l.take 6 ++ (l.drop 6).take (3 * 16) = l.take 54 := (List.take_add (l := l) (i := 6) (j := 48)).symm
  have e2 : l.take 54 ++ (l.drop 54).take (3 * 16) = l.take 102 := (List.take_add (l := l) (i := 54) (j := 48)).symm
  have e3 : l.take 102 ++ (l.drop 102).take (2 * 16) = l.take 134 := (List.take_add (l := l) (i := 102) (j := 32)).symm
  rw [e1, e2, e3, List.take_of_length_le (by omega)]
end
theorem gdl (a b : List Int) (i : Nat) (h : i < a.length) : (a ++ b).getD i 0 = a.getD i 0 := by simp [List.getD_eq_getElem?_getD, List.getElem?_append_left h]
theorem gdr (a b : List Int) (i : Nat) (h : a.length ≤ i) : (a ++ b).getD i 0 = b.getD (i - a.length) 0 := by simp [List.getD_eq_getElem?_getD, List.getElem?_append_right h]
theorem flags_le (a : Bool) : flags a false ≤ 1 := by cases a <;> decide
theorem tB_get (T : Nat → Bool × Int) (k j : Nat) (h : j < k) : (tB T k).getD (3 * j) 0 = flags (T j).1 false := by
  induction k with
  | zero => omega
  | succ k ih =>
    simp only [tB, le1f]
    by_cases hj : j < k
    · rw [List.append_assoc, gdl _ _ _ (by rw [tB_length]; omega), ih hj]
    · obtain rfl : j = k := by omega
      rw [List.append_assoc, gdr _ _ _ (by rw [tB_length]; omega), tB_length, Nat.sub_self]
      rfl
theorem cB_get (C : Nat → Bool × Bool × Int) (k j : Nat) (h : j < k) : (cB C k).getD (3 * j) 0 = flags (C j).1 (C j).2.1 := by
  induction k with
  | zero => omega
  | succ k ih =>
    simp only [cB, le1f]
    by_cases hj : j < k
    · rw [List.append_assoc, gdl _ _ _ (by rw [cB_length]; omega), ih hj]
    · obtain rfl : j = k := by omega
      rw [List.append_assoc, gdr _ _ _ (by rw [cB_length]; omega), cB_length, Nat.sub_self]
      rfl
theorem back_bad {l : List Int} (m : Mm) (h : keptBytes m = l) : okB l := by
  intro k hk
  subst h
  unfold keptBytes
  constructor
  · rw [List.append_assoc, List.append_assoc, gdr _ _ _ (by rw [hB_length]; omega), hB_length, gdl _ _ _ (by rw [tB_length]; omega), show 6 + 3 * k - 6 = 3 * k by omega, tB_get _ _ _ hk]
    exact flags_le _
  · rw [List.append_assoc, List.append_assoc, gdr _ _ _ (by rw [hB_length]; omega), hB_length, gdr _ _ _ (by rw [tB_length]; omega), tB_length, gdl _ _ _ (by rw [cB_length]; omega), show 54 + 3 * k - 6 - 3 * 16 = 3 * k by omega, cB_get _ _ _ hk]
    have := (flags_range (m.C k).1 (m.C k).2.1).2
    omega


end Go.Proofs.Ytdmjdcapkjnipaa.K
