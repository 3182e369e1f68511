/- Walks over the ladders' memory: what the functions of this seat answer. -/
import Derived.Test.YtdmjdcapkjnipaaProg
import Derived.Test.YtdmjdcapkjnipaaMW
import Derived.WalkKit
import Derived.Deep.LoopGhost
import Derived.Deep.DeepCutAuto
import Derived.BigFrame
import Derived.Deep.QuietTactic
import Derived.BigQuiet
import Derived.Test.YtdmjdcapkjnipaaKC
import Derived.Test.YtdmjdcapkjnipaaKI
import Derived.Test.YtdmjdcapkjnipaaKK
import Derived.Test.YtdmjdcapkjnipaaTell
import Derived.Test.YtdmjdcapkjnipaaFL
namespace Go.Proofs.Ytdmjdcapkjnipaa.K
open Go Go.RowKit Go.Proofs.YtdmjdcapkjnipaaW Go.Proofs.YtdmjdcapkjnipaaW.PrintWords Go.Proofs.Ytdmjdcapkjnipaa.MW
set_option linter.unusedVariables false
set_option linter.unusedSimpArgs false
set_option maxRecDepth 100000

open QKept QBack
theorem kb_ex (l : List Int) : ∃ (m : Mm) (ok : Bool), ∀ v, ((l.length = 134 ∧ okB l ∧ v = Value.tuple #[.agg (mc (pm l)), .bool true]) ∨ (¬(l.length = 134 ∧ okB l) ∧ v = .tuple #[.agg (mc zm), .bool false])) → v = .tuple #[.agg (mc m), .bool ok] := by
  by_cases h : l.length = 134 ∧ okB l
  · refine ⟨pm l, true, ?_⟩
    rintro v (h1 | h1)
    · exact h1.2.2
    · exact absurd h h1.1
  · refine ⟨zm, false, ?_⟩
    rintro v (h1 | h1)
    · exact absurd ⟨h1.1, h1.2.1⟩ h
    · exact h1.2
theorem c_toB {W : World} {A : Option Addr} {c : Nat} {l : List Int} (hC : (Kd.int .u8).C W A l.length l) (hc : l.length ≤ c) (hl : l.length ≤ 1048576) : Calls Try.prog 17 #[.slice A l.length c] W fun e w' => ∃ v0, e = .returned v0 ∧ (Kd.int .u8).R 5 w' W.heap.size (fun _ => True) v0 l ∧ Below W.heap.size W w' := by
  obtain ⟨k, hk⟩ := toByteS_ev l (by omega)
  exact F.laws_toByteS.calls k A c l l W hC hc (hk k (Nat.le_refl _))
theorem c_eqSelf {W : World} {u v : Value} {l : List Int} (h0 : Bytes W u l) (h1 : Bytes W v l) (hl : l.length ≤ 1048576) : Calls Try.prog 10 #[u, v] W (Ret W (· = .bool true)) := by
  obtain ⟨A0, c0, rfl, hC0, hc0⟩ := h0.more
  obtain ⟨A1, c1, rfl, hC1, hc1⟩ := h1.more
  obtain ⟨k, hk⟩ := eqByteS_self l (by omega)
  refine Ret.of_eq ((F.laws_eqByteS.calls k A0 c0 l A1 c1 l true W hC0 hc0 hC1 hc1 (hk k (Nat.le_refl _))).mono ?_)
  rintro e w' ⟨he, m, rfl⟩
  exact ⟨he, pw_below_drewN (Below.refl _ _) m⟩

set_option maxHeartbeats 4000000 in
set_option maxRecDepth 100000 in
theorem law_FnExactKeptBack {w : World} (a0 : Option Addr) (len0 cap0 : Nat) (z0 : List Int) (w0 : (a0 = none ∧ len0 = 0 ∧ cap0 = 0 ∧ z0 = []) ∨ ∃ x, a0 = some x ∧ len0 ≤ cap0 ∧ cap0 ≤ maxLen ∧ z0.length = cap0 ∧ (∀ i, i < z0.length → w.cell? (x.add i) = some (.int .u8 (z0.getD i 0))) ∧ ∀ n ∈ z0, (Lit.int .u8 n).wf = true) : Calls Try.prog 5 #[.slice a0 len0 cap0] w (Ret w (· = .bool true)) := by
  obtain ⟨l, rfl, hr0, hm0, hw0, hc⟩ := ReadsInt.ofRowC w0
  have HC := Aside0.mk (Kd.C_of_reads (d := (0 : Int)) (h1 := fun _ => rfl) hr0)
  have hb := Tell.bytes_of_wf hw0
  clear w0 hr0 hw0 hm0
  have HS := Aside0.mk (Priv.nil w)
  obtain ⟨m, ok, hkb⟩ := kb_ex l
  by_cases hbig : (1048576 : Int) < l.length
  · have hbb : decide ((1048576 : Int) < l.length) = true := decide_eq_true hbig
    clear hkb hb HC
    go_enter Try.func5, Try.ntmps5
    go_wp2_with fail
    go_ret
    exact ⟨_, rfl, rfl, HS.out.below⟩
  · have hbb : decide ((1048576 : Int) < l.length) = false := decide_eq_false hbig
    have hl : l.length ≤ 1048576 := by omega
    go_enter Try.func5, Try.ntmps5
    go_wp2_with (first | ((with_reducible refine gate_dst (N := 13) rfl ?_); refine ev_madeB HS.out rfl rfl Try.func17 (by kernel_rfl) rfl (by (try simp only [List.map_toArray, List.map_cons, List.map_nil]); first | done | rfl) (c_toB (Kd.C_below HC.out HS.out.below) hc hl) ?_; intro v13_ W_ HP HR_ HX_; obtain ⟨A1_, c1_, rfl, hC1_, hc1_⟩ := (Bytes.of_R HR_).more; clear HR_ HX_; have H1 := Aside0.mk hC1_; clear hC1_; clear HS; have HS := Aside0.mk HP; clear HP; (try simp only [Act.put, List.setIfInBounds_toArray, List.set_cons_zero, List.set_cons_succ])) | ((with_reducible refine gate_dst (N := 14) rfl ?_); refine call_ev2 HS.out rfl rfl Try.func16 (by kernel_rfl) rfl (by (try simp only [List.map_toArray, List.map_cons, List.map_nil]); first | done | rfl) (Ret.weaken (c_specKeptBack l hb _ _ _ H1.out hc1_) hkb) ?_; rintro v_ W_ rfl HP HB_; clear H1; clear HS; have HS := Aside0.mk HP; clear HP; clear HB_; (try simp only [Act.put, List.setIfInBounds_toArray, List.set_cons_zero, List.set_cons_succ])) | ((with_reducible refine gate_dst (N := 18) rfl ?_); refine ev_madeB HS.out rfl rfl Try.func17 (by kernel_rfl) rfl (by (try simp only [List.map_toArray, List.map_cons, List.map_nil]); first | done | rfl) (c_toB (Kd.C_below HC.out HS.out.below) hc hl) ?_; intro v18_ W18_ HP HR_ HX_; obtain ⟨A2_, c2_, rfl, hC2_, hc2_⟩ := (Bytes.of_R HR_).more; clear HR_ HX_; have H2 := Aside0.mk hC2_; clear hC2_; clear HS; have H3 := Aside0.mk HP; clear HP; have HS := Aside0.mk (Priv.nil W18_); (try simp only [Act.put, List.setIfInBounds_toArray, List.set_cons_zero, List.set_cons_succ])) | ((with_reducible refine gate_dst (N := 21) rfl ?_); refine call_ev2 HS.out rfl rfl Try.func18 (by kernel_rfl) rfl (by (try simp only [List.map_toArray, List.map_cons, List.map_nil]); first | done | rfl) (Ret.weaken (c_implKeptBack l hb _ _ _ H2.out hc2_) hkb) ?_; rintro v_ W_ rfl HP HB_; clear HS; have HS := Aside0.mk HP; clear HP; clear HB_; (try simp only [Act.put, List.setIfInBounds_toArray, List.set_cons_zero, List.set_cons_succ])) | ((with_reducible refine gate_dst (N := 25) rfl ?_); (with_reducible refine load_seg (H3.out.call HS.out.below) rfl rfl ag44 rfl at0 (whole _) (mc_size _) ?_); (try simp only [Act.put, List.setIfInBounds_toArray, List.set_cons_zero, List.set_cons_succ])) | ((with_reducible refine gate_dst (N := 24) rfl ?_); (with_reducible refine load_seg HS.out rfl rfl ag44 rfl at0 (whole _) (mc_size _) ?_); (try simp only [Act.put, List.setIfInBounds_toArray, List.set_cons_zero, List.set_cons_succ])) | ((with_reducible refine gate_dst (N := 26) rfl ?_); refine call_ev2 HS.out rfl rfl Try.func15 (by kernel_rfl) rfl (by (try simp only [List.map_toArray, List.map_cons, List.map_nil]); first | done | rfl) (c_eqMem m m.R (fun _ _ => fsame.refl _) _) ?_; rintro v_ W_ rfl HP HB_; clear HS; have HS := Aside0.mk HP; clear HP; clear HB_; (try simp only [Act.put, List.setIfInBounds_toArray, List.set_cons_zero, List.set_cons_succ])) | ((with_reducible refine gate_dst (N := 35) rfl ?_); refine ev_madeB HS.out rfl rfl Try.func17 (by kernel_rfl) rfl (by (try simp only [List.map_toArray, List.map_cons, List.map_nil]); first | done | rfl) (c_toB (Kd.C_below HC.out (H3.out.call HS.out.below).below) hc hl) ?_; intro v35_ W_ HP HR_ HX_; have H4 := Aside0.mk (Bytes.of_R HR_); clear HR_ HX_; clear HS; have HS := Aside0.mk HP; clear HP; (try simp only [Act.put, List.setIfInBounds_toArray, List.set_cons_zero, List.set_cons_succ])) | ((with_reducible refine gate_dst (N := 36) rfl ?_); refine call_ev2 HS.out rfl rfl Try.func10 (by kernel_rfl) rfl (by (try simp only [List.map_toArray, List.map_cons, List.map_nil]); first | done | rfl) (c_eqSelf ⟨_, _, rfl, Kd.C_below H2.out HS.out.below, hc2_⟩ H4.out hl) ?_; rintro v_ W_ rfl HP HB_; clear H4; clear HS; have HS := Aside0.mk HP; clear HP; clear HB_; (try simp only [Act.put, List.setIfInBounds_toArray, List.set_cons_zero, List.set_cons_succ])) | (first
      | ((with_reducible refine gate_dst (N := 3) rfl ?_); (with_reducible refine alloc_new HS.out rfl rfl ze44 ?_); intro g3 W3_ HP; clear HS; have HS := Aside0.mk HP; clear HP; (try simp only [Act.put, List.setIfInBounds_toArray, List.set_cons_zero, List.set_cons_succ]))
      | ((with_reducible refine gate_store (t := 44) (p := 3) rfl ?_); (with_reducible refine store_seg HS.out rfl rfl rfl ag44 rfl (by first | exact eval_tmp rfl | exact eval_const) (by first | exact at0 | exact at1 | exact at2 | exact at3 | exact at4 | exact at5 | exact at6) (by with_reducible first | exact set_X _ _ | exact set_Y _ _ | exact set_M _ _ | exact set_S _ _ | exact set_E _ _ | exact set_Time _ _ | exact set_Ran _ _ | exact set_Fault _ _ | exact set_T _ _ | exact set_C _ _ | exact set_D _ _ | exact set_R _ _ | exact put_T _ _ (by omega) _ _ | exact put_C _ _ (by omega) _ _ _ | exact put_D _ _ (by omega) _ | exact put_R _ _ (by omega) _ | exact tc_put _ _ (by omega) _ _ | exact cc_put _ _ (by omega) _ _ _ | exact dc_put _ _ (by omega) _ | exact rc_put _ _ (by omega) _ | exact lay_mc _ _ | exact lay_tc _ _ | exact lay_cc _ _ | exact lay_dc _ _ | exact lay_rc _ _ | exact lay2_0 | exact lay2_1 | exact lay3_0 | exact lay3_1 | exact lay3_2 | exact lay2_w | exact lay3_w) (by with_reducible first | exact mc_size _ | exact tc_size _ | exact cc_size _ | exact dc_size _ | exact rc_size _ | exact sz1 | exact sz2 | exact sz3 | exact sz4) (by simp only [mc_size, tc_size, cc_size, dc_size, rc_size, List.size_toArray, List.length_cons, List.length_nil]; omega) (by first | (with_reducible first | exact mc_one _ | exact tc_one _ | exact cc_one _ | exact dc_one _ | exact rc_one _ | exact t2_one _ _ | exact t3_one _ _ _) | (simp [Value.oneCell']; done)) ?_); intro W_ HP; clear HS; have HS := Aside0.mk HP; clear HP; (try simp only [List.set_cons_zero, List.set_cons_succ] at HS))
      | ((with_reducible refine gate_dst (N := 6) rfl ?_); (with_reducible refine alloc_new HS.out rfl rfl ze44 ?_); intro g6 W6_ HP; clear HS; have HS := Aside0.mk HP; clear HP; (try simp only [Act.put, List.setIfInBounds_toArray, List.set_cons_zero, List.set_cons_succ]))
      | ((with_reducible refine gate_store (t := 44) (p := 6) rfl ?_); (with_reducible refine store_seg HS.out rfl rfl rfl ag44 rfl (by first | exact eval_tmp rfl | exact eval_const) (by first | exact at0 | exact at1 | exact at2 | exact at3 | exact at4 | exact at5 | exact at6) (by with_reducible first | exact set_X _ _ | exact set_Y _ _ | exact set_M _ _ | exact set_S _ _ | exact set_E _ _ | exact set_Time _ _ | exact set_Ran _ _ | exact set_Fault _ _ | exact set_T _ _ | exact set_C _ _ | exact set_D _ _ | exact set_R _ _ | exact put_T _ _ (by omega) _ _ | exact put_C _ _ (by omega) _ _ _ | exact put_D _ _ (by omega) _ | exact put_R _ _ (by omega) _ | exact tc_put _ _ (by omega) _ _ | exact cc_put _ _ (by omega) _ _ _ | exact dc_put _ _ (by omega) _ | exact rc_put _ _ (by omega) _ | exact lay_mc _ _ | exact lay_tc _ _ | exact lay_cc _ _ | exact lay_dc _ _ | exact lay_rc _ _ | exact lay2_0 | exact lay2_1 | exact lay3_0 | exact lay3_1 | exact lay3_2 | exact lay2_w | exact lay3_w) (by with_reducible first | exact mc_size _ | exact tc_size _ | exact cc_size _ | exact dc_size _ | exact rc_size _ | exact sz1 | exact sz2 | exact sz3 | exact sz4) (by simp only [mc_size, tc_size, cc_size, dc_size, rc_size, List.size_toArray, List.length_cons, List.length_nil]; omega) (by first | (with_reducible first | exact mc_one _ | exact tc_one _ | exact cc_one _ | exact dc_one _ | exact rc_one _ | exact t2_one _ _ | exact t3_one _ _ _) | (simp [Value.oneCell']; done)) ?_); intro W_ HP; clear HS; have HS := Aside0.mk HP; clear HP; (try simp only [List.set_cons_zero, List.set_cons_succ] at HS))))
    go_ret
    exact ⟨_, rfl, rfl, (H3.out.call HS.out.below).below⟩

end Go.Proofs.Ytdmjdcapkjnipaa.K
