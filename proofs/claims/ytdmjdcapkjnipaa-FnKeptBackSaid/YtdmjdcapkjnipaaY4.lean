/- Walks over the ladders' memory: what the functions of this seat answer. -/
import Derived.Test.YtdmjdcapkjnipaaProg
import Derived.Test.YtdmjdcapkjnipaaMW
import Derived.WalkKit
import Derived.Deep.LoopGhost
import Derived.Deep.DeepCutAuto
import Derived.BigFrame
import Derived.Deep.QuietTactic
import Derived.BigQuiet
import Derived.Test.YtdmjdcapkjnipaaQBack
import Derived.Test.YtdmjdcapkjnipaaRC
import Derived.Test.YtdmjdcapkjnipaaY3
namespace Go.Proofs.Ytdmjdcapkjnipaa.K
open Go Go.RowKit Go.Proofs.YtdmjdcapkjnipaaW Go.Proofs.YtdmjdcapkjnipaaW.PrintWords Go.Proofs.Ytdmjdcapkjnipaa.MW
set_option linter.unusedVariables false
set_option linter.unusedSimpArgs false
set_option maxRecDepth 100000
theorem s37 : sl8 Try.prog 37 = true := by kernel_rfl
theorem on5 : oneT Try.prog 5 = true := by kernel_rfl
theorem pl39 : ∃ fs, Try.prog.underlying 39 = some (.struct fs) ∧ ∀ W : World, (fs.mapM fun f => do pure (f.offset, ← sizeOf f.type) : Sem (Array (Nat × Nat))).run Try.prog W = .ok #[(0, 1), (1, 1)] W := ⟨_, Try.underlying39, fun W => by kernel_rfl⟩
theorem pl41 : ∃ fs, Try.prog.underlying 41 = some (.struct fs) ∧ ∀ W : World, (fs.mapM fun f => do pure (f.offset, ← sizeOf f.type) : Sem (Array (Nat × Nat))).run Try.prog W = .ok #[(0, 1), (1, 1), (2, 1)] W := ⟨_, Try.underlying41, fun W => by kernel_rfl⟩
open QKept QBack
section
variable {P : Program} {ops : Array Oper} {rest : List Oper} {o : Oper} {a : Act} {Q : Exit → Act → World → Prop} {w W : World} {L : List (Nat × Array Value)}
theorem call_ev2 {f : FuncId} {ars : Array Operand} {ts : Array TypeId} {fn : Func} {args : Array Value} {R : Value → Prop} (HS : Priv w W L) (hgd : o.guard = none) (ho : o.op = .call { callee := .value (.func f), args := ars, argTypes := ts })
    (hf : P.funcs[f]? = some fn) (hname : (fn.name == "runtime.NumGoroutine") = false) (hb : fn.body.isSome = true) (hargs : ars.map a.eval = args) (hc : Calls P f args W (Ret W R))
    (h : ∀ v W', R v → Priv w W' L → Below W.heap.size W W' → wpList P ops Q rest (a.put o.dst v) W') : wpList P ops Q (o :: rest) a W := call_ev HS hgd ho hf hname hb hc hargs h
end
section
variable {l : List Int} {w W : World} {A : Option Addr} {c : Nat} {L : List (Nat × Array Value)}
theorem c_get (HS : Priv w W L) (hC : (Kd.int .u8).C w A l.length l) (hc : l.length ≤ c) (hb : ∀ x ∈ l, 0 ≤ x ∧ x ≤ 255) (hl : l.length = 134) (a n : Nat) (ai ni : Int) (ha : ai = a) (hn : ni = n) (hn4 : n ≤ 4) (han : a + n ≤ 134) : Calls Try.prog 34 #[.slice A l.length c, .int .i64 ai, .int .i64 ni] W (Ret W (· = .int .u64 (gt l a n))) := by
  subst ha hn
  obtain ⟨k, hk⟩ := get_ev hb a n hn4 (by omega) (by omega)
  refine Ret.of_eq ((F.spec_l19Get.calls k A c l a n _ W (Kd.C_below hC HS.below) hc hk).mono ?_)
  rintro e w' ⟨he, m, rfl⟩
  exact ⟨he, pw_below_drewN (Below.refl _ _) m⟩
theorem c_wr (x : Int) (h0 : 0 ≤ x) (h1 : x < 65536) : Calls Try.prog 35 #[.int .i64 x] W (Ret W (· = .int .i16 (w16 x))) := by
  refine Ret.of_eq ((F.spec_l3Wrap.calls x _ W (wrap_f x h0 h1)).mono ?_)
  rintro e w' ⟨he, m, rfl⟩
  exact ⟨he, pw_below_drewN (Below.refl _ _) m⟩
end

set_option maxHeartbeats 4000000 in
set_option maxRecDepth 100000 in
theorem c_specKeptBack (l : List Int) (hb : ∀ x ∈ l, 0 ≤ x ∧ x ≤ 255) (A : Option Addr) (c : Nat) (w : World) (hC : (Kd.int .u8).C w A l.length l) (hc : l.length ≤ c) :
    Calls Try.prog 16 #[.slice A l.length c] w (Ret w (fun v => (l.length = 134 ∧ okB l ∧ v = .tuple #[.agg (mc (pm l)), .bool true]) ∨ (¬(l.length = 134 ∧ okB l) ∧ v = .tuple #[.agg (mc zm), .bool false]))) := by
  have HS := Aside0.mk (Priv.nil w)
  have HC := Aside0.mk hC
  have HB0 := Aside0.mk hb
  clear hC
  by_cases hl : l.length = 134
  · have hl1 : ((l.length : Int) != 134) = false := by rw [hl]; rfl
    have g0 := gt_small hb 0 4 (by decide)
    have g4 := gt_small hb 4 2 (by decide)
    obtain ⟨g01, g02, _, _, _⟩ := g0
    obtain ⟨g41, _, _, g42, _⟩ := g4
    have g42 := g42 (by decide)
    have HL := Aside0.mk hl
    obtain ⟨ad, e_, _⟩ := Kd.at_int HC.out 0 (by decide) (by omega)
    subst e_
    clear hl hb
    go_enter Try.func16, Try.ntmps16
    go_wp2_with ((first
      | ((with_reducible refine gate_dst (N := 13) rfl ?_); refine call_ev2 HS.out rfl rfl Try.func34 (by kernel_rfl) rfl (by (try simp only [List.map_toArray, List.map_cons, List.map_nil]); first | done | rfl) (c_get HS.out HC.out hc HB0.out HL.out 0 4 _ _ (by omega) (by rfl) (by decide) (by omega)) ?_; rintro v_ W_ rfl HP HB_; clear HS; have HS := Aside0.mk HP; clear HP; clear HB_)
      | ((with_reducible refine gate_dst (N := 16) rfl ?_); refine call_ev2 HS.out rfl rfl Try.func34 (by kernel_rfl) rfl (by (try simp only [List.map_toArray, List.map_cons, List.map_nil]); first | done | rfl) (c_get HS.out HC.out hc HB0.out HL.out 4 2 _ _ (by omega) (by rfl) (by decide) (by omega)) ?_; rintro v_ W_ rfl HP HB_; clear HS; have HS := Aside0.mk HP; clear HP; clear HB_)
      | ((with_reducible refine gate_region (id := 11) ?_); refine region_tail HS.out 9 (by kernel_rfl) (by kernel_rfl) ?_; intro W_ HP HB_; clear HS; have HS := Aside0.mk HP; clear HP; have HO_ := Row.below HO.out HB_; clear HO HB_; have HO := Aside0.mk HO_; clear HO_; simp only [List.take_succ_cons, List.take_zero, List.drop_succ_cons, List.drop_zero]; (repeat (first
          | ((with_reducible refine st_gate (N := 46) rfl ?_); (with_reducible refine st_load_one HS.out rfl rfl on5 rfl (by first | exact at0 | exact at1 | exact at2) (by with_reducible first | exact get_X _ | exact get_Y _ | exact get_M _ | exact get_S _ | exact get_E _ | exact get_Time _ | exact get_Ran _ | exact get_Fault _ | exact el_T0 _ _ (by omega) | exact el_T1 _ _ (by omega) | exact el_C0 _ _ (by omega) | exact el_C1 _ _ (by omega) | exact el_C2 _ _ (by omega) | exact el_D _ _ (by omega) | exact el_R _ _ (by omega) | exact dc_get _ _ (by omega) | exact rc_get _ _ (by omega) | exact at0a | exact at1a | exact at2a | exact at3a) ?_))
          | still_step)); refine wpStill_nil ?_)
      | ((with_reducible refine gate_region (id := 12) ?_); refine region_tail HS.out 16 (by kernel_rfl) (by kernel_rfl) ?_; intro W_ HP HB_; clear HS; have HS := Aside0.mk HP; clear HP; have HO_ := Row.below HO.out HB_; clear HO HB_; have HO := Aside0.mk HO_; clear HO_; simp only [List.take_succ_cons, List.take_zero, List.drop_succ_cons, List.drop_zero]; (repeat (first
          | ((with_reducible refine st_gate (N := 60) rfl ?_); (with_reducible refine st_load_one HS.out rfl rfl on5 rfl (by first | exact at0 | exact at1 | exact at2) (by with_reducible first | exact get_X _ | exact get_Y _ | exact get_M _ | exact get_S _ | exact get_E _ | exact get_Time _ | exact get_Ran _ | exact get_Fault _ | exact el_T0 _ _ (by omega) | exact el_T1 _ _ (by omega) | exact el_C0 _ _ (by omega) | exact el_C1 _ _ (by omega) | exact el_C2 _ _ (by omega) | exact el_D _ _ (by omega) | exact el_R _ _ (by omega) | exact dc_get _ _ (by omega) | exact rc_get _ _ (by omega) | exact at0a | exact at1a | exact at2a | exact at3a) ?_))
          | ((with_reducible refine st_gate (N := 66) rfl ?_); (with_reducible refine st_load_one HS.out rfl rfl on5 rfl (by first | exact at0 | exact at1 | exact at2) (by with_reducible first | exact get_X _ | exact get_Y _ | exact get_M _ | exact get_S _ | exact get_E _ | exact get_Time _ | exact get_Ran _ | exact get_Fault _ | exact el_T0 _ _ (by omega) | exact el_T1 _ _ (by omega) | exact el_C0 _ _ (by omega) | exact el_C1 _ _ (by omega) | exact el_C2 _ _ (by omega) | exact el_D _ _ (by omega) | exact el_R _ _ (by omega) | exact dc_get _ _ (by omega) | exact rc_get _ _ (by omega) | exact at0a | exact at1a | exact at2a | exact at3a) ?_))
          | still_step)); refine wpStill_nil ?_)
      | ((with_reducible refine gate_dst (N := 2) rfl ?_); (with_reducible refine alloc_new HS.out rfl rfl ze44 ?_); intro g2 W2_ HP; clear HS; have HS := Aside0.mk HP; clear HP)
      | ((with_reducible refine gate_dst (N := 18) rfl ?_); (refine build_new rfl rfl pl44 ze44 (by simp only [List.map_toArray, List.map_cons, List.map_nil]; exact fill_cons (by first | exact eval_tmp rfl | exact eval_const) (by with_reducible first | exact cells_agg | exact cells_int | exact cells_bool | exact cells_float | exact cells_string | exact cells_slice) rfl (by with_reducible first | exact mc_size _ | exact sz1 | exact sz2 | exact sz3) (by simp only [mc_size, List.size_toArray, List.length_cons, List.length_nil]; omega) (by with_reducible first | exact set_M _ _ | exact set_S _ _ | exact put_T _ _ (by omega) _ _ | exact put_C _ _ (by omega) _ _ _ | exact put_D _ _ (by omega) _ | exact lay_mc _ _ | exact lay2_0 | exact lay2_1 | exact lay3_0 | exact lay3_1 | exact lay3_2) (fill_cons (by first | exact eval_tmp rfl | exact eval_const) (by with_reducible first | exact cells_agg | exact cells_int | exact cells_bool | exact cells_float | exact cells_string | exact cells_slice) rfl (by with_reducible first | exact mc_size _ | exact sz1 | exact sz2 | exact sz3) (by simp only [mc_size, List.size_toArray, List.length_cons, List.length_nil]; omega) (by with_reducible first | exact set_M _ _ | exact set_S _ _ | exact put_T _ _ (by omega) _ _ | exact put_C _ _ (by omega) _ _ _ | exact put_D _ _ (by omega) _ | exact lay_mc _ _ | exact lay2_0 | exact lay2_1 | exact lay3_0 | exact lay3_1 | exact lay3_2) (fill_nil))) ?_))
      | ((with_reducible refine gate_dst (N := 4) rfl ?_); (with_reducible refine alloc_new HS.out rfl rfl ze44 ?_); intro g4 W4_ HP; clear HS; have HS := Aside0.mk HP; clear HP)
      | ((with_reducible refine gate_store (t := 44) (p := 4) rfl ?_); (with_reducible refine store_seg HS.out rfl rfl rfl ag44 rfl (by first | exact eval_tmp rfl | exact eval_const) (by first | exact at0 | exact at1 | exact at2) (by with_reducible first | exact tc_put _ _ (by omega) _ _ | exact cc_put _ _ (by omega) _ _ _ | exact dc_put _ _ (by omega) _ | exact rc_put _ _ (by omega) _ | exact lay_mc _ _ | exact lay_tc _ _ | exact lay_cc _ _ | exact lay_dc _ _ | exact lay_rc _ _ | exact lay2_0 | exact lay2_1 | exact lay3_0 | exact lay3_1 | exact lay3_2 | exact lay2_w | exact lay3_w) (by with_reducible first | exact mc_size _ | exact sz1 | exact sz2 | exact sz3) (by simp only [mc_size, List.size_toArray, List.length_cons, List.length_nil]; omega) (by first | (with_reducible first | exact mc_one _ | exact tc_one _ | exact cc_one _ | exact dc_one _ | exact rc_one _ | exact t2_one _ _ | exact t3_one _ _ _) | (simp [Value.oneCell']; done)) ?_); intro W_ HP; clear HS; have HS := Aside0.mk HP; clear HP; (try simp only [List.set_cons_zero, List.set_cons_succ] at HS))); (try simp only [Act.put, List.setIfInBounds_toArray, List.set_cons_zero, List.set_cons_succ]))
    go_loopw [5] (fun v5 W => ∃ (k : Nat) (T' : Nat → Bool × Int) (C' : Nat → Bool × Bool × Int) (D' : Nat → Int), v5 = .int .i64 k ∧ k ≤ 16 ∧ Aside0 (∀ i, i < k → T' i = (pm l).T i ∧ C' i = (pm l).C i ∧ D' (16 + i) = (pm l).D (16 + i) ∧ l.getD (6 + 3 * i) 0 ≤ 1 ∧ l.getD (54 + 3 * i) 0 ≤ 3) ∧ Aside0 (∀ i, i < 16 → D' i = 0) ∧ Aside0 (Priv w W [(g4, mc { zm with M := gt l 0 4 * 4294967296, S := gt l 4 2, T := T', C := C', D := D' }), (g2, mc zm)])) (fun v5 _ => 16 - (intOf v5).toNat)
    case atStart => exact ⟨0, zm.T, zm.C, zm.D, rfl, by omega, ⟨by intro i hi; omega⟩, ⟨fun _ _ => rfl⟩, HS⟩
    case round =>
      clear HS
      obtain ⟨k, T', C', D', rfl, hk, HR, HZ, HS⟩ := hrel
      by_cases hlt : k < 16
      · have e6 : rd l (6 + 3 * (k : Int)) = l.getD (6 + 3 * k) 0 := by unfold rd; congr 1
        have e54 : rd l (54 + 3 * (k : Int)) = l.getD (54 + 3 * k) 0 := by unfold rd; congr 1
        have E6 := Aside0.mk e6
        have E54 := Aside0.mk e54
        clear e6 e54
        have hq6 : wr.cell? (ad.add (6 + 3 * k)) = some (.int .u8 (rd l (6 + 3 * (k : Int)))) := by
          have h := cell_row (i := 6 + 3 * (k : Int)) HS.out HC.out (by omega) (by have := HL.out; omega)
          rwa [show (6 + 3 * (k : Int)).toNat = 6 + 3 * k by omega] at h
        have hq54 : wr.cell? (ad.add (54 + 3 * k)) = some (.int .u8 (rd l (54 + 3 * (k : Int)))) := by
          have h := cell_row (i := 54 + 3 * (k : Int)) HS.out HC.out (by omega) (by have := HL.out; omega)
          rwa [show (54 + 3 * (k : Int)).toNat = 54 + 3 * k by omega] at h
        have i54 : (54 + 3 * (k : Int)) < (l.length : Int) := by have := HL.out; omega
        by_cases q1 : 1 < rd l (6 + 3 * (k : Int))
        · have q1b : decide (1 < rd l (6 + 3 * (k : Int))) = true := decide_eq_true q1
          go_wp2_with ((first
      | ((with_reducible refine gate_dst (N := 31) rfl ?_); (refine index_row rfl rfl rfl rfl s37 (by omega) (by have := HL.out; omega) ?_))
      | ((with_reducible refine gate_dst (N := 32) rfl ?_); (refine load_row HS.out HC.out rfl rfl on5 rfl (by omega) (by have := HL.out; omega) ?_))
      | ((with_reducible refine gate_store (t := 44) (p := 2) rfl ?_); (with_reducible refine store_seg HS.out rfl rfl rfl ag44 rfl (by first | exact eval_tmp rfl | exact eval_const) (by first | exact at0 | exact at1 | exact at2) (by with_reducible first | exact tc_put _ _ (by omega) _ _ | exact cc_put _ _ (by omega) _ _ _ | exact dc_put _ _ (by omega) _ | exact rc_put _ _ (by omega) _ | exact lay_mc _ _ | exact lay_tc _ _ | exact lay_cc _ _ | exact lay_dc _ _ | exact lay_rc _ _ | exact lay2_0 | exact lay2_1 | exact lay3_0 | exact lay3_1 | exact lay3_2 | exact lay2_w | exact lay3_w) (by with_reducible first | exact mc_size _ | exact sz1 | exact sz2 | exact sz3) (by simp only [mc_size, List.size_toArray, List.length_cons, List.length_nil]; omega) (by first | (with_reducible first | exact mc_one _ | exact tc_one _ | exact cc_one _ | exact dc_one _ | exact rc_one _ | exact t2_one _ _ | exact t3_one _ _ _) | (simp [Value.oneCell']; done)) ?_); intro W_ HP; clear HS; have HS := Aside0.mk HP; clear HP; (try simp only [List.set_cons_zero, List.set_cons_succ] at HS))
      | ((with_reducible refine gate_dst (N := 41) rfl ?_); (refine build_new rfl rfl pl44 ze44 (by simp only [List.map_toArray, List.map_cons, List.map_nil]; exact fill_nil) ?_))
      | ((with_reducible refine gate_store (t := 44) (p := 2) rfl ?_); (with_reducible refine store_seg HS.out rfl rfl rfl ag44 rfl (by first | exact eval_tmp rfl | exact eval_const) (by first | exact at0 | exact at1 | exact at2) (by with_reducible first | exact tc_put _ _ (by omega) _ _ | exact cc_put _ _ (by omega) _ _ _ | exact dc_put _ _ (by omega) _ | exact rc_put _ _ (by omega) _ | exact lay_mc _ _ | exact lay_tc _ _ | exact lay_cc _ _ | exact lay_dc _ _ | exact lay_rc _ _ | exact lay2_0 | exact lay2_1 | exact lay3_0 | exact lay3_1 | exact lay3_2 | exact lay2_w | exact lay3_w) (by with_reducible first | exact mc_size _ | exact sz1 | exact sz2 | exact sz3) (by simp only [mc_size, List.size_toArray, List.length_cons, List.length_nil]; omega) (by first | (with_reducible first | exact mc_one _ | exact tc_one _ | exact cc_one _ | exact dc_one _ | exact rc_one _ | exact t2_one _ _ | exact t3_one _ _ _) | (simp [Value.oneCell']; done)) ?_); intro W_ HP; clear HS; have HS := Aside0.mk HP; clear HP; (try simp only [List.set_cons_zero, List.set_cons_succ] at HS))
      | ((with_reducible refine gate_store (t := 44) (p := 2) rfl ?_); (with_reducible refine store_seg HS.out rfl rfl rfl ag44 rfl (by first | exact eval_tmp rfl | exact eval_const) (by first | exact at0 | exact at1 | exact at2) (by with_reducible first | exact tc_put _ _ (by omega) _ _ | exact cc_put _ _ (by omega) _ _ _ | exact dc_put _ _ (by omega) _ | exact rc_put _ _ (by omega) _ | exact lay_mc _ _ | exact lay_tc _ _ | exact lay_cc _ _ | exact lay_dc _ _ | exact lay_rc _ _ | exact lay2_0 | exact lay2_1 | exact lay3_0 | exact lay3_1 | exact lay3_2 | exact lay2_w | exact lay3_w) (by with_reducible first | exact mc_size _ | exact sz1 | exact sz2 | exact sz3) (by simp only [mc_size, List.size_toArray, List.length_cons, List.length_nil]; omega) (by first | (with_reducible first | exact mc_one _ | exact tc_one _ | exact cc_one _ | exact dc_one _ | exact rc_one _ | exact t2_one _ _ | exact t3_one _ _ _) | (simp [Value.oneCell']; done)) ?_); intro W_ HP; clear HS; have HS := Aside0.mk HP; clear HP; (try simp only [List.set_cons_zero, List.set_cons_succ] at HS))); (try simp only [Act.put, List.setIfInBounds_toArray, List.set_cons_zero, List.set_cons_succ]))
          refine ret_agg_tmp HS.out (by rfl) (by rfl) (by rfl) (by first | exact at0 | exact at1 | exact at2) ag44 (by with_reducible first | exact mc_size _ | exact sz1 | exact sz2 | exact sz3) ?_
          exact ⟨_, rfl, .inr ⟨by have e6 := E6.out; have e54 := E54.out; first | (intro h; have h_ := h.2 k hlt; omega) | (intro h1 h2; have h_ := h2 k hlt; omega), rfl⟩, HS.out.below⟩
        have q1b : decide (1 < rd l (6 + 3 * (k : Int))) = false := decide_eq_false q1
        by_cases q2 : 3 < rd l (54 + 3 * (k : Int))
        · have q2b : decide (3 < rd l (54 + 3 * (k : Int))) = true := decide_eq_true q2
          go_wp2_with ((first
      | ((with_reducible refine gate_dst (N := 31) rfl ?_); (refine index_row rfl rfl rfl rfl s37 (by omega) (by have := HL.out; omega) ?_))
      | ((with_reducible refine gate_dst (N := 32) rfl ?_); (refine load_row HS.out HC.out rfl rfl on5 rfl (by omega) (by have := HL.out; omega) ?_))
      | ((with_reducible refine gate_dst (N := 37) rfl ?_); (refine index_row rfl rfl rfl rfl s37 (by omega) (by have := HL.out; omega) ?_))
      | ((with_reducible refine gate_dst (N := 38) rfl ?_); (refine load_row HS.out HC.out rfl rfl on5 rfl (by omega) (by have := HL.out; omega) ?_))
      | ((with_reducible refine gate_store (t := 44) (p := 2) rfl ?_); (with_reducible refine store_seg HS.out rfl rfl rfl ag44 rfl (by first | exact eval_tmp rfl | exact eval_const) (by first | exact at0 | exact at1 | exact at2) (by with_reducible first | exact tc_put _ _ (by omega) _ _ | exact cc_put _ _ (by omega) _ _ _ | exact dc_put _ _ (by omega) _ | exact rc_put _ _ (by omega) _ | exact lay_mc _ _ | exact lay_tc _ _ | exact lay_cc _ _ | exact lay_dc _ _ | exact lay_rc _ _ | exact lay2_0 | exact lay2_1 | exact lay3_0 | exact lay3_1 | exact lay3_2 | exact lay2_w | exact lay3_w) (by with_reducible first | exact mc_size _ | exact sz1 | exact sz2 | exact sz3) (by simp only [mc_size, List.size_toArray, List.length_cons, List.length_nil]; omega) (by first | (with_reducible first | exact mc_one _ | exact tc_one _ | exact cc_one _ | exact dc_one _ | exact rc_one _ | exact t2_one _ _ | exact t3_one _ _ _) | (simp [Value.oneCell']; done)) ?_); intro W_ HP; clear HS; have HS := Aside0.mk HP; clear HP; (try simp only [List.set_cons_zero, List.set_cons_succ] at HS))
      | ((with_reducible refine gate_dst (N := 41) rfl ?_); (refine build_new rfl rfl pl44 ze44 (by simp only [List.map_toArray, List.map_cons, List.map_nil]; exact fill_nil) ?_))
      | ((with_reducible refine gate_store (t := 44) (p := 2) rfl ?_); (with_reducible refine store_seg HS.out rfl rfl rfl ag44 rfl (by first | exact eval_tmp rfl | exact eval_const) (by first | exact at0 | exact at1 | exact at2) (by with_reducible first | exact tc_put _ _ (by omega) _ _ | exact cc_put _ _ (by omega) _ _ _ | exact dc_put _ _ (by omega) _ | exact rc_put _ _ (by omega) _ | exact lay_mc _ _ | exact lay_tc _ _ | exact lay_cc _ _ | exact lay_dc _ _ | exact lay_rc _ _ | exact lay2_0 | exact lay2_1 | exact lay3_0 | exact lay3_1 | exact lay3_2 | exact lay2_w | exact lay3_w) (by with_reducible first | exact mc_size _ | exact sz1 | exact sz2 | exact sz3) (by simp only [mc_size, List.size_toArray, List.length_cons, List.length_nil]; omega) (by first | (with_reducible first | exact mc_one _ | exact tc_one _ | exact cc_one _ | exact dc_one _ | exact rc_one _ | exact t2_one _ _ | exact t3_one _ _ _) | (simp [Value.oneCell']; done)) ?_); intro W_ HP; clear HS; have HS := Aside0.mk HP; clear HP; (try simp only [List.set_cons_zero, List.set_cons_succ] at HS))
      | ((with_reducible refine gate_store (t := 44) (p := 2) rfl ?_); (with_reducible refine store_seg HS.out rfl rfl rfl ag44 rfl (by first | exact eval_tmp rfl | exact eval_const) (by first | exact at0 | exact at1 | exact at2) (by with_reducible first | exact tc_put _ _ (by omega) _ _ | exact cc_put _ _ (by omega) _ _ _ | exact dc_put _ _ (by omega) _ | exact rc_put _ _ (by omega) _ | exact lay_mc _ _ | exact lay_tc _ _ | exact lay_cc _ _ | exact lay_dc _ _ | exact lay_rc _ _ | exact lay2_0 | exact lay2_1 | exact lay3_0 | exact lay3_1 | exact lay3_2 | exact lay2_w | exact lay3_w) (by with_reducible first | exact mc_size _ | exact sz1 | exact sz2 | exact sz3) (by simp only [mc_size, List.size_toArray, List.length_cons, List.length_nil]; omega) (by first | (with_reducible first | exact mc_one _ | exact tc_one _ | exact cc_one _ | exact dc_one _ | exact rc_one _ | exact t2_one _ _ | exact t3_one _ _ _) | (simp [Value.oneCell']; done)) ?_); intro W_ HP; clear HS; have HS := Aside0.mk HP; clear HP; (try simp only [List.set_cons_zero, List.set_cons_succ] at HS))); (try simp only [Act.put, List.setIfInBounds_toArray, List.set_cons_zero, List.set_cons_succ]))
          refine ret_agg_tmp HS.out (by rfl) (by rfl) (by rfl) (by first | exact at0 | exact at1 | exact at2) ag44 (by with_reducible first | exact mc_size _ | exact sz1 | exact sz2 | exact sz3) ?_
          exact ⟨_, rfl, .inr ⟨by have e6 := E6.out; have e54 := E54.out; first | (intro h; have h_ := h.2 k hlt; omega) | (intro h1 h2; have h_ := h2 k hlt; omega), rfl⟩, HS.out.below⟩
        · have q2b : decide (3 < rd l (54 + 3 * (k : Int))) = false := decide_eq_false q2
          go_wp2_with ((first
      | ((with_reducible refine gate_dst (N := 31) rfl ?_); (refine index_row rfl rfl rfl rfl s37 (by omega) (by have := HL.out; omega) ?_))
      | ((with_reducible refine gate_dst (N := 32) rfl ?_); (refine load_row HS.out HC.out rfl rfl on5 rfl (by omega) (by have := HL.out; omega) ?_))); (try simp only [Act.put, List.setIfInBounds_toArray, List.set_cons_zero, List.set_cons_succ]))
          have W1 : IntKind.i64.wrap (6 + 3 * (k : Int) + 1) = 7 + 3 * (k : Int) := by rw [IntKind.wrap_i64]; omega
          have W2 : IntKind.u16.wrap (gt l (7 + 3 * k) 2) = gt l (7 + 3 * k) 2 := by have := gt_small HB0.out (7 + 3 * k) 2 (by decide); rw [IntKind.wrap_u16]; omega
          clear hq6 hq54
          refine start_Q #[false, false, false, false, false, false, false, false, false, false, false, false, false, false, false] HS.out (by kernel_rfl) rfl rfl ?_
          intro W_ HP hHeld; clear HS; have HS := Aside0.mk HP; clear HP
          refine PrintLast.pure_ (i := 0) (N := some 42) (v := ?_) (a' := ?_) #[true, false, false, false, false, false, false, false, false, false, false, false, false, false, false] rfl rfl (by kernel_rfl) (fun _ _ _ h => h) (Or.inl ⟨by rfl, ?_⟩) ?_ ?_
          rotate_left
          · intro w'
            go_simp
            with_reducible rfl
          rotate_left
          · simp only [Act.put, List.setIfInBounds_toArray, List.set_cons_zero, List.set_cons_succ, Nat.zero_add, Nat.add_zero, Nat.mul_one, Int.toNat_natCast, W1, W2]
            rfl
          refine PrintLast.pure_ (i := 1) (N := some 43) (v := ?_) (a' := ?_) #[true, true, false, false, false, false, false, false, false, false, false, false, false, false, false] rfl rfl (by kernel_rfl) (fun _ _ _ h => h) (Or.inl ⟨by rfl, ?_⟩) ?_ ?_
          rotate_left
          · intro w'
            go_simp
            with_reducible rfl
          rotate_left
          · simp only [Act.put, List.setIfInBounds_toArray, List.set_cons_zero, List.set_cons_succ, Nat.zero_add, Nat.add_zero, Nat.mul_one, Int.toNat_natCast, W1, W2]
            rfl
          refine PrintLast.pure_ (i := 2) (N := some 44) (v := ?_) (a' := ?_) #[true, true, true, false, false, false, false, false, false, false, false, false, false, false, false] rfl rfl (by kernel_rfl) (fun _ _ _ h => h) (Or.inl ⟨by rfl, ?_⟩) ?_ ?_
          rotate_left
          · intro w'
            go_simp
            with_reducible rfl
          rotate_left
          · simp only [Act.put, List.setIfInBounds_toArray, List.set_cons_zero, List.set_cons_succ, Nat.zero_add, Nat.add_zero, Nat.mul_one, Int.toNat_natCast, W1, W2]
            rfl
          refine PrintLast.pure_ (i := 3) (N := some 45) (v := ?_) (a' := ?_) #[true, true, true, true, false, false, false, false, false, false, false, false, false, false, false] rfl rfl (by kernel_rfl) (fun _ _ _ h => h) (Or.inl ⟨by rfl, ?_⟩) ?_ ?_
          rotate_left
          · intro w'
            refine Eq.trans (run_index_row rfl rfl rfl s37 (by omega) (by have := HL.out; omega)) ?_
            with_reducible rfl
          rotate_left
          · simp only [Act.put, List.setIfInBounds_toArray, List.set_cons_zero, List.set_cons_succ, Nat.zero_add, Nat.add_zero, Nat.mul_one, Int.toNat_natCast, W1, W2]
            rfl
          refine PrintLast.take_ (i := 4) (N := some 46) (v := ?_) (a' := ?_) #[true, true, true, true, true, false, false, false, false, false, false, false, false, false, false] rfl rfl (by kernel_rfl) (fun _ _ _ h => h) (Or.inl ⟨by rfl, ?_⟩) hHeld ?_ ?_
          rotate_left
          · intro w' hS
            refine Eq.trans (run_load_cell rfl on5 rfl (cell_row hS HC.out (by omega) (by have := HL.out; omega))) ?_
            with_reducible rfl
          rotate_left
          · simp only [Act.put, List.setIfInBounds_toArray, List.set_cons_zero, List.set_cons_succ, Nat.zero_add, Nat.add_zero, Nat.mul_one, Int.toNat_natCast, W1, W2]
            rfl
          refine PrintLast.pure_ (i := 5) (N := some 47) (v := ?_) (a' := ?_) #[true, true, true, true, true, true, false, false, false, false, false, false, false, false, false] rfl rfl (by kernel_rfl) (fun _ _ _ h => h) (Or.inl ⟨by rfl, ?_⟩) ?_ ?_
          rotate_left
          · intro w'
            go_simp
            with_reducible rfl
          rotate_left
          · simp only [Act.put, List.setIfInBounds_toArray, List.set_cons_zero, List.set_cons_succ, Nat.zero_add, Nat.add_zero, Nat.mul_one, Int.toNat_natCast, W1, W2]
            rfl
          refine PrintLast.pure_ (i := 6) (N := some 48) (v := ?_) (a' := ?_) #[true, true, true, true, true, true, true, false, false, false, false, false, false, false, false] rfl rfl (by kernel_rfl) (fun _ _ _ h => h) (Or.inl ⟨by rfl, ?_⟩) ?_ ?_
          rotate_left
          · intro w'
            go_simp
            with_reducible rfl
          rotate_left
          · simp only [Act.put, List.setIfInBounds_toArray, List.set_cons_zero, List.set_cons_succ, Nat.zero_add, Nat.add_zero, Nat.mul_one, Int.toNat_natCast, W1, W2]
            rfl
          refine PrintLast.pure_ (i := 7) (N := some 49) (v := ?_) (a' := ?_) #[true, true, true, true, true, true, true, true, false, false, false, false, false, false, false] rfl rfl (by kernel_rfl) (fun _ _ _ h => h) (Or.inl ⟨by rfl, ?_⟩) ?_ ?_
          rotate_left
          · intro w'
            go_simp
            with_reducible rfl
          rotate_left
          · simp only [Act.put, List.setIfInBounds_toArray, List.set_cons_zero, List.set_cons_succ, Nat.zero_add, Nat.add_zero, Nat.mul_one, Int.toNat_natCast, W1, W2]
            rfl
          refine PrintLast.pure_ (i := 8) (N := some 50) (v := ?_) (a' := ?_) #[true, true, true, true, true, true, true, true, true, false, false, false, false, false, false] rfl rfl (by kernel_rfl) (fun _ _ _ h => h) (Or.inl ⟨by rfl, ?_⟩) ?_ ?_
          rotate_left
          · intro w'
            go_simp
            with_reducible rfl
          rotate_left
          · simp only [Act.put, List.setIfInBounds_toArray, List.set_cons_zero, List.set_cons_succ, Nat.zero_add, Nat.add_zero, Nat.mul_one, Int.toNat_natCast, W1, W2]
            rfl
          refine PrintLast.pure_ (i := 12) (N := some 54) (v := ?_) (a' := ?_) #[true, true, true, true, true, true, true, true, true, false, false, false, true, false, false] rfl rfl (by kernel_rfl) (fun _ _ _ h => h) (Or.inl ⟨by rfl, ?_⟩) ?_ ?_
          rotate_left
          · intro w'
            refine Eq.trans (run_field_at rfl rfl rfl fo44_5) ?_
            with_reducible rfl
          rotate_left
          · simp only [Act.put, List.setIfInBounds_toArray, List.set_cons_zero, List.set_cons_succ, Nat.zero_add, Nat.add_zero, Nat.mul_one, Int.toNat_natCast, W1, W2]
            rfl
          refine PrintLast.one_ (i := 9) (N := some 51) #[true, true, true, true, true, true, true, true, true, true, false, false, true, false, false] rfl rfl (by kernel_rfl) (by decide) (fun K hK => ?_)
          refine step_callr (wanted_of rfl) HS.out rfl rfl Try.func34 (by kernel_rfl) rfl (by (try simp only [List.map_toArray, List.map_cons, List.map_nil]); first | done | rfl) (c_get HS.out HC.out hc HB0.out HL.out (7 + 3 * k) 2 _ _ (by omega) (by rfl) (by decide) (by omega)) ?_
          intro W_ HP; clear hHeld; clear HS; have HS := Aside0.mk HP; clear HP
          refine hK.out _ _ HS.out.none (fun hHeld => ?_)
          clear hK K
          refine PrintLast.norm_ (a' := ?_) ?_ ?_
          rotate_left
          · show Act.put _ (some 51) _ = _
            simp only [Act.put, List.setIfInBounds_toArray, List.set_cons_zero, List.set_cons_succ, Nat.zero_add, Nat.add_zero, Nat.mul_one, Int.toNat_natCast, W1, W2]
            rfl
          refine PrintLast.pure_ (i := 10) (N := some 52) (v := ?_) (a' := ?_) #[true, true, true, true, true, true, true, true, true, true, true, false, true, false, false] rfl rfl (by kernel_rfl) (fun _ _ _ h => h) (Or.inl ⟨by rfl, ?_⟩) ?_ ?_
          rotate_left
          · intro w'
            go_simp
            with_reducible rfl
          rotate_left
          · simp only [Act.put, List.setIfInBounds_toArray, List.set_cons_zero, List.set_cons_succ, Nat.zero_add, Nat.add_zero, Nat.mul_one, Int.toNat_natCast, W1, W2]
            rfl
          refine PrintLast.pure_ (i := 11) (N := some 53) (v := ?_) (a' := ?_) #[true, true, true, true, true, true, true, true, true, true, true, true, true, false, false] rfl rfl (by kernel_rfl) (fun _ _ _ h => h) (Or.inl ⟨by rfl, ?_⟩) ?_ ?_
          rotate_left
          · intro w'
            refine Eq.trans (run_buildr rfl pl39 ze39 (by simp only [List.map_toArray, List.map_cons, List.map_nil]; exact fill_cons (by first | exact eval_tmp rfl | exact eval_const) (by with_reducible first | exact cells_agg | exact cells_int | exact cells_bool | exact cells_float | exact cells_string | exact cells_slice) rfl (by with_reducible first | exact mc_size _ | exact sz1 | exact sz2 | exact sz3) (by simp only [mc_size, List.size_toArray, List.length_cons, List.length_nil]; omega) (by with_reducible first | exact set_M _ _ | exact set_S _ _ | exact put_T _ _ (by omega) _ _ | exact put_C _ _ (by omega) _ _ _ | exact put_D _ _ (by omega) _ | exact lay_mc _ _ | exact lay2_0 | exact lay2_1 | exact lay3_0 | exact lay3_1 | exact lay3_2) (fill_cons (by first | exact eval_tmp rfl | exact eval_const) (by with_reducible first | exact cells_agg | exact cells_int | exact cells_bool | exact cells_float | exact cells_string | exact cells_slice) rfl (by with_reducible first | exact mc_size _ | exact sz1 | exact sz2 | exact sz3) (by simp only [mc_size, List.size_toArray, List.length_cons, List.length_nil]; omega) (by with_reducible first | exact set_M _ _ | exact set_S _ _ | exact put_T _ _ (by omega) _ _ | exact put_C _ _ (by omega) _ _ _ | exact put_D _ _ (by omega) _ | exact lay_mc _ _ | exact lay2_0 | exact lay2_1 | exact lay3_0 | exact lay3_1 | exact lay3_2) (fill_nil)))) ?_
            with_reducible rfl
          rotate_left
          · simp only [Act.put, List.setIfInBounds_toArray, List.set_cons_zero, List.set_cons_succ, Nat.zero_add, Nat.add_zero, Nat.mul_one, Int.toNat_natCast, W1, W2]
            rfl
          refine PrintLast.pure_ (i := 13) (N := some 55) (v := ?_) (a' := ?_) #[true, true, true, true, true, true, true, true, true, true, true, true, true, true, false] rfl rfl (by kernel_rfl) (fun _ _ _ h => h) (Or.inl ⟨by rfl, ?_⟩) ?_ ?_
          rotate_left
          · intro w'
            refine Eq.trans (run_index_at rfl rfl rfl rfl ar40 (by omega) (by omega)) ?_
            with_reducible rfl
          rotate_left
          · simp only [Act.put, List.setIfInBounds_toArray, List.set_cons_zero, List.set_cons_succ, Nat.zero_add, Nat.add_zero, Nat.mul_one, Int.toNat_natCast, W1, W2]
            rfl
          refine PrintLast.one_ (i := 14) (N := none) #[true, true, true, true, true, true, true, true, true, true, true, true, true, true, true] rfl rfl (by kernel_rfl) (by decide) (fun K hK => ?_)
          refine step_store_seg (wanted_of rfl) HS.out rfl rfl ag39 rfl (by first | exact eval_tmp rfl | exact eval_const) (by first | exact at0 | exact at1 | exact at2) (by with_reducible first | exact set_M _ _ | exact set_S _ _ | exact put_T _ _ (by omega) _ _ | exact put_C _ _ (by omega) _ _ _ | exact put_D _ _ (by omega) _ | exact lay_mc _ _ | exact lay2_0 | exact lay2_1 | exact lay3_0 | exact lay3_1 | exact lay3_2) (by with_reducible first | exact mc_size _ | exact sz1 | exact sz2 | exact sz3) (by simp only [mc_size, List.size_toArray, List.length_cons, List.length_nil]; omega) (by first | (with_reducible first | exact mc_one _ | exact tc_one _ | exact cc_one _ | exact dc_one _ | exact rc_one _ | exact t2_one _ _ | exact t3_one _ _ _) | (simp [Value.oneCell']; done)) ?_
          intro W_ HP; clear hHeld; clear HS; have HS := Aside0.mk HP; clear HP; (try simp only [List.set_cons_zero, List.set_cons_succ] at HS)
          refine hK.out _ _ HS.out.none (fun hHeld => ?_)
          clear hK K
          refine PrintLast.done_ (by kernel_rfl) ?_
          clear hHeld
          have W3 : IntKind.i64.wrap (54 + 3 * (k : Int) + 1) = 55 + 3 * (k : Int) := by rw [IntKind.wrap_i64]; omega
          have W4 : IntKind.u16.wrap (gt l (55 + 3 * k) 2) = gt l (55 + 3 * k) 2 := by have := gt_small HB0.out (55 + 3 * k) 2 (by decide); rw [IntKind.wrap_u16]; omega
          go_wp2_with fail
          refine start_Q #[false, false, false, false, false, false, false, false, false, false, false, false, false, false, false, false, false, false, false, false, false, false] HS.out (by kernel_rfl) rfl rfl ?_
          intro W_ HP hHeld; clear HS; have HS := Aside0.mk HP; clear HP
          refine PrintLast.pure_ (i := 0) (N := some 56) (v := ?_) (a' := ?_) #[true, false, false, false, false, false, false, false, false, false, false, false, false, false, false, false, false, false, false, false, false, false] rfl rfl (by kernel_rfl) (fun _ _ _ h => h) (Or.inl ⟨by rfl, ?_⟩) ?_ ?_
          rotate_left
          · intro w'
            go_simp
            with_reducible rfl
          rotate_left
          · simp only [Act.put, List.setIfInBounds_toArray, List.set_cons_zero, List.set_cons_succ, Nat.zero_add, Nat.add_zero, Nat.mul_one, Int.toNat_natCast, W3, W4]
            rfl
          refine PrintLast.pure_ (i := 1) (N := some 57) (v := ?_) (a' := ?_) #[true, true, false, false, false, false, false, false, false, false, false, false, false, false, false, false, false, false, false, false, false, false] rfl rfl (by kernel_rfl) (fun _ _ _ h => h) (Or.inl ⟨by rfl, ?_⟩) ?_ ?_
          rotate_left
          · intro w'
            go_simp
            with_reducible rfl
          rotate_left
          · simp only [Act.put, List.setIfInBounds_toArray, List.set_cons_zero, List.set_cons_succ, Nat.zero_add, Nat.add_zero, Nat.mul_one, Int.toNat_natCast, W3, W4]
            rfl
          refine PrintLast.pure_ (i := 2) (N := some 58) (v := ?_) (a' := ?_) #[true, true, true, false, false, false, false, false, false, false, false, false, false, false, false, false, false, false, false, false, false, false] rfl rfl (by kernel_rfl) (fun _ _ _ h => h) (Or.inl ⟨by rfl, ?_⟩) ?_ ?_
          rotate_left
          · intro w'
            go_simp
            with_reducible rfl
          rotate_left
          · simp only [Act.put, List.setIfInBounds_toArray, List.set_cons_zero, List.set_cons_succ, Nat.zero_add, Nat.add_zero, Nat.mul_one, Int.toNat_natCast, W3, W4]
            rfl
          refine PrintLast.pure_ (i := 3) (N := some 59) (v := ?_) (a' := ?_) #[true, true, true, true, false, false, false, false, false, false, false, false, false, false, false, false, false, false, false, false, false, false] rfl rfl (by kernel_rfl) (fun _ _ _ h => h) (Or.inl ⟨by rfl, ?_⟩) ?_ ?_
          rotate_left
          · intro w'
            refine Eq.trans (run_index_row rfl rfl rfl s37 (by omega) (by have := HL.out; omega)) ?_
            with_reducible rfl
          rotate_left
          · simp only [Act.put, List.setIfInBounds_toArray, List.set_cons_zero, List.set_cons_succ, Nat.zero_add, Nat.add_zero, Nat.mul_one, Int.toNat_natCast, W3, W4]
            rfl
          refine PrintLast.take_ (i := 4) (N := some 60) (v := ?_) (a' := ?_) #[true, true, true, true, true, false, false, false, false, false, false, false, false, false, false, false, false, false, false, false, false, false] rfl rfl (by kernel_rfl) (fun _ _ _ h => h) (Or.inl ⟨by rfl, ?_⟩) hHeld ?_ ?_
          rotate_left
          · intro w' hS
            refine Eq.trans (run_load_cell rfl on5 rfl (cell_row hS HC.out (by omega) (by have := HL.out; omega))) ?_
            with_reducible rfl
          rotate_left
          · simp only [Act.put, List.setIfInBounds_toArray, List.set_cons_zero, List.set_cons_succ, Nat.zero_add, Nat.add_zero, Nat.mul_one, Int.toNat_natCast, W3, W4]
            rfl
          refine PrintLast.pure_ (i := 5) (N := some 61) (v := ?_) (a' := ?_) #[true, true, true, true, true, true, false, false, false, false, false, false, false, false, false, false, false, false, false, false, false, false] rfl rfl (by kernel_rfl) (fun _ _ _ h => h) (Or.inl ⟨by rfl, ?_⟩) ?_ ?_
          rotate_left
          · intro w'
            go_simp
            with_reducible rfl
          rotate_left
          · simp only [Act.put, List.setIfInBounds_toArray, List.set_cons_zero, List.set_cons_succ, Nat.zero_add, Nat.add_zero, Nat.mul_one, Int.toNat_natCast, W3, W4]
            rfl
          refine PrintLast.pure_ (i := 6) (N := some 62) (v := ?_) (a' := ?_) #[true, true, true, true, true, true, true, false, false, false, false, false, false, false, false, false, false, false, false, false, false, false] rfl rfl (by kernel_rfl) (fun _ _ _ h => h) (Or.inl ⟨by rfl, ?_⟩) ?_ ?_
          rotate_left
          · intro w'
            go_simp
            with_reducible rfl
          rotate_left
          · simp only [Act.put, List.setIfInBounds_toArray, List.set_cons_zero, List.set_cons_succ, Nat.zero_add, Nat.add_zero, Nat.mul_one, Int.toNat_natCast, W3, W4]
            rfl
          refine PrintLast.pure_ (i := 7) (N := some 63) (v := ?_) (a' := ?_) #[true, true, true, true, true, true, true, true, false, false, false, false, false, false, false, false, false, false, false, false, false, false] rfl rfl (by kernel_rfl) (fun _ _ _ h => h) (Or.inl ⟨by rfl, ?_⟩) ?_ ?_
          rotate_left
          · intro w'
            go_simp
            with_reducible rfl
          rotate_left
          · simp only [Act.put, List.setIfInBounds_toArray, List.set_cons_zero, List.set_cons_succ, Nat.zero_add, Nat.add_zero, Nat.mul_one, Int.toNat_natCast, W3, W4]
            rfl
          refine PrintLast.pure_ (i := 8) (N := some 64) (v := ?_) (a' := ?_) #[true, true, true, true, true, true, true, true, true, false, false, false, false, false, false, false, false, false, false, false, false, false] rfl rfl (by kernel_rfl) (fun _ _ _ h => h) (Or.inl ⟨by rfl, ?_⟩) ?_ ?_
          rotate_left
          · intro w'
            go_simp
            with_reducible rfl
          rotate_left
          · simp only [Act.put, List.setIfInBounds_toArray, List.set_cons_zero, List.set_cons_succ, Nat.zero_add, Nat.add_zero, Nat.mul_one, Int.toNat_natCast, W3, W4]
            rfl
          refine PrintLast.pure_ (i := 9) (N := some 65) (v := ?_) (a' := ?_) #[true, true, true, true, true, true, true, true, true, true, false, false, false, false, false, false, false, false, false, false, false, false] rfl rfl (by kernel_rfl) (fun _ _ _ h => h) (Or.inl ⟨by rfl, ?_⟩) ?_ ?_
          rotate_left
          · intro w'
            refine Eq.trans (run_index_row rfl rfl rfl s37 (by omega) (by have := HL.out; omega)) ?_
            with_reducible rfl
          rotate_left
          · simp only [Act.put, List.setIfInBounds_toArray, List.set_cons_zero, List.set_cons_succ, Nat.zero_add, Nat.add_zero, Nat.mul_one, Int.toNat_natCast, W3, W4]
            rfl
          refine PrintLast.take_ (i := 10) (N := some 66) (v := ?_) (a' := ?_) #[true, true, true, true, true, true, true, true, true, true, true, false, false, false, false, false, false, false, false, false, false, false] rfl rfl (by kernel_rfl) (fun _ _ _ h => h) (Or.inl ⟨by rfl, ?_⟩) hHeld ?_ ?_
          rotate_left
          · intro w' hS
            refine Eq.trans (run_load_cell rfl on5 rfl (cell_row hS HC.out (by omega) (by have := HL.out; omega))) ?_
            with_reducible rfl
          rotate_left
          · simp only [Act.put, List.setIfInBounds_toArray, List.set_cons_zero, List.set_cons_succ, Nat.zero_add, Nat.add_zero, Nat.mul_one, Int.toNat_natCast, W3, W4]
            rfl
          refine PrintLast.pure_ (i := 11) (N := some 67) (v := ?_) (a' := ?_) #[true, true, true, true, true, true, true, true, true, true, true, true, false, false, false, false, false, false, false, false, false, false] rfl rfl (by kernel_rfl) (fun _ _ _ h => h) (Or.inl ⟨by rfl, ?_⟩) ?_ ?_
          rotate_left
          · intro w'
            go_simp
            with_reducible rfl
          rotate_left
          · simp only [Act.put, List.setIfInBounds_toArray, List.set_cons_zero, List.set_cons_succ, Nat.zero_add, Nat.add_zero, Nat.mul_one, Int.toNat_natCast, W3, W4]
            rfl
          refine PrintLast.pure_ (i := 12) (N := some 68) (v := ?_) (a' := ?_) #[true, true, true, true, true, true, true, true, true, true, true, true, true, false, false, false, false, false, false, false, false, false] rfl rfl (by kernel_rfl) (fun _ _ _ h => h) (Or.inl ⟨by rfl, ?_⟩) ?_ ?_
          rotate_left
          · intro w'
            go_simp
            with_reducible rfl
          rotate_left
          · simp only [Act.put, List.setIfInBounds_toArray, List.set_cons_zero, List.set_cons_succ, Nat.zero_add, Nat.add_zero, Nat.mul_one, Int.toNat_natCast, W3, W4]
            rfl
          refine PrintLast.pure_ (i := 13) (N := some 69) (v := ?_) (a' := ?_) #[true, true, true, true, true, true, true, true, true, true, true, true, true, true, false, false, false, false, false, false, false, false] rfl rfl (by kernel_rfl) (fun _ _ _ h => h) (Or.inl ⟨by rfl, ?_⟩) ?_ ?_
          rotate_left
          · intro w'
            go_simp
            with_reducible rfl
          rotate_left
          · simp only [Act.put, List.setIfInBounds_toArray, List.set_cons_zero, List.set_cons_succ, Nat.zero_add, Nat.add_zero, Nat.mul_one, Int.toNat_natCast, W3, W4]
            rfl
          refine PrintLast.pure_ (i := 14) (N := some 70) (v := ?_) (a' := ?_) #[true, true, true, true, true, true, true, true, true, true, true, true, true, true, true, false, false, false, false, false, false, false] rfl rfl (by kernel_rfl) (fun _ _ _ h => h) (Or.inl ⟨by rfl, ?_⟩) ?_ ?_
          rotate_left
          · intro w'
            go_simp
            with_reducible rfl
          rotate_left
          · simp only [Act.put, List.setIfInBounds_toArray, List.set_cons_zero, List.set_cons_succ, Nat.zero_add, Nat.add_zero, Nat.mul_one, Int.toNat_natCast, W3, W4]
            rfl
          refine PrintLast.pure_ (i := 15) (N := some 71) (v := ?_) (a' := ?_) #[true, true, true, true, true, true, true, true, true, true, true, true, true, true, true, true, false, false, false, false, false, false] rfl rfl (by kernel_rfl) (fun _ _ _ h => h) (Or.inl ⟨by rfl, ?_⟩) ?_ ?_
          rotate_left
          · intro w'
            go_simp
            with_reducible rfl
          rotate_left
          · simp only [Act.put, List.setIfInBounds_toArray, List.set_cons_zero, List.set_cons_succ, Nat.zero_add, Nat.add_zero, Nat.mul_one, Int.toNat_natCast, W3, W4]
            rfl
          refine PrintLast.pure_ (i := 19) (N := some 75) (v := ?_) (a' := ?_) #[true, true, true, true, true, true, true, true, true, true, true, true, true, true, true, true, false, false, false, true, false, false] rfl rfl (by kernel_rfl) (fun _ _ _ h => h) (Or.inl ⟨by rfl, ?_⟩) ?_ ?_
          rotate_left
          · intro w'
            refine Eq.trans (run_field_at rfl rfl rfl fo44_6) ?_
            with_reducible rfl
          rotate_left
          · simp only [Act.put, List.setIfInBounds_toArray, List.set_cons_zero, List.set_cons_succ, Nat.zero_add, Nat.add_zero, Nat.mul_one, Int.toNat_natCast, W3, W4]
            rfl
          refine PrintLast.one_ (i := 16) (N := some 72) #[true, true, true, true, true, true, true, true, true, true, true, true, true, true, true, true, true, false, false, true, false, false] rfl rfl (by kernel_rfl) (by decide) (fun K hK => ?_)
          refine step_callr (wanted_of rfl) HS.out rfl rfl Try.func34 (by kernel_rfl) rfl (by (try simp only [List.map_toArray, List.map_cons, List.map_nil]); first | done | rfl) (c_get HS.out HC.out hc HB0.out HL.out (55 + 3 * k) 2 _ _ (by omega) (by rfl) (by decide) (by omega)) ?_
          intro W_ HP; clear hHeld; clear HS; have HS := Aside0.mk HP; clear HP
          refine hK.out _ _ HS.out.none (fun hHeld => ?_)
          clear hK K
          refine PrintLast.norm_ (a' := ?_) ?_ ?_
          rotate_left
          · show Act.put _ (some 72) _ = _
            simp only [Act.put, List.setIfInBounds_toArray, List.set_cons_zero, List.set_cons_succ, Nat.zero_add, Nat.add_zero, Nat.mul_one, Int.toNat_natCast, W3, W4]
            rfl
          refine PrintLast.pure_ (i := 17) (N := some 73) (v := ?_) (a' := ?_) #[true, true, true, true, true, true, true, true, true, true, true, true, true, true, true, true, true, true, false, true, false, false] rfl rfl (by kernel_rfl) (fun _ _ _ h => h) (Or.inl ⟨by rfl, ?_⟩) ?_ ?_
          rotate_left
          · intro w'
            go_simp
            with_reducible rfl
          rotate_left
          · simp only [Act.put, List.setIfInBounds_toArray, List.set_cons_zero, List.set_cons_succ, Nat.zero_add, Nat.add_zero, Nat.mul_one, Int.toNat_natCast, W3, W4]
            rfl
          refine PrintLast.pure_ (i := 18) (N := some 74) (v := ?_) (a' := ?_) #[true, true, true, true, true, true, true, true, true, true, true, true, true, true, true, true, true, true, true, true, false, false] rfl rfl (by kernel_rfl) (fun _ _ _ h => h) (Or.inl ⟨by rfl, ?_⟩) ?_ ?_
          rotate_left
          · intro w'
            refine Eq.trans (run_buildr rfl pl41 ze41 (by simp only [List.map_toArray, List.map_cons, List.map_nil]; exact fill_cons (by first | exact eval_tmp rfl | exact eval_const) (by with_reducible first | exact cells_agg | exact cells_int | exact cells_bool | exact cells_float | exact cells_string | exact cells_slice) rfl (by with_reducible first | exact mc_size _ | exact sz1 | exact sz2 | exact sz3) (by simp only [mc_size, List.size_toArray, List.length_cons, List.length_nil]; omega) (by with_reducible first | exact set_M _ _ | exact set_S _ _ | exact put_T _ _ (by omega) _ _ | exact put_C _ _ (by omega) _ _ _ | exact put_D _ _ (by omega) _ | exact lay_mc _ _ | exact lay2_0 | exact lay2_1 | exact lay3_0 | exact lay3_1 | exact lay3_2) (fill_cons (by first | exact eval_tmp rfl | exact eval_const) (by with_reducible first | exact cells_agg | exact cells_int | exact cells_bool | exact cells_float | exact cells_string | exact cells_slice) rfl (by with_reducible first | exact mc_size _ | exact sz1 | exact sz2 | exact sz3) (by simp only [mc_size, List.size_toArray, List.length_cons, List.length_nil]; omega) (by with_reducible first | exact set_M _ _ | exact set_S _ _ | exact put_T _ _ (by omega) _ _ | exact put_C _ _ (by omega) _ _ _ | exact put_D _ _ (by omega) _ | exact lay_mc _ _ | exact lay2_0 | exact lay2_1 | exact lay3_0 | exact lay3_1 | exact lay3_2) (fill_cons (by first | exact eval_tmp rfl | exact eval_const) (by with_reducible first | exact cells_agg | exact cells_int | exact cells_bool | exact cells_float | exact cells_string | exact cells_slice) rfl (by with_reducible first | exact mc_size _ | exact sz1 | exact sz2 | exact sz3) (by simp only [mc_size, List.size_toArray, List.length_cons, List.length_nil]; omega) (by with_reducible first | exact set_M _ _ | exact set_S _ _ | exact put_T _ _ (by omega) _ _ | exact put_C _ _ (by omega) _ _ _ | exact put_D _ _ (by omega) _ | exact lay_mc _ _ | exact lay2_0 | exact lay2_1 | exact lay3_0 | exact lay3_1 | exact lay3_2) (fill_nil))))) ?_
            with_reducible rfl
          rotate_left
          · simp only [Act.put, List.setIfInBounds_toArray, List.set_cons_zero, List.set_cons_succ, Nat.zero_add, Nat.add_zero, Nat.mul_one, Int.toNat_natCast, W3, W4]
            rfl
          refine PrintLast.pure_ (i := 20) (N := some 76) (v := ?_) (a' := ?_) #[true, true, true, true, true, true, true, true, true, true, true, true, true, true, true, true, true, true, true, true, true, false] rfl rfl (by kernel_rfl) (fun _ _ _ h => h) (Or.inl ⟨by rfl, ?_⟩) ?_ ?_
          rotate_left
          · intro w'
            refine Eq.trans (run_index_at rfl rfl rfl rfl ar42 (by omega) (by omega)) ?_
            with_reducible rfl
          rotate_left
          · simp only [Act.put, List.setIfInBounds_toArray, List.set_cons_zero, List.set_cons_succ, Nat.zero_add, Nat.add_zero, Nat.mul_one, Int.toNat_natCast, W3, W4]
            rfl
          refine PrintLast.one_ (i := 21) (N := none) #[true, true, true, true, true, true, true, true, true, true, true, true, true, true, true, true, true, true, true, true, true, true] rfl rfl (by kernel_rfl) (by decide) (fun K hK => ?_)
          refine step_store_seg (wanted_of rfl) HS.out rfl rfl ag41 rfl (by first | exact eval_tmp rfl | exact eval_const) (by first | exact at0 | exact at1 | exact at2) (by with_reducible first | exact set_M _ _ | exact set_S _ _ | exact put_T _ _ (by omega) _ _ | exact put_C _ _ (by omega) _ _ _ | exact put_D _ _ (by omega) _ | exact lay_mc _ _ | exact lay2_0 | exact lay2_1 | exact lay3_0 | exact lay3_1 | exact lay3_2) (by with_reducible first | exact mc_size _ | exact sz1 | exact sz2 | exact sz3) (by simp only [mc_size, List.size_toArray, List.length_cons, List.length_nil]; omega) (by first | (with_reducible first | exact mc_one _ | exact tc_one _ | exact cc_one _ | exact dc_one _ | exact rc_one _ | exact t2_one _ _ | exact t3_one _ _ _) | (simp [Value.oneCell']; done)) ?_
          intro W_ HP; clear hHeld; clear HS; have HS := Aside0.mk HP; clear HP; (try simp only [List.set_cons_zero, List.set_cons_succ] at HS)
          refine hK.out _ _ HS.out.none (fun hHeld => ?_)
          clear hK K
          refine PrintLast.done_ (by kernel_rfl) ?_
          clear hHeld
          have W5 : gt l (102 + 2 * k) 2 < 65536 := (gt_small HB0.out (102 + 2 * k) 2 (by decide)).2.2.2.1 (by decide)
          have W6 : 0 ≤ gt l (102 + 2 * k) 2 := (gt_small HB0.out (102 + 2 * k) 2 (by decide)).1
          go_wp2_with ((first
      | ((with_reducible refine gate_dst (N := 83) rfl ?_); refine call_ev2 HS.out rfl rfl Try.func34 (by kernel_rfl) rfl (by (try simp only [List.map_toArray, List.map_cons, List.map_nil]); first | done | rfl) (c_get HS.out HC.out hc HB0.out HL.out (102 + 2 * k) 2 _ _ (by omega) (by rfl) (by decide) (by omega)) ?_; rintro v_ W_ rfl HP HB_; clear HS; have HS := Aside0.mk HP; clear HP; clear HB_)
      | ((with_reducible refine gate_dst (N := 85) rfl ?_); refine call_ev2 HS.out rfl rfl Try.func35 (by kernel_rfl) rfl (by (try simp only [List.map_toArray, List.map_cons, List.map_nil]); first | done | rfl) (c_wr _ (by omega) (by omega)) ?_; rintro v_ W_ rfl HP HB_; clear HS; have HS := Aside0.mk HP; clear HP; clear HB_)
      | ((with_reducible refine gate_dst (N := 86) rfl ?_); (with_reducible refine field_at rfl rfl rfl fo44_7 ?_); (try simp only [toNat_16, toNat_12, Int.toNat_natCast, Nat.zero_add, Nat.add_zero, Nat.mul_one]))
      | ((with_reducible refine gate_dst (N := 87) rfl ?_); (with_reducible refine index_at rfl rfl rfl rfl ar32 (by omega) (by omega) ?_); (try simp only [toNat_16, toNat_12, Int.toNat_natCast, Nat.zero_add, Nat.add_zero, Nat.mul_one]))
      | ((with_reducible refine gate_store (t := 31) (p := 87) rfl ?_); (with_reducible refine store_one HS.out rfl rfl rfl on31 rfl (by first | exact eval_tmp rfl | exact eval_const) (by first | exact at0 | exact at1 | exact at2) (by with_reducible first | exact set_D _ _ | exact put_D _ _ (by omega) _) (by simp only [mc_size, List.size_toArray, List.length_cons, List.length_nil]; omega) rfl rfl ?_); intro W_ HP; clear HS; have HS := Aside0.mk HP; clear HP; (try simp only [List.set_cons_zero, List.set_cons_succ] at HS))); (try simp only [Act.put, List.setIfInBounds_toArray, List.set_cons_zero, List.set_cons_succ]))
          go_roundw
          case rel => exact ⟨k + 1, _, _, _, by go_num, by omega, ⟨fun i hi => by
            have e6 := E6.out
            have e54 := E54.out
            have b6 := byte_in HB0.out (6 + 3 * k)
            have b54 := byte_in HB0.out (54 + 3 * k)
            by_cases e : i = k
            · subst e
              refine ⟨?_, ?_, ?_, by omega, by omega⟩
              · rw [upd_same, e6]
                show _ = (decide (l.getD (6 + 3 * i) 0 % 2 = 1), gt l (7 + 3 * i) 2)
                have h : l.getD (6 + 3 * i) 0 = 0 ∨ l.getD (6 + 3 * i) 0 = 1 := by omega
                rcases h with h | h <;> rw [h] <;> rfl
              · rw [upd_same, e54]
                show _ = (decide (l.getD (54 + 3 * i) 0 % 2 = 1), decide (l.getD (54 + 3 * i) 0 / 2 % 2 = 1), gt l (55 + 3 * i) 2)
                have h : l.getD (54 + 3 * i) 0 = 0 ∨ l.getD (54 + 3 * i) 0 = 1 ∨ l.getD (54 + 3 * i) 0 = 2 ∨ l.getD (54 + 3 * i) 0 = 3 := by omega
                rcases h with h | h | h | h <;> rw [h] <;> rfl
              · rw [upd_same]
                show w16 (gt l (102 + 2 * i) 2) = if 16 ≤ 16 + i then w16 (gt l (102 + 2 * (16 + i - 16)) 2) else 0
                rw [if_pos (by omega), show 16 + i - 16 = i by omega]
            · have h := HR.out i (by omega)
              exact ⟨by rw [upd_other _ _ _ _ e]; exact h.1, by rw [upd_other _ _ _ _ e]; exact h.2.1, by rw [upd_other _ _ _ _ (by omega)]; exact h.2.2.1, h.2.2.2.1, h.2.2.2.2⟩⟩, ⟨fun i hi => by rw [upd_other _ _ _ _ (by omega)]; exact HZ.out i hi⟩, HS⟩
          case measure => simp [intOf]; omega
      · go_wp2_with ((first
      | ((with_reducible refine gate_region (id := 11) ?_); refine region_tail HS.out 9 (by kernel_rfl) (by kernel_rfl) ?_; intro W_ HP HB_; clear HS; have HS := Aside0.mk HP; clear HP; have HO_ := Row.below HO.out HB_; clear HO HB_; have HO := Aside0.mk HO_; clear HO_; simp only [List.take_succ_cons, List.take_zero, List.drop_succ_cons, List.drop_zero]; (repeat (first
          | ((with_reducible refine st_gate (N := 46) rfl ?_); (with_reducible refine st_load_one HS.out rfl rfl on5 rfl (by first | exact at0 | exact at1 | exact at2) (by with_reducible first | exact get_X _ | exact get_Y _ | exact get_M _ | exact get_S _ | exact get_E _ | exact get_Time _ | exact get_Ran _ | exact get_Fault _ | exact el_T0 _ _ (by omega) | exact el_T1 _ _ (by omega) | exact el_C0 _ _ (by omega) | exact el_C1 _ _ (by omega) | exact el_C2 _ _ (by omega) | exact el_D _ _ (by omega) | exact el_R _ _ (by omega) | exact dc_get _ _ (by omega) | exact rc_get _ _ (by omega) | exact at0a | exact at1a | exact at2a | exact at3a) ?_))
          | still_step)); refine wpStill_nil ?_)
      | ((with_reducible refine gate_region (id := 12) ?_); refine region_tail HS.out 16 (by kernel_rfl) (by kernel_rfl) ?_; intro W_ HP HB_; clear HS; have HS := Aside0.mk HP; clear HP; have HO_ := Row.below HO.out HB_; clear HO HB_; have HO := Aside0.mk HO_; clear HO_; simp only [List.take_succ_cons, List.take_zero, List.drop_succ_cons, List.drop_zero]; (repeat (first
          | ((with_reducible refine st_gate (N := 60) rfl ?_); (with_reducible refine st_load_one HS.out rfl rfl on5 rfl (by first | exact at0 | exact at1 | exact at2) (by with_reducible first | exact get_X _ | exact get_Y _ | exact get_M _ | exact get_S _ | exact get_E _ | exact get_Time _ | exact get_Ran _ | exact get_Fault _ | exact el_T0 _ _ (by omega) | exact el_T1 _ _ (by omega) | exact el_C0 _ _ (by omega) | exact el_C1 _ _ (by omega) | exact el_C2 _ _ (by omega) | exact el_D _ _ (by omega) | exact el_R _ _ (by omega) | exact dc_get _ _ (by omega) | exact rc_get _ _ (by omega) | exact at0a | exact at1a | exact at2a | exact at3a) ?_))
          | ((with_reducible refine st_gate (N := 66) rfl ?_); (with_reducible refine st_load_one HS.out rfl rfl on5 rfl (by first | exact at0 | exact at1 | exact at2) (by with_reducible first | exact get_X _ | exact get_Y _ | exact get_M _ | exact get_S _ | exact get_E _ | exact get_Time _ | exact get_Ran _ | exact get_Fault _ | exact el_T0 _ _ (by omega) | exact el_T1 _ _ (by omega) | exact el_C0 _ _ (by omega) | exact el_C1 _ _ (by omega) | exact el_C2 _ _ (by omega) | exact el_D _ _ (by omega) | exact el_R _ _ (by omega) | exact dc_get _ _ (by omega) | exact rc_get _ _ (by omega) | exact at0a | exact at1a | exact at2a | exact at3a) ?_))
          | still_step)); refine wpStill_nil ?_)
      | ((with_reducible refine gate_store (t := 44) (p := 2) rfl ?_); (with_reducible refine store_seg HS.out rfl rfl rfl ag44 rfl (by first | exact eval_tmp rfl | exact eval_const) (by first | exact at0 | exact at1 | exact at2) (by with_reducible first | exact tc_put _ _ (by omega) _ _ | exact cc_put _ _ (by omega) _ _ _ | exact dc_put _ _ (by omega) _ | exact rc_put _ _ (by omega) _ | exact lay_mc _ _ | exact lay_tc _ _ | exact lay_cc _ _ | exact lay_dc _ _ | exact lay_rc _ _ | exact lay2_0 | exact lay2_1 | exact lay3_0 | exact lay3_1 | exact lay3_2 | exact lay2_w | exact lay3_w) (by with_reducible first | exact mc_size _ | exact sz1 | exact sz2 | exact sz3) (by simp only [mc_size, List.size_toArray, List.length_cons, List.length_nil]; omega) (by first | (with_reducible first | exact mc_one _ | exact tc_one _ | exact cc_one _ | exact dc_one _ | exact rc_one _ | exact t2_one _ _ | exact t3_one _ _ _) | (simp [Value.oneCell']; done)) ?_); intro W_ HP; clear HS; have HS := Aside0.mk HP; clear HP; (try simp only [List.set_cons_zero, List.set_cons_succ] at HS))
      | ((with_reducible refine gate_store (t := 44) (p := 2) rfl ?_); (with_reducible refine store_seg HS.out rfl rfl rfl ag44 rfl (by first | exact eval_tmp rfl | exact eval_const) (by first | exact at0 | exact at1 | exact at2) (by with_reducible first | exact tc_put _ _ (by omega) _ _ | exact cc_put _ _ (by omega) _ _ _ | exact dc_put _ _ (by omega) _ | exact rc_put _ _ (by omega) _ | exact lay_mc _ _ | exact lay_tc _ _ | exact lay_cc _ _ | exact lay_dc _ _ | exact lay_rc _ _ | exact lay2_0 | exact lay2_1 | exact lay3_0 | exact lay3_1 | exact lay3_2 | exact lay2_w | exact lay3_w) (by with_reducible first | exact mc_size _ | exact sz1 | exact sz2 | exact sz3) (by simp only [mc_size, List.size_toArray, List.length_cons, List.length_nil]; omega) (by first | (with_reducible first | exact mc_one _ | exact tc_one _ | exact cc_one _ | exact dc_one _ | exact rc_one _ | exact t2_one _ _ | exact t3_one _ _ _) | (simp [Value.oneCell']; done)) ?_); intro W_ HP; clear HS; have HS := Aside0.mk HP; clear HP; (try simp only [List.set_cons_zero, List.set_cons_succ] at HS))
      | ((with_reducible refine gate_dst (N := 88) rfl ?_); (with_reducible refine load_seg HS.out rfl rfl ag44 rfl (by first | exact at0 | exact at1 | exact at2) (by with_reducible first | exact tc_el _ _ (by omega) | exact cc_el _ _ (by omega) | exact whole _) (by with_reducible first | exact mc_size _ | exact sz1 | exact sz2 | exact sz3) ?_))
      | ((with_reducible refine gate_store (t := 44) (p := 2) rfl ?_); (with_reducible refine store_seg HS.out rfl rfl rfl ag44 rfl (by first | exact eval_tmp rfl | exact eval_const) (by first | exact at0 | exact at1 | exact at2) (by with_reducible first | exact tc_put _ _ (by omega) _ _ | exact cc_put _ _ (by omega) _ _ _ | exact dc_put _ _ (by omega) _ | exact rc_put _ _ (by omega) _ | exact lay_mc _ _ | exact lay_tc _ _ | exact lay_cc _ _ | exact lay_dc _ _ | exact lay_rc _ _ | exact lay2_0 | exact lay2_1 | exact lay3_0 | exact lay3_1 | exact lay3_2 | exact lay2_w | exact lay3_w) (by with_reducible first | exact mc_size _ | exact sz1 | exact sz2 | exact sz3) (by simp only [mc_size, List.size_toArray, List.length_cons, List.length_nil]; omega) (by first | (with_reducible first | exact mc_one _ | exact tc_one _ | exact cc_one _ | exact dc_one _ | exact rc_one _ | exact t2_one _ _ | exact t3_one _ _ _) | (simp [Value.oneCell']; done)) ?_); intro W_ HP; clear HS; have HS := Aside0.mk HP; clear HP; (try simp only [List.set_cons_zero, List.set_cons_succ] at HS))); (try simp only [Act.put, List.setIfInBounds_toArray, List.set_cons_zero, List.set_cons_succ]))
        refine ret_agg_tmp HS.out (by rfl) (by rfl) (by rfl) (by first | exact at0 | exact at1 | exact at2) ag44 (by with_reducible first | exact mc_size _ | exact sz1 | exact sz2 | exact sz3) ?_
        refine ⟨_, rfl, .inl ⟨HL.out, fun i hi => (HR.out i (by omega)).2.2.2, ?_⟩, HS.out.below⟩
        refine congrArg (fun x => Value.tuple #[.agg x, .bool true]) (mc_congr ⟨rfl, rfl, rfl, rfl, rfl, rfl, rfl, rfl⟩ (fun i hi => (HR.out i (by omega)).1) (fun i hi => (HR.out i (by omega)).2.1) (fun i hi => ?_) (fun i hi => rfl))
        show D' i = (pm l).D i
        by_cases e : 16 ≤ i
        · have h := (HR.out (i - 16) (by omega)).2.2.1
          rw [show 16 + (i - 16) = i by omega] at h
          exact h
        · rw [HZ.out i (by omega)]
          show (0 : Int) = if 16 ≤ i then _ else 0
          rw [if_neg e]
  · have hl1 : ((l.length : Int) != 134) = true := by simp; omega
    go_enter Try.func16, Try.ntmps16
    go_wp2_with ((first
      | ((with_reducible refine gate_region (id := 11) ?_); refine region_tail HS.out 9 (by kernel_rfl) (by kernel_rfl) ?_; intro W_ HP HB_; clear HS; have HS := Aside0.mk HP; clear HP; have HO_ := Row.below HO.out HB_; clear HO HB_; have HO := Aside0.mk HO_; clear HO_; simp only [List.take_succ_cons, List.take_zero, List.drop_succ_cons, List.drop_zero]; (repeat (first
          | ((with_reducible refine st_gate (N := 46) rfl ?_); (with_reducible refine st_load_one HS.out rfl rfl on5 rfl (by first | exact at0 | exact at1 | exact at2) (by with_reducible first | exact get_X _ | exact get_Y _ | exact get_M _ | exact get_S _ | exact get_E _ | exact get_Time _ | exact get_Ran _ | exact get_Fault _ | exact el_T0 _ _ (by omega) | exact el_T1 _ _ (by omega) | exact el_C0 _ _ (by omega) | exact el_C1 _ _ (by omega) | exact el_C2 _ _ (by omega) | exact el_D _ _ (by omega) | exact el_R _ _ (by omega) | exact dc_get _ _ (by omega) | exact rc_get _ _ (by omega) | exact at0a | exact at1a | exact at2a | exact at3a) ?_))
          | still_step)); refine wpStill_nil ?_)
      | ((with_reducible refine gate_region (id := 12) ?_); refine region_tail HS.out 16 (by kernel_rfl) (by kernel_rfl) ?_; intro W_ HP HB_; clear HS; have HS := Aside0.mk HP; clear HP; have HO_ := Row.below HO.out HB_; clear HO HB_; have HO := Aside0.mk HO_; clear HO_; simp only [List.take_succ_cons, List.take_zero, List.drop_succ_cons, List.drop_zero]; (repeat (first
          | ((with_reducible refine st_gate (N := 60) rfl ?_); (with_reducible refine st_load_one HS.out rfl rfl on5 rfl (by first | exact at0 | exact at1 | exact at2) (by with_reducible first | exact get_X _ | exact get_Y _ | exact get_M _ | exact get_S _ | exact get_E _ | exact get_Time _ | exact get_Ran _ | exact get_Fault _ | exact el_T0 _ _ (by omega) | exact el_T1 _ _ (by omega) | exact el_C0 _ _ (by omega) | exact el_C1 _ _ (by omega) | exact el_C2 _ _ (by omega) | exact el_D _ _ (by omega) | exact el_R _ _ (by omega) | exact dc_get _ _ (by omega) | exact rc_get _ _ (by omega) | exact at0a | exact at1a | exact at2a | exact at3a) ?_))
          | ((with_reducible refine st_gate (N := 66) rfl ?_); (with_reducible refine st_load_one HS.out rfl rfl on5 rfl (by first | exact at0 | exact at1 | exact at2) (by with_reducible first | exact get_X _ | exact get_Y _ | exact get_M _ | exact get_S _ | exact get_E _ | exact get_Time _ | exact get_Ran _ | exact get_Fault _ | exact el_T0 _ _ (by omega) | exact el_T1 _ _ (by omega) | exact el_C0 _ _ (by omega) | exact el_C1 _ _ (by omega) | exact el_C2 _ _ (by omega) | exact el_D _ _ (by omega) | exact el_R _ _ (by omega) | exact dc_get _ _ (by omega) | exact rc_get _ _ (by omega) | exact at0a | exact at1a | exact at2a | exact at3a) ?_))
          | still_step)); refine wpStill_nil ?_)
      | ((with_reducible refine gate_dst (N := 2) rfl ?_); (with_reducible refine alloc_new HS.out rfl rfl ze44 ?_); intro g2 W2_ HP; clear HS; have HS := Aside0.mk HP; clear HP)
      | ((with_reducible refine gate_dst (N := 11) rfl ?_); (refine build_new rfl rfl pl44 ze44 (by simp only [List.map_toArray, List.map_cons, List.map_nil]; exact fill_nil) ?_))
      | ((with_reducible refine gate_store (t := 44) (p := 2) rfl ?_); (with_reducible refine store_seg HS.out rfl rfl rfl ag44 rfl (by first | exact eval_tmp rfl | exact eval_const) (by first | exact at0 | exact at1 | exact at2) (by with_reducible first | exact tc_put _ _ (by omega) _ _ | exact cc_put _ _ (by omega) _ _ _ | exact dc_put _ _ (by omega) _ | exact rc_put _ _ (by omega) _ | exact lay_mc _ _ | exact lay_tc _ _ | exact lay_cc _ _ | exact lay_dc _ _ | exact lay_rc _ _ | exact lay2_0 | exact lay2_1 | exact lay3_0 | exact lay3_1 | exact lay3_2 | exact lay2_w | exact lay3_w) (by with_reducible first | exact mc_size _ | exact sz1 | exact sz2 | exact sz3) (by simp only [mc_size, List.size_toArray, List.length_cons, List.length_nil]; omega) (by first | (with_reducible first | exact mc_one _ | exact tc_one _ | exact cc_one _ | exact dc_one _ | exact rc_one _ | exact t2_one _ _ | exact t3_one _ _ _) | (simp [Value.oneCell']; done)) ?_); intro W_ HP; clear HS; have HS := Aside0.mk HP; clear HP; (try simp only [List.set_cons_zero, List.set_cons_succ] at HS))
      | ((with_reducible refine gate_store (t := 44) (p := 2) rfl ?_); (with_reducible refine store_seg HS.out rfl rfl rfl ag44 rfl (by first | exact eval_tmp rfl | exact eval_const) (by first | exact at0 | exact at1 | exact at2) (by with_reducible first | exact tc_put _ _ (by omega) _ _ | exact cc_put _ _ (by omega) _ _ _ | exact dc_put _ _ (by omega) _ | exact rc_put _ _ (by omega) _ | exact lay_mc _ _ | exact lay_tc _ _ | exact lay_cc _ _ | exact lay_dc _ _ | exact lay_rc _ _ | exact lay2_0 | exact lay2_1 | exact lay3_0 | exact lay3_1 | exact lay3_2 | exact lay2_w | exact lay3_w) (by with_reducible first | exact mc_size _ | exact sz1 | exact sz2 | exact sz3) (by simp only [mc_size, List.size_toArray, List.length_cons, List.length_nil]; omega) (by first | (with_reducible first | exact mc_one _ | exact tc_one _ | exact cc_one _ | exact dc_one _ | exact rc_one _ | exact t2_one _ _ | exact t3_one _ _ _) | (simp [Value.oneCell']; done)) ?_); intro W_ HP; clear HS; have HS := Aside0.mk HP; clear HP; (try simp only [List.set_cons_zero, List.set_cons_succ] at HS))
      | ((with_reducible refine gate_store (t := 44) (p := 2) rfl ?_); (with_reducible refine store_seg HS.out rfl rfl rfl ag44 rfl (by first | exact eval_tmp rfl | exact eval_const) (by first | exact at0 | exact at1 | exact at2) (by with_reducible first | exact tc_put _ _ (by omega) _ _ | exact cc_put _ _ (by omega) _ _ _ | exact dc_put _ _ (by omega) _ | exact rc_put _ _ (by omega) _ | exact lay_mc _ _ | exact lay_tc _ _ | exact lay_cc _ _ | exact lay_dc _ _ | exact lay_rc _ _ | exact lay2_0 | exact lay2_1 | exact lay3_0 | exact lay3_1 | exact lay3_2 | exact lay2_w | exact lay3_w) (by with_reducible first | exact mc_size _ | exact sz1 | exact sz2 | exact sz3) (by simp only [mc_size, List.size_toArray, List.length_cons, List.length_nil]; omega) (by first | (with_reducible first | exact mc_one _ | exact tc_one _ | exact cc_one _ | exact dc_one _ | exact rc_one _ | exact t2_one _ _ | exact t3_one _ _ _) | (simp [Value.oneCell']; done)) ?_); intro W_ HP; clear HS; have HS := Aside0.mk HP; clear HP; (try simp only [List.set_cons_zero, List.set_cons_succ] at HS))); (try simp only [Act.put, List.setIfInBounds_toArray, List.set_cons_zero, List.set_cons_succ]))
    refine ret_agg_tmp HS.out (by rfl) (by rfl) (by rfl) (by first | exact at0 | exact at1 | exact at2) ag44 (by with_reducible first | exact mc_size _ | exact sz1 | exact sz2 | exact sz3) ?_
    exact ⟨_, rfl, .inr ⟨fun h => hl h.1, rfl⟩, HS.out.below⟩


end Go.Proofs.Ytdmjdcapkjnipaa.K
