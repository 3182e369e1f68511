/- Walks over the ladders' memory: what the functions of this seat answer. -/
import Derived.Test.YtdmjdcapkjnipaaProg
import Derived.Test.YtdmjdcapkjnipaaMW
import Derived.WalkKit
import Derived.Deep.LoopGhost
import Derived.Deep.DeepCutAuto
import Derived.BigFrame
import Derived.Deep.QuietTactic
import Derived.BigQuiet
import Derived.Test.YtdmjdcapkjnipaaFL
import Derived.Laws.Externs
import Derived.Test.YtdmjdcapkjnipaaWEqStruct
import Derived.ChangeKeysEq
import Derived.Test.YtdmjdcapkjnipaaRL
import Derived.Test.YtdmjdcapkjnipaaY7
namespace Go.Proofs.Ytdmjdcapkjnipaa.K
open Go Go.RowKit Go.Proofs.YtdmjdcapkjnipaaW Go.Proofs.YtdmjdcapkjnipaaW.PrintWords Go.Proofs.Ytdmjdcapkjnipaa.MW
set_option linter.unusedVariables false
set_option linter.unusedSimpArgs false
set_option maxRecDepth 100000

open QDraw
theorem lay_snd {cs : Array Value} {o : Nat} {a b : Value} (h : cs[o]? = some a) : lay cs (o + 1) #[b] = lay cs o #[a, b] := by
  refine lay_ext (lay_size _ _ _) (fun i hi => ?_)
  rw [lay_get _ _ _ _ hi]
  simp only [List.size_toArray, List.length_cons, List.length_nil]
  by_cases h1 : i = o
  · subst h1
    rw [if_pos (by omega), if_neg (by omega), h, Nat.sub_self]; rfl
  · by_cases h2 : i = o + 1
    · subst h2
      rw [if_pos (by omega), if_pos (by omega), show o + 1 - o = 1 by omega, show o + 1 - (o + 1) = 0 by omega]; rfl
    · rw [if_neg (by omega), if_neg (by omega)]
theorem lay_mid {cs : Array Value} {o : Nat} {a b c : Value} (h : cs[o]? = some a) (h' : cs[o + 2]? = some c) : lay cs (o + 1) #[b] = lay cs o #[a, b, c] := by
  refine lay_ext (lay_size _ _ _) (fun i hi => ?_)
  rw [lay_get _ _ _ _ hi]
  simp only [List.size_toArray, List.length_cons, List.length_nil]
  by_cases h1 : i = o
  · subst h1
    rw [if_pos (by omega), if_neg (by omega), h, Nat.sub_self]; rfl
  · by_cases h2 : i = o + 1
    · subst h2
      rw [if_pos (by omega), if_pos (by omega), show o + 1 - o = 1 by omega, show o + 1 - (o + 1) = 0 by omega]; rfl
    · by_cases h3 : i = o + 2
      · subst h3
        rw [if_pos (by omega), if_neg (by omega), h', show o + 2 - o = 2 by omega]; rfl
      · rw [if_neg (by omega), if_neg (by omega)]
theorem put_T1 (m : Mm) (k : Nat) (h : k < 16) (v : Int) : lay (mc m) (5 + k * 2 + 1) #[.int .u16 v] = mc { m with T := upd m.T k ((m.T k).1, v) } := (lay_snd (el_T0 m k h)).trans (put_T m k h _ v)
theorem put_C1 (m : Mm) (k : Nat) (h : k < 16) (b : Bool) : lay (mc m) (37 + k * 3 + 1) #[.bool b] = mc { m with C := upd m.C k ((m.C k).1, b, (m.C k).2.2) } := (lay_mid (el_C0 m k h) (el_C2 m k h)).trans (put_C m k h _ b _)

section
variable {w0 w W : World} {L : List (Nat × Array Value)} {g : Nat} {b : List Int} {q : Int}
set_option maxHeartbeats 4000000 in
set_option maxRecDepth 100000 in
theorem c_l19Mem (H : PrR w0 w W L g b q) (hb : Tell.Bytes b) (hl : b.length ≤ 2000) (hq : q ≤ 900000) : Calls Try.prog 39 #[.pointer (some ⟨g, 0, none⟩)] W (fun e W' => ∃ v, e = .returned v ∧ ((∃ m : Mm, v = .agg (mc m) ∧ m.wf) ∧ PrR w0 w W' L g b (q + 600))) := by
  have HS := Aside0.mk H
  have HBB := Aside0.mk hb
  have HLL := Aside0.mk hl
  clear H hb hl
  go_enter Try.func39, Try.ntmps39
  go_wp2_with ((first | ((with_reducible refine gate_dst (N := 6) rfl ?_); refine call_anyR rfl rfl Try.func49 (by kernel_rfl) rfl (by (try simp only [List.map_toArray, List.map_cons, List.map_nil]); first | done | rfl) (c_l5Draw HS.out HBB.out HLL.out (by omega)) ?_; rintro v_ W_ ⟨⟨r6, rfl, wf6⟩, HP⟩; clear HS; have HS := Aside0.mk HP; clear HP) | (first
      | ((with_reducible refine gate_dst (N := 2) rfl ?_); (with_reducible refine alloc_newR HS.out rfl rfl ze44 ?_); intro g2 W2_ HP; clear HS; have HS := Aside0.mk HP; clear HP)
      | ((with_reducible refine gate_dst (N := 3) rfl ?_); (with_reducible refine alloc_newR HS.out rfl rfl ze44 ?_); intro g3 W3_ HP; clear HS; have HS := Aside0.mk HP; clear HP)
      | ((with_reducible refine gate_store (t := 44) (p := 3) rfl ?_); (with_reducible refine store_segR HS.out rfl rfl rfl ag44 rfl (by first | exact eval_tmp rfl | exact eval_const) (by first | exact at0 | exact at1 | exact at2 | exact at3 | exact at4 | exact at5 | exact at6) (by with_reducible first | exact tc_put _ _ (by omega) _ _ | exact cc_put _ _ (by omega) _ _ _ | exact dc_put _ _ (by omega) _ | exact rc_put _ _ (by omega) _ | exact lay_mc _ _ | exact lay_tc _ _ | exact lay_cc _ _ | exact lay_dc _ _ | exact lay_rc _ _ | exact lay2_0 | exact lay2_1 | exact lay3_0 | exact lay3_1 | exact lay3_2 | exact lay2_w | exact lay3_w) (by with_reducible first | exact mc_size _ | exact tc_size _ | exact cc_size _ | exact dc_size _ | exact rc_size _ | exact sz1 | exact sz2 | exact sz3 | exact sz4) (by simp only [mc_size, tc_size, cc_size, dc_size, rc_size, List.size_toArray, List.length_cons, List.length_nil]; omega) (by first | (with_reducible first | exact mc_one _ | exact tc_one _ | exact cc_one _ | exact dc_one _ | exact rc_one _ | exact t2_one _ _ | exact t3_one _ _ _) | (simp [Value.oneCell']; done)) ?_); intro W_ HP; clear HS; have HS := Aside0.mk HP; clear HP; (try simp only [List.set_cons_zero, List.set_cons_succ] at HS)))); (try simp only [Act.put, List.setIfInBounds_toArray, List.set_cons_zero, List.set_cons_succ]))
  go_loopw [4] (fun v4 W => ∃ (i : Nat) (m : Mm), v4 = .int .i64 i ∧ i ≤ 4 ∧ m.wf ∧ Aside0 (PrR w0 w W ((g3, mc m) :: (g2, mc zm) :: L) g b (q + 400 + 20 * i))) (fun v4 _ => 4 - (intOf v4).toNat)
  case atStart =>
    refine ⟨0, _, rfl, by omega, ?_, ⟨HS.out.mono (by omega)⟩⟩
    exact wf6
  case round =>
    clear HS
    obtain ⟨i, m, rfl, hi, wf, HS⟩ := hrel
    by_cases hlt : i < 4
    · have hlt2 : ((i : Int) < 4) := by omega
      go_wp2_with ((first | ((with_reducible refine gate_dst (N := 12) rfl ?_); refine call_anyR rfl rfl Try.func42 (by kernel_rfl) rfl (by (try simp only [List.map_toArray, List.map_cons, List.map_nil]); first | done | rfl) (c_pick HS.out HBB.out HLL.out (by omega) 16 (by decide) (by decide)) ?_; rintro v_ W_ ⟨⟨r12, rfl, h12a, h12b⟩, HP⟩; clear HS; have HS := Aside0.mk HP; clear HP) | ((with_reducible refine gate_dst (N := 15) rfl ?_); refine call_anyR rfl rfl Try.func50 (by kernel_rfl) rfl (by (try simp only [List.map_toArray, List.map_cons, List.map_nil]); first | done | rfl) (c_whole HS.out HBB.out HLL.out (by omega)) ?_; rintro v_ W_ ⟨⟨r15, rfl, h15a, h15b⟩, HP⟩; clear HS; have HS := Aside0.mk HP; clear HP) | ((with_reducible refine gate_dst (N := 19) rfl ?_); refine call_anyR rfl rfl Try.func42 (by kernel_rfl) rfl (by (try simp only [List.map_toArray, List.map_cons, List.map_nil]); first | done | rfl) (c_pick HS.out HBB.out HLL.out (by omega) 16 (by decide) (by decide)) ?_; rintro v_ W_ ⟨⟨r19, rfl, h19a, h19b⟩, HP⟩; clear HS; have HS := Aside0.mk HP; clear HP) | ((with_reducible refine gate_dst (N := 21) rfl ?_); refine call_anyR rfl rfl Try.func51 (by kernel_rfl) rfl (by (try simp only [List.map_toArray, List.map_cons, List.map_nil]); first | done | rfl) (c_word HS.out HBB.out HLL.out (by omega)) ?_; rintro v_ W_ ⟨⟨r21, rfl, h21a, h21b⟩, HP⟩; clear HS; have HS := Aside0.mk HP; clear HP) | ((with_reducible refine gate_dst (N := 27) rfl ?_); refine call_anyR rfl rfl Try.func42 (by kernel_rfl) rfl (by (try simp only [List.map_toArray, List.map_cons, List.map_nil]); first | done | rfl) (c_pick HS.out HBB.out HLL.out (by omega) 16 (by decide) (by decide)) ?_; rintro v_ W_ ⟨⟨r27, rfl, h27a, h27b⟩, HP⟩; clear HS; have HS := Aside0.mk HP; clear HP) | ((with_reducible refine gate_dst (N := 29) rfl ?_); refine call_anyR rfl rfl Try.func42 (by kernel_rfl) rfl (by (try simp only [List.map_toArray, List.map_cons, List.map_nil]); first | done | rfl) (c_pick HS.out HBB.out HLL.out (by omega) 2 (by decide) (by decide)) ?_; rintro v_ W_ ⟨⟨r29, rfl, h29a, h29b⟩, HP⟩; clear HS; have HS := Aside0.mk HP; clear HP) | (first
      | ((with_reducible refine gate_dst (N := 16) rfl ?_); (with_reducible refine field_at rfl rfl rfl fo44_7 ?_); (try simp only [toNat_16, toNat_12, Int.toNat_natCast, Nat.zero_add, Nat.add_zero, Nat.mul_one]))
      | ((with_reducible refine gate_dst (N := 17) rfl ?_); (with_reducible refine index_at rfl rfl rfl rfl ar32 (by omega) (by omega) ?_); (try simp only [toNat_16, toNat_12, Int.toNat_natCast, Nat.zero_add, Nat.add_zero, Nat.mul_one]))
      | ((with_reducible refine gate_store (t := 31) (p := 17) rfl ?_); (with_reducible refine store_oneR HS.out rfl rfl rfl on31 rfl (by first | exact eval_tmp rfl | exact eval_const) (by first | exact at0 | exact at1 | exact at2 | exact at3 | exact at4 | exact at5 | exact at6) (by with_reducible first | exact set_D _ _ | exact put_D _ _ (by omega) _) (by simp only [mc_size, tc_size, cc_size, dc_size, rc_size, List.size_toArray, List.length_cons, List.length_nil]; omega) rfl rfl ?_); intro W_ HP; clear HS; have HS := Aside0.mk HP; clear HP; (try simp only [List.set_cons_zero, List.set_cons_succ] at HS))
      | ((with_reducible refine gate_dst (N := 23) rfl ?_); (with_reducible refine field_at rfl rfl rfl fo44_5 ?_); (try simp only [toNat_16, toNat_12, Int.toNat_natCast, Nat.zero_add, Nat.add_zero, Nat.mul_one]))
      | ((with_reducible refine gate_dst (N := 24) rfl ?_); (with_reducible refine index_at rfl rfl rfl rfl ar40 (by omega) (by omega) ?_); (try simp only [toNat_16, toNat_12, Int.toNat_natCast, Nat.zero_add, Nat.add_zero, Nat.mul_one]))
      | ((with_reducible refine gate_dst (N := 25) rfl ?_); (with_reducible refine field_at rfl rfl rfl fo39_1 ?_); (try simp only [toNat_16, toNat_12, Int.toNat_natCast, Nat.zero_add, Nat.add_zero, Nat.mul_one]))
      | ((with_reducible refine gate_store (t := 24) (p := 25) rfl ?_); (with_reducible refine store_oneR HS.out rfl rfl rfl on24 rfl (by first | exact eval_tmp rfl | exact eval_const) (by first | exact at0 | exact at1 | exact at2 | exact at3 | exact at4 | exact at5 | exact at6) (by with_reducible first | exact set_T _ _ | exact put_T1 _ _ (by omega) _ | exact put_T _ _ (by omega) _ _) (by simp only [mc_size, tc_size, cc_size, dc_size, rc_size, List.size_toArray, List.length_cons, List.length_nil]; omega) rfl rfl ?_); intro W_ HP; clear HS; have HS := Aside0.mk HP; clear HP; (try simp only [List.set_cons_zero, List.set_cons_succ] at HS))
      | ((with_reducible refine gate_dst (N := 31) rfl ?_); (with_reducible refine field_at rfl rfl rfl fo44_6 ?_); (try simp only [toNat_16, toNat_12, Int.toNat_natCast, Nat.zero_add, Nat.add_zero, Nat.mul_one]))
      | ((with_reducible refine gate_dst (N := 32) rfl ?_); (with_reducible refine index_at rfl rfl rfl rfl ar42 (by omega) (by omega) ?_); (try simp only [toNat_16, toNat_12, Int.toNat_natCast, Nat.zero_add, Nat.add_zero, Nat.mul_one]))
      | ((with_reducible refine gate_dst (N := 33) rfl ?_); (with_reducible refine field_at rfl rfl rfl fo41_1 ?_); (try simp only [toNat_16, toNat_12, Int.toNat_natCast, Nat.zero_add, Nat.add_zero, Nat.mul_one]))
      | ((with_reducible refine gate_store (t := 4) (p := 33) rfl ?_); (with_reducible refine store_oneR HS.out rfl rfl rfl on4 rfl (by first | exact eval_tmp rfl | exact eval_const) (by first | exact at0 | exact at1 | exact at2 | exact at3 | exact at4 | exact at5 | exact at6) (by with_reducible first | exact set_C _ _ | exact put_C1 _ _ (by omega) _ | exact put_C _ _ (by omega) _ _ _) (by simp only [mc_size, tc_size, cc_size, dc_size, rc_size, List.size_toArray, List.length_cons, List.length_nil]; omega) rfl rfl ?_); intro W_ HP; clear HS; have HS := Aside0.mk HP; clear HP; (try simp only [List.set_cons_zero, List.set_cons_succ] at HS)))); (try simp only [Act.put, List.setIfInBounds_toArray, List.set_cons_zero, List.set_cons_succ]))
      go_roundw
      case rel =>
        refine ⟨i + 1, _, by go_num, by omega, ?_, ⟨HS.out.mono (by omega)⟩⟩
        exact ⟨wf.X, wf.Y, wf.M, wf.S, wf.E, upd_all (p := fun x : Bool × Int => 0 ≤ x.2 ∧ x.2 < 65536) wf.T (w16r _), upd_all (p := fun x : Bool × Bool × Int => 0 ≤ x.2.2 ∧ x.2.2 < 65536) wf.C (wf.C _ (by omega)), upd_all (p := fun x : Int => -32768 ≤ x ∧ x < 32768) wf.D ⟨h15a, h15b⟩, wf.R, wf.Time⟩
      case measure => simp [intOf]; omega
    · go_wp2_with (first | (first
      | ((with_reducible refine gate_dst (N := 34) rfl ?_); (with_reducible refine load_seg HS.out.pr rfl rfl ag44 rfl (by first | exact at0 | exact at1 | exact at2 | exact at3 | exact at4 | exact at5 | exact at6) (by with_reducible first | exact tc_el _ _ (by omega) | exact cc_el _ _ (by omega) | exact whole _) (by with_reducible first | exact mc_size _ | exact tc_size _ | exact cc_size _ | exact dc_size _ | exact rc_size _ | exact sz1 | exact sz2 | exact sz3 | exact sz4) ?_); (try simp only [Act.put, List.setIfInBounds_toArray, List.set_cons_zero, List.set_cons_succ]))
      | ((with_reducible refine gate_store (t := 44) (p := 2) rfl ?_); (with_reducible refine store_segR HS.out rfl rfl rfl ag44 rfl (by first | exact eval_tmp rfl | exact eval_const) (by first | exact at0 | exact at1 | exact at2 | exact at3 | exact at4 | exact at5 | exact at6) (by with_reducible first | exact tc_put _ _ (by omega) _ _ | exact cc_put _ _ (by omega) _ _ _ | exact dc_put _ _ (by omega) _ | exact rc_put _ _ (by omega) _ | exact lay_mc _ _ | exact lay_tc _ _ | exact lay_cc _ _ | exact lay_dc _ _ | exact lay_rc _ _ | exact lay2_0 | exact lay2_1 | exact lay3_0 | exact lay3_1 | exact lay3_2 | exact lay2_w | exact lay3_w) (by with_reducible first | exact mc_size _ | exact tc_size _ | exact cc_size _ | exact dc_size _ | exact rc_size _ | exact sz1 | exact sz2 | exact sz3 | exact sz4) (by simp only [mc_size, tc_size, cc_size, dc_size, rc_size, List.size_toArray, List.length_cons, List.length_nil]; omega) (by first | (with_reducible first | exact mc_one _ | exact tc_one _ | exact cc_one _ | exact dc_one _ | exact rc_one _ | exact t2_one _ _ | exact t3_one _ _ _) | (simp [Value.oneCell']; done)) ?_); intro W_ HP; clear HS; have HS := Aside0.mk HP; clear HP; (try simp only [List.set_cons_zero, List.set_cons_succ] at HS))))
      refine ret_agg HS.out.pr (by rfl) (by rfl) (by rfl) (by first | exact at0 | exact at1 | exact at2 | exact at3 | exact at4 | exact at5 | exact at6) ag44 (by with_reducible first | exact mc_size _ | exact tc_size _ | exact cc_size _ | exact dc_size _ | exact rc_size _ | exact sz1 | exact sz2 | exact sz3 | exact sz4) ?_
      refine ⟨_, rfl, ⟨_, rfl, wf⟩, HS.out.drop.drop.mono (by omega)⟩
end

theorem PrR_back {w W W' : World} {L : List (Nat × Array Value)} {g : Nat} {b : List Int} {q : Int} (H0 : Priv w W L) (H : PrR w W W' [] g b q) (hne : ∀ x ∈ L, x.1 ≠ g) : Priv w W' L :=
  ⟨H.pr.below, H0.ge, fun x hx => by
    obtain ⟨t, h⟩ := H0.blk x hx
    exact ⟨t, (H.kp.2 x.1 (H0.lt hx) (hne x hx) (by simp)).trans h⟩, H0.nd⟩
theorem c_open {w W : World} {L : List (Nat × Array Value)} (HS : Priv w W L) (hz : ∀ x ∈ L, x.2.size ≠ 2) {A0 : Option Addr} {c0 : Nat} {l : List Int} (hC : (Kd.int .u8).C w A0 l.length l) (hc : l.length ≤ c0) (hb : Tell.Bytes l) (hl : l.length ≤ 1048576) : Calls Try.prog 40 #[.slice A0 l.length c0] W (fun e W' => ∃ v, e = .returned v ∧ ((∃ (g : Nat) (b : List Int), v = .pointer (some ⟨g, 0, none⟩) ∧ Tell.Bytes b ∧ b.length ≤ 2000 ∧ PrR w W' W' [] g b 0 ∧ ∀ x ∈ L, x.1 ≠ g) ∧ Priv w W' L)) := by
  obtain ⟨b, hf, hbb, hbl⟩ := open_tells l hb hl
  refine (F.spec_l26Open.calls A0 c0 l b 0 w W HS.below hC hc hf).mono ?_
  rintro e W' ⟨g, rfl, hI, hB, hB2⟩
  have HS' := HS.call hB2
  refine ⟨_, rfl, ⟨g, b, rfl, hbb, hbl, PrR.begin (by omega) (by omega) hI hB, fun x hx he => ?_⟩, HS'⟩
  obtain ⟨t, h⟩ := HS'.blk x hx
  obtain ⟨A1, c1, hb1, _, _⟩ := hI
  rw [he, hb1] at h
  have h2 := Option.some.inj h
  have h3 : (#[.slice A1 b.length c1, .int .i64 0] : Array Value) = x.2 := by injection h2
  exact hz x hx (by rw [← h3]; rfl)
set_option maxHeartbeats 4000000 in
set_option maxRecDepth 100000 in
theorem c_DrawKeptMake (l : List Int) (A0 : Option Addr) (c0 : Nat) (w : World) (hC : (Kd.int .u8).C w A0 l.length l) (hc : l.length ≤ c0) (hb : Tell.Bytes l) (hl : l.length ≤ 1048576) : Calls Try.prog 19 #[.slice A0 l.length c0] w (Ret w (fun v => ∃ m : Mm, v = .agg (mc m) ∧ m.wf)) := by
  have HS := Aside0.mk (Priv.nil w)
  have HC := Aside0.mk hC
  clear hC
  go_enter Try.func19, Try.ntmps19
  go_wp2_with (first
      | ((with_reducible refine gate_dst (N := 2) rfl ?_); (with_reducible refine alloc_new HS.out rfl rfl ze44 ?_); intro g2 W2_ HP; clear HS; have HS := Aside0.mk HP; clear HP; (try simp only [Act.put, List.setIfInBounds_toArray, List.set_cons_zero, List.set_cons_succ])))
  go_at_call 40
  refine (c_open HS.out (by intro x hx; rw [List.mem_singleton] at hx; subst hx; rw [mc_size]; decide) HC.out hc hb hl).mono ?_
  rintro e_ W_ ⟨v_, rfl, ⟨g, b, rfl, hbb, hbl, HR, hne⟩, HP⟩
  clear HS; have HS := Aside0.mk HP; clear HP
  go_wp2_with (first | (go_at_call 39; refine (c_l19Mem HR hbb hbl (by decide)).mono ?_; rintro e_ W2_ ⟨v_, rfl, ⟨m, rfl, wf⟩, HR2⟩; have HP := PrR_back HS.out HR2 hne; clear HS; have HS := Aside0.mk HP; clear HP) | (first
      | ((with_reducible refine gate_dst (N := 2) rfl ?_); (with_reducible refine alloc_new HS.out rfl rfl ze44 ?_); intro g2 W2_ HP; clear HS; have HS := Aside0.mk HP; clear HP; (try simp only [Act.put, List.setIfInBounds_toArray, List.set_cons_zero, List.set_cons_succ]))
      | ((with_reducible refine gate_store (t := 44) (p := 2) rfl ?_); (with_reducible refine store_seg HS.out rfl rfl rfl ag44 rfl (by first | exact eval_tmp rfl | exact eval_const) (by first | exact at0 | exact at1 | exact at2 | exact at3 | exact at4 | exact at5 | exact at6) (by with_reducible first | exact tc_put _ _ (by omega) _ _ | exact cc_put _ _ (by omega) _ _ _ | exact dc_put _ _ (by omega) _ | exact rc_put _ _ (by omega) _ | exact lay_mc _ _ | exact lay_tc _ _ | exact lay_cc _ _ | exact lay_dc _ _ | exact lay_rc _ _ | exact lay2_0 | exact lay2_1 | exact lay3_0 | exact lay3_1 | exact lay3_2 | exact lay2_w | exact lay3_w) (by with_reducible first | exact mc_size _ | exact tc_size _ | exact cc_size _ | exact dc_size _ | exact rc_size _ | exact sz1 | exact sz2 | exact sz3 | exact sz4) (by simp only [mc_size, tc_size, cc_size, dc_size, rc_size, List.size_toArray, List.length_cons, List.length_nil]; omega) (by first | (with_reducible first | exact mc_one _ | exact tc_one _ | exact cc_one _ | exact dc_one _ | exact rc_one _ | exact t2_one _ _ | exact t3_one _ _ _) | (simp [Value.oneCell']; done)) ?_); intro W_ HP; clear HS; have HS := Aside0.mk HP; clear HP; (try simp only [List.set_cons_zero, List.set_cons_succ] at HS))))
  refine ret_agg HS.out (by rfl) (by rfl) (by rfl) (by first | exact at0 | exact at1 | exact at2 | exact at3 | exact at4 | exact at5 | exact at6) ag44 (by with_reducible first | exact mc_size _ | exact tc_size _ | exact cc_size _ | exact dc_size _ | exact rc_size _ | exact sz1 | exact sz2 | exact sz3 | exact sz4) ?_
  exact ⟨_, rfl, ⟨_, rfl, wf⟩, HS.out.below⟩



theorem order_ne (x : Nat) : (FloatKind.f64.format.order x x = none) ∨ (FloatKind.f64.format.order x x = some .eq) := order_self x
set_option maxHeartbeats 4000000 in
set_option maxRecDepth 100000 in
theorem c_IsNaN (x : Nat) (w : World) : Calls Try.prog 52 #[.float .f64 x] w (fun e w' => e = .returned (.bool (decide (FloatKind.f64.format.order x x = none))) ∧ w' = w) := by
  rcases order_self x with h | h
  · have hn : (FloatKind.f64.format.order x x != some .eq) = true := by rw [h]; rfl
    have hd : decide (FloatKind.f64.format.order x x = none) = true := decide_eq_true h
    rw [hd]
    clear h hd
    go_enter Try.func52, Try.ntmps52
    go_wp2
    go_ret
    exact ⟨rfl, rfl⟩
  · have hn : (FloatKind.f64.format.order x x != some .eq) = false := by rw [h]; rfl
    have hd : decide (FloatKind.f64.format.order x x = none) = false := decide_eq_false (by rw [h]; simp)
    rw [hd]
    clear h hd
    go_enter Try.func52, Try.ntmps52
    go_wp2
    go_ret
    exact ⟨rfl, rfl⟩
theorem run_bits (x : Nat) (w : World) : (callFunc 53 #[.float .f64 x]).run Try.prog w = .ok (.value (.int .u64 x)) w := by
  rw [run_callFunc_extern (e := Extern.MathFloatBits.float64bits) Try.func53 (by kernel_rfl) (by kernel_rfl) (by kernel_rfl) (by kernel_rfl)]
  rfl
set_option maxHeartbeats 4000000 in
set_option maxRecDepth 100000 in
theorem c_realSame (x : Nat) (w : World) : Calls Try.prog 41 #[.float .f64 x, .float .f64 x] w (fun e w' => e = .returned (.bool true) ∧ w' = w) := by
  have hfb := run_bits x
  cases hd : decide (FloatKind.f64.format.order x x = none)
  · go_enter Try.func41, Try.ntmps41
    go_wp2_with (go_at_call 52; refine (c_IsNaN x _).mono ?_; rintro e_ W_ ⟨rfl, rfl⟩)
    go_ret
    exact ⟨rfl, rfl⟩
  · go_enter Try.func41, Try.ntmps41
    go_wp2_with (go_at_call 52; refine (c_IsNaN x _).mono ?_; rintro e_ W_ ⟨rfl, rfl⟩)
    go_ret
    exact ⟨rfl, rfl⟩



section
variable {P : Program} {w : World} {t e : TypeId} {cs seg xs : Array Value} {off n d : Nat} {v a : Value} {f : Field} {fs : List Field}
theorem part_one (hz : oneT P t = true) (h : cs[off]? = some v) : (part t cs off).run P w = .ok v w := by
  obtain ⟨h1, _⟩ := isOne_of (W := w) hz
  simp [part, h1, h]
theorem part_seg (hz : aggSize P t = some n) (hn : seg.size = n) (hfit : off + n ≤ cs.size) (h : ∀ j, j < seg.size → cs[off + j]? = seg[j]?) : (part t cs off).run P w = .ok (.agg seg) w := by
  obtain ⟨a1, a2⟩ := isAgg_of (W := w) hz
  have he : cs.extract off (off + n) = seg := by
    apply Array.ext_getElem?
    intro i
    rw [Array.getElem?_extract]
    by_cases hi : i < n
    · rw [if_pos (by omega), h i (by omega)]
    · rw [if_neg (by omega), Array.getElem?_eq_none (by omega)]
  simp [part, a1, a2, he]
theorem eqf_t (hn : (f.name == "_") = false) (ha : (part f.type xs f.offset).run P w = .ok a w) (he : (Op.equalIn d f.type a a).run P w = .ok true w) (hr : (Op.eqFields d xs xs fs).run P w = .ok true w) : (Op.eqFields d xs xs (f :: fs)).run P w = .ok true w := by
  have hn' : f.name ≠ "_" := by simpa using hn
  rw [Op.eqFields]
  simp only [if_pos hn', Sem.run_bind, ha, he, Result.andThen_ok]
  simpa using hr
theorem items_t (c : Nat) : ∀ is : List Nat, (∀ i ∈ is, ∃ a, (part e xs (i * c)).run P w = .ok a w ∧ (Op.equalIn d e a a).run P w = .ok true w) → (Op.eqItems d e c xs xs is).run P w = .ok true w
  | [], _ => by simp [Op.eqItems]
  | i :: is, h => by
    obtain ⟨a, h1, h2⟩ := h i (by simp)
    rw [Op.eqItems]
    simp only [Sem.run_bind, h1, h2, Result.andThen_ok]
    simpa using items_t c is (fun j hj => h j (by simp [hj]))
theorem arr_t {n : Nat} {i : TypeInfo} (hu : P.underlying t = some (.array n e)) (hi : P.info? e = some i) (c : Nat) (hc : P.cellsOf e = c) (h : ∀ j, j < n → ∃ a, (part e xs (j * c)).run P w = .ok a w ∧ (Op.equalIn d e a a).run P w = .ok true w) : (Op.equalIn (d + 1) t (.agg xs) (.agg xs)).run P w = .ok true w := by
  rw [run_equalIn_array (i := i) w d xs xs hu hi, hc]
  exact items_t c _ (fun j hj => h j (List.mem_range.1 hj))
theorem int_t (k : IntKind) (x : Int) (h : P.underlying t = some (.int k)) : (Op.equalIn (d + 1) t (.int k x) (.int k x)).run P w = .ok true w := by
  rw [run_equalIn_int w d t k k x x h]; simp
theorem bool_t (x : Bool) (h : P.underlying t = some .bool) : (Op.equalIn (d + 1) t (.bool x) (.bool x)).run P w = .ok true w := by
  rw [run_equalIn_bool w d t x x h]; simp
theorem zero_t (h : P.underlying t = some (.float .f64)) : (Op.equalIn (d + 1) t (.float .f64 0) (.float .f64 0)).run P w = .ok true w := by
  simp [Op.equalIn, run_underlying h]; rfl
end

theorem eq_tm (d : Nat) (x : Bool) (y : Int) (w : World) : (Op.equalIn (d + 2) 39 (.agg #[.bool x, .int .u16 y]) (.agg #[.bool x, .int .u16 y])).run Try.prog w = .ok true w :=
  eqA_of Try.underlying39 (by kernel_rfl) (eqf_t rfl (part_one on4 (off := 0) rfl) (bool_t _ Try.underlying4) (eqf_t rfl (part_one on24 (off := 1) rfl) (int_t .u16 _ Try.underlying24) (eqf_nil)))
theorem eq_cm (d : Nat) (x y : Bool) (z : Int) (w : World) : (Op.equalIn (d + 2) 41 (.agg #[.bool x, .bool y, .int .u16 z]) (.agg #[.bool x, .bool y, .int .u16 z])).run Try.prog w = .ok true w :=
  eqA_of Try.underlying41 (by kernel_rfl) (eqf_t rfl (part_one on4 (off := 0) rfl) (bool_t _ Try.underlying4) (eqf_t rfl (part_one on4 (off := 1) rfl) (bool_t _ Try.underlying4) (eqf_t rfl (part_one on24 (off := 2) rfl) (int_t .u16 _ Try.underlying24) (eqf_nil))))
theorem eq_T (d : Nat) (T : Nat → Bool × Int) (w : World) : (Op.equalIn (d + 3) 40 (.agg (tc T)) (.agg (tc T))).run Try.prog w = .ok true w :=
  arr_t Try.underlying40 (i := _) (by rfl) 2 (by kernel_rfl) (fun j hj => ⟨_, part_seg ag39 rfl (by rw [tc_size]; omega) (tc_el T j hj), eq_tm d _ _ w⟩)

theorem eq_C (d : Nat) (T : Nat → Bool × Bool × Int) (w : World) : (Op.equalIn (d + 3) 42 (.agg (cc T)) (.agg (cc T))).run Try.prog w = .ok true w :=
  arr_t Try.underlying42 (i := _) (by rfl) 3 (by kernel_rfl) (fun j hj => ⟨_, part_seg ag41 rfl (by rw [cc_size]; omega) (cc_el T j hj), eq_cm d _ _ _ w⟩)
theorem eq_D (d : Nat) (T : Nat → Int) (w : World) : (Op.equalIn (d + 2) 32 (.agg (dc T)) (.agg (dc T))).run Try.prog w = .ok true w :=
  arr_t Try.underlying32 (i := _) (by rfl) 1 (by kernel_rfl) (fun j hj => ⟨_, part_one on31 (dc_get T (j * 1) (by omega)), int_t .i16 _ Try.underlying31⟩)
theorem eq_R0 (d : Nat) (w : World) : (Op.equalIn (d + 2) 34 (.agg (rc fun _ => 0)) (.agg (rc fun _ => 0))).run Try.prog w = .ok true w :=
  arr_t Try.underlying34 (i := _) (by rfl) 1 (by kernel_rfl) (fun j hj => ⟨_, part_one on33 (rc_get (fun _ => 0) (j * 1) (by omega)), zero_t Try.underlying33⟩)

theorem eq_Mem0 (d : Nat) (m : Mm) (w : World) : (Op.equalIn (d + 4) 44 (.agg (mc { m with R := fun _ => 0 })) (.agg (mc { m with R := fun _ => 0 }))).run Try.prog w = .ok true w :=
  eqA_of Try.underlying43 (by kernel_rfl) (eqf_t rfl (part_one on22 (get_X _)) (int_t .u32 _ Try.underlying22) (eqf_t rfl (part_one on22 (get_Y _)) (int_t .u32 _ Try.underlying22) (eqf_t rfl (part_one on23 (get_M _)) (int_t .u64 _ Try.underlying23) (eqf_t rfl (part_one on24 (get_S _)) (int_t .u16 _ Try.underlying24) (eqf_t rfl (part_one on22 (get_E _)) (int_t .u32 _ Try.underlying22) (eqf_t rfl (part_seg ag40 (tc_size _) (by rw [mc_size]; decide) (get_T _)) (eq_T _ _ _) (eqf_t rfl (part_seg ag42 (cc_size _) (by rw [mc_size]; decide) (get_C _)) (eq_C _ _ _) (eqf_t rfl (part_seg ag32 (dc_size _) (by rw [mc_size]; decide) (get_D _)) (eq_D _ _ _) (eqf_t rfl (part_seg ag34 (rc_size _) (by rw [mc_size]; decide) (get_R _)) (eq_R0 _ _) (eqf_t rfl (part_one on22 (get_Time _)) (int_t .u32 _ Try.underlying22) (eqf_t rfl (part_one on4 (get_Ran _)) (bool_t _ Try.underlying4) (eqf_t rfl (part_one on4 (get_Fault _)) (bool_t _ Try.underlying4) (eqf_nil)))))))))))))



section
variable {P : Program} {ops : Array Oper} {rest : List Oper} {o : Oper} {a : Act} {Q : Exit → Act → World → Prop} {W : World} {cs zc : Array Value} {ty e : TypeId} {x y : Operand} {v : Value}
def arrOne (P : Program) (t : TypeId) : Option Nat :=
  match P.underlying t with
  | some (.array n e) => if oneT P e then some n else none
  | _ => none
theorem index_val {m : Nat} {k : IntKind} {j : Int} (hgd : o.guard = none) (ho : o.op = .index ty x y) (hx : a.eval x = .agg cs) (hy : a.eval y = .int k j) (hf : arrOne P ty = some m) (h0 : 0 ≤ j) (h1 : j < m) (hs : cs[j.toNat]? = some v) (h : wpList P ops Q rest (a.put o.dst v) W) : wpList P ops Q (o :: rest) a W := by
  refine ev_value hgd ?_ h
  unfold arrOne at hf
  cases hu : P.underlying ty with
  | none => rw [hu] at hf; cases hf
  | some d =>
    rw [hu] at hf
    cases d <;> simp at hf
    rename_i n' e
    obtain ⟨hz, rfl⟩ := hf
    obtain ⟨a1, a2⟩ := isOne_of (W := W) hz
    unfold execOp
    simp [ho, hx, hy, Instr.index, asIntOf, run_underlying hu, h0, h1, part, a1, a2, hs]
theorem build_arr (hgd : o.guard = none) (ho : o.op = .build ty #[]) (hu : ∃ n e, P.underlying ty = some (.array n e) ∧ ∃ c, ∀ W : World, (sizeOf e).run P W = .ok c W) (hz : zeroOf P ty = some zc) (h : wpList P ops Q rest (a.put o.dst (.agg zc)) W) : wpList P ops Q (o :: rest) a W := by
  refine ev_value hgd ?_ h
  obtain ⟨n, e, hu, c, hs⟩ := hu
  unfold zeroOf at hz
  cases hi : P.info? ty with
  | none => rw [hi] at hz; cases hz
  | some ii =>
    rw [hi] at hz
    cases hzz : ii.zero with
    | none => simp [hzz] at hz
    | some z =>
      simp [hzz] at hz
      subst hz
      have hz' : (zeroValue ty).run P W = .ok z W := by simp [zeroValue, typeInfo, hi, hzz]
      unfold execOp
      simp [ho, Instr.build, hz', run_underlying hu, hs, Instr.fill]
end

theorem eql_mem {ops : Array Oper} {rest : List Oper} {o : Oper} {a : Act} {Q : Exit → Act → World → Prop} {W : World} {x y : Operand} {tr : TypeId} {m : Mm} (hgd : o.guard = none) (ho : o.op = .binOp .eql 44 x y tr) (hx : a.eval x = .agg (mc { m with R := fun _ => 0 })) (hy : a.eval y = .agg (mc { m with R := fun _ => 0 })) (h : wpList Try.prog ops Q rest (a.put o.dst (.bool true)) W) : wpList Try.prog ops Q (o :: rest) a W := by
  refine ev_value hgd ?_ h
  have hg : ∀ x y, (eqGuard .eql 44 x y (.agg (mc { m with R := fun _ => 0 })) (.agg (mc { m with R := fun _ => 0 }))).run Try.prog W = .ok () W := fun x y => run_eqGuard_agg W .eql 44 x y _ _ (by kernel_rfl)
  have he : (binOp .eql 44 (.agg (mc { m with R := fun _ => 0 })) (.agg (mc { m with R := fun _ => 0 }))).run Try.prog W = .ok (.bool true) W := by rw [run_eql_struct, eq_Mem0 9996 m W]; rfl
  unfold execOp
  simp [ho, hx, hy, hg, he]

theorem size33 (W : World) : (sizeOf 33).run Try.prog W = .ok 1 W := by kernel_rfl

theorem ao34 : arrOne Try.prog 34 = some 16 := by kernel_rfl

set_option maxHeartbeats 4000000 in
set_option maxRecDepth 100000 in
theorem c_MemSame (m : Mm) (w : World) : Calls Try.prog 20 #[.agg (mc m), .agg (mc m)] w (Ret w (· = .bool true)) := by
  have HS := Aside0.mk (Priv.nil w)
  go_enter Try.func20, Try.ntmps20
  go_wp2_with ((first
      | ((with_reducible refine gate_dst (N := 2) rfl ?_); (with_reducible refine box_new HS.out rfl rfl (by first | exact eval_tmp rfl | exact eval_const) ?_); intro g2 W2_ HP; clear HS; have HS := Aside0.mk HP; clear HP)
      | ((with_reducible refine gate_dst (N := 3) rfl ?_); (with_reducible refine box_new HS.out rfl rfl (by first | exact eval_tmp rfl | exact eval_const) ?_); intro g3 W3_ HP; clear HS; have HS := Aside0.mk HP; clear HP)
      | ((with_reducible refine gate_dst (N := 7) rfl ?_); (with_reducible refine field_at rfl rfl rfl fo44_8 ?_); (try simp only [toNat_16, toNat_12, Int.toNat_natCast, Nat.zero_add, Nat.add_zero, Nat.mul_one]))
      | ((with_reducible refine gate_dst (N := 8) rfl ?_); (with_reducible refine load_seg HS.out rfl rfl ag34 rfl (by first | exact at0 | exact at1 | exact at2 | exact at3 | exact at4 | exact at5 | exact at6) (by with_reducible exact get_R _) (by with_reducible first | exact mc_size _ | exact tc_size _ | exact cc_size _ | exact dc_size _ | exact rc_size _ | exact sz1 | exact sz2 | exact sz3 | exact sz4) ?_))
      | ((with_reducible refine gate_store (t := 34) (p := 23) rfl ?_); (with_reducible refine store_seg HS.out rfl rfl rfl ag34 rfl (by first | exact eval_tmp rfl | exact eval_const) (by first | exact at0 | exact at1 | exact at2 | exact at3 | exact at4 | exact at5 | exact at6) (by with_reducible first | exact set_R _ _ | exact put_R _ _ (by omega) _) (by with_reducible first | exact mc_size _ | exact tc_size _ | exact cc_size _ | exact dc_size _ | exact rc_size _ | exact sz1 | exact sz2 | exact sz3 | exact sz4) (by simp only [mc_size, tc_size, cc_size, dc_size, rc_size, List.size_toArray, List.length_cons, List.length_nil]; omega) (by first | (with_reducible first | exact mc_one _ | exact tc_one _ | exact cc_one _ | exact dc_one _ | exact rc_one _ | exact t2_one _ _ | exact t3_one _ _ _) | (simp [Value.oneCell']; done)) ?_); intro W_ HP; clear HS; have HS := Aside0.mk HP; clear HP; (try simp only [List.set_cons_zero, List.set_cons_succ] at HS))
      | ((with_reducible refine gate_store (t := 34) (p := 24) rfl ?_); (with_reducible refine store_seg HS.out rfl rfl rfl ag34 rfl (by first | exact eval_tmp rfl | exact eval_const) (by first | exact at0 | exact at1 | exact at2 | exact at3 | exact at4 | exact at5 | exact at6) (by with_reducible first | exact set_R _ _ | exact put_R _ _ (by omega) _) (by with_reducible first | exact mc_size _ | exact tc_size _ | exact cc_size _ | exact dc_size _ | exact rc_size _ | exact sz1 | exact sz2 | exact sz3 | exact sz4) (by simp only [mc_size, tc_size, cc_size, dc_size, rc_size, List.size_toArray, List.length_cons, List.length_nil]; omega) (by first | (with_reducible first | exact mc_one _ | exact tc_one _ | exact cc_one _ | exact dc_one _ | exact rc_one _ | exact t2_one _ _ | exact t3_one _ _ _) | (simp [Value.oneCell']; done)) ?_); intro W_ HP; clear HS; have HS := Aside0.mk HP; clear HP; (try simp only [List.set_cons_zero, List.set_cons_succ] at HS))); (try simp only [Act.put, List.setIfInBounds_toArray, List.set_cons_zero, List.set_cons_succ]))
  go_loopw [9] (fun v9 W => ∃ (k : Nat), v9 = .int .i64 k ∧ k ≤ 16 ∧ Aside0 (Priv w W [(g3, mc m), (g2, mc m)])) (fun v9 _ => 16 - (intOf v9).toNat)
  case atStart => exact ⟨0, rfl, by omega, HS⟩
  case round =>
    clear HS
    obtain ⟨k, rfl, hk, HS⟩ := hrel
    by_cases hlt : k < 16
    · go_wp2_with ((first | ((with_reducible refine gate_dst (N := 12) rfl ?_); refine index_val rfl rfl rfl rfl ao34 (Int.natCast_nonneg _) (by omega) (rc_get _ _ (by omega)) ?_) | (go_at_call 41; refine (c_realSame _ _).mono ?_; rintro e_ W_ ⟨rfl, rfl⟩) | (first
      | ((with_reducible refine gate_dst (N := 15) rfl ?_); (with_reducible refine field_at rfl rfl rfl fo44_8 ?_); (try simp only [toNat_16, toNat_12, Int.toNat_natCast, Nat.zero_add, Nat.add_zero, Nat.mul_one]))
      | ((with_reducible refine gate_dst (N := 16) rfl ?_); (with_reducible refine index_at rfl rfl rfl rfl ar34 (by omega) (by omega) ?_); (try simp only [toNat_16, toNat_12, Int.toNat_natCast, Nat.zero_add, Nat.add_zero, Nat.mul_one]))
      | ((with_reducible refine gate_dst (N := 17) rfl ?_); (with_reducible refine load_one HS.out rfl rfl on33 rfl (by first | exact at0 | exact at1 | exact at2 | exact at3 | exact at4 | exact at5 | exact at6) (by with_reducible exact el_R _ _ (by omega)) ?_))
      | ((with_reducible refine gate_store (t := 34) (p := 23) rfl ?_); (with_reducible refine store_seg HS.out rfl rfl rfl ag34 rfl (by first | exact eval_tmp rfl | exact eval_const) (by first | exact at0 | exact at1 | exact at2 | exact at3 | exact at4 | exact at5 | exact at6) (by with_reducible first | exact set_R _ _ | exact put_R _ _ (by omega) _) (by with_reducible first | exact mc_size _ | exact tc_size _ | exact cc_size _ | exact dc_size _ | exact rc_size _ | exact sz1 | exact sz2 | exact sz3 | exact sz4) (by simp only [mc_size, tc_size, cc_size, dc_size, rc_size, List.size_toArray, List.length_cons, List.length_nil]; omega) (by first | (with_reducible first | exact mc_one _ | exact tc_one _ | exact cc_one _ | exact dc_one _ | exact rc_one _ | exact t2_one _ _ | exact t3_one _ _ _) | (simp [Value.oneCell']; done)) ?_); intro W_ HP; clear HS; have HS := Aside0.mk HP; clear HP; (try simp only [List.set_cons_zero, List.set_cons_succ] at HS))
      | ((with_reducible refine gate_store (t := 34) (p := 24) rfl ?_); (with_reducible refine store_seg HS.out rfl rfl rfl ag34 rfl (by first | exact eval_tmp rfl | exact eval_const) (by first | exact at0 | exact at1 | exact at2 | exact at3 | exact at4 | exact at5 | exact at6) (by with_reducible first | exact set_R _ _ | exact put_R _ _ (by omega) _) (by with_reducible first | exact mc_size _ | exact tc_size _ | exact cc_size _ | exact dc_size _ | exact rc_size _ | exact sz1 | exact sz2 | exact sz3 | exact sz4) (by simp only [mc_size, tc_size, cc_size, dc_size, rc_size, List.size_toArray, List.length_cons, List.length_nil]; omega) (by first | (with_reducible first | exact mc_one _ | exact tc_one _ | exact cc_one _ | exact dc_one _ | exact rc_one _ | exact t2_one _ _ | exact t3_one _ _ _) | (simp [Value.oneCell']; done)) ?_); intro W_ HP; clear HS; have HS := Aside0.mk HP; clear HP; (try simp only [List.set_cons_zero, List.set_cons_succ] at HS)))); (try simp only [Act.put, List.setIfInBounds_toArray, List.set_cons_zero, List.set_cons_succ]))
      go_roundw
      case rel => exact ⟨k + 1, by go_num, by omega, HS⟩
      case measure => simp [intOf]; omega
    · go_wp2_with ((first | ((with_reducible refine gate_dst (N := 21) rfl ?_); refine build_arr rfl rfl ⟨16, 33, Try.underlying34, 1, size33⟩ ze34 ?_) | ((with_reducible refine gate_dst (N := 22) rfl ?_); refine build_arr rfl rfl ⟨16, 33, Try.underlying34, 1, size33⟩ ze34 ?_) | ((with_reducible refine gate_dst (N := 27) rfl ?_); refine eql_mem (m := m) rfl rfl rfl rfl ?_) | (first
      | ((with_reducible refine gate_dst (N := 23) rfl ?_); (with_reducible refine field_at rfl rfl rfl fo44_8 ?_); (try simp only [toNat_16, toNat_12, Int.toNat_natCast, Nat.zero_add, Nat.add_zero, Nat.mul_one]))
      | ((with_reducible refine gate_store (t := 34) (p := 23) rfl ?_); (with_reducible refine store_seg HS.out rfl rfl rfl ag34 rfl (by first | exact eval_tmp rfl | exact eval_const) (by first | exact at0 | exact at1 | exact at2 | exact at3 | exact at4 | exact at5 | exact at6) (by with_reducible first | exact set_R _ _ | exact put_R _ _ (by omega) _) (by with_reducible first | exact mc_size _ | exact tc_size _ | exact cc_size _ | exact dc_size _ | exact rc_size _ | exact sz1 | exact sz2 | exact sz3 | exact sz4) (by simp only [mc_size, tc_size, cc_size, dc_size, rc_size, List.size_toArray, List.length_cons, List.length_nil]; omega) (by first | (with_reducible first | exact mc_one _ | exact tc_one _ | exact cc_one _ | exact dc_one _ | exact rc_one _ | exact t2_one _ _ | exact t3_one _ _ _) | (simp [Value.oneCell']; done)) ?_); intro W_ HP; clear HS; have HS := Aside0.mk HP; clear HP; (try simp only [List.set_cons_zero, List.set_cons_succ] at HS))
      | ((with_reducible refine gate_dst (N := 24) rfl ?_); (with_reducible refine field_at rfl rfl rfl fo44_8 ?_); (try simp only [toNat_16, toNat_12, Int.toNat_natCast, Nat.zero_add, Nat.add_zero, Nat.mul_one]))
      | ((with_reducible refine gate_store (t := 34) (p := 24) rfl ?_); (with_reducible refine store_seg HS.out rfl rfl rfl ag34 rfl (by first | exact eval_tmp rfl | exact eval_const) (by first | exact at0 | exact at1 | exact at2 | exact at3 | exact at4 | exact at5 | exact at6) (by with_reducible first | exact set_R _ _ | exact put_R _ _ (by omega) _) (by with_reducible first | exact mc_size _ | exact tc_size _ | exact cc_size _ | exact dc_size _ | exact rc_size _ | exact sz1 | exact sz2 | exact sz3 | exact sz4) (by simp only [mc_size, tc_size, cc_size, dc_size, rc_size, List.size_toArray, List.length_cons, List.length_nil]; omega) (by first | (with_reducible first | exact mc_one _ | exact tc_one _ | exact cc_one _ | exact dc_one _ | exact rc_one _ | exact t2_one _ _ | exact t3_one _ _ _) | (simp [Value.oneCell']; done)) ?_); intro W_ HP; clear HS; have HS := Aside0.mk HP; clear HP; (try simp only [List.set_cons_zero, List.set_cons_succ] at HS))
      | ((with_reducible refine gate_dst (N := 25) rfl ?_); (with_reducible refine load_seg HS.out rfl rfl ag44 rfl (by first | exact at0 | exact at1 | exact at2 | exact at3 | exact at4 | exact at5 | exact at6) (by with_reducible first | exact tc_el _ _ (by omega) | exact cc_el _ _ (by omega) | exact whole _) (by with_reducible first | exact mc_size _ | exact tc_size _ | exact cc_size _ | exact dc_size _ | exact rc_size _ | exact sz1 | exact sz2 | exact sz3 | exact sz4) ?_))
      | ((with_reducible refine gate_dst (N := 26) rfl ?_); (with_reducible refine load_seg HS.out rfl rfl ag44 rfl (by first | exact at0 | exact at1 | exact at2 | exact at3 | exact at4 | exact at5 | exact at6) (by with_reducible first | exact tc_el _ _ (by omega) | exact cc_el _ _ (by omega) | exact whole _) (by with_reducible first | exact mc_size _ | exact tc_size _ | exact cc_size _ | exact dc_size _ | exact rc_size _ | exact sz1 | exact sz2 | exact sz3 | exact sz4) ?_)))); (try simp only [Act.put, List.setIfInBounds_toArray, List.set_cons_zero, List.set_cons_succ]))
      go_ret
      exact ⟨_, rfl, rfl, HS.out.below⟩


end Go.Proofs.Ytdmjdcapkjnipaa.K
