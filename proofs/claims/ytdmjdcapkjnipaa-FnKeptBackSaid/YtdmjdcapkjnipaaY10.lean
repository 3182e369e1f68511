/- Walks over the ladders' memory: what the functions of this seat answer. -/
import Derived.Test.YtdmjdcapkjnipaaProg
import Derived.Test.YtdmjdcapkjnipaaMW
import Derived.WalkKit
import Derived.Deep.LoopGhost
import Derived.Deep.DeepCutAuto
import Derived.BigFrame
import Derived.Deep.QuietTactic
import Derived.BigQuiet
import Derived.Test.YtdmjdcapkjnipaaY9
namespace Go.Proofs.Ytdmjdcapkjnipaa.K
open Go Go.RowKit Go.Proofs.YtdmjdcapkjnipaaW Go.Proofs.YtdmjdcapkjnipaaW.PrintWords Go.Proofs.Ytdmjdcapkjnipaa.MW
set_option linter.unusedVariables false
set_option linter.unusedSimpArgs false
set_option maxRecDepth 100000

open QKept QBack
section
variable {P : Program} {ops : Array Oper} {rest : List Oper} {o : Oper} {a : Act} {Q : Exit → Act → World → Prop} {K : Act → World → Prop} {w W : World} {L : List (Nat × Array Value)} {v u : Value} {l ys : List Int}
theorem ev_drawn {f : FuncId} {ars : Array Operand} {ts : Array TypeId} {fn : Func} {args : Array Value} (HS : Priv w W L) (hgd : o.guard = none) (ho : o.op = .call { callee := .value (.func f), args := ars, argTypes := ts })
    (hf : P.funcs[f]? = some fn) (hname : (fn.name == "runtime.NumGoroutine") = false) (hb : fn.body.isSome = true) (hargs : ars.map a.eval = args) (hc : Calls P f args W (Drawn W))
    (h : ∀ A l c W', Priv w W' L → (Kd.int .u8).C W' A l.length l → l.length ≤ c → Tell.Bytes l → l.length ≤ 1000 → wpList P ops Q rest (a.put o.dst (.slice A l.length c)) W') : wpList P ops Q (o :: rest) a W := by
  refine PrintLast.goesL_ (N := o.dst) rfl hgd hf hname hb args ho hargs (hc.mono ?_)
  rintro e W' ⟨v0, l, rfl, ⟨A, c, rfl, hC, hc⟩, h1, h2, hb⟩
  exact ⟨_, rfl, h A l c W' (HS.call hb) hC hc h1 h2⟩
theorem run_load_segG {g off n : Nat} {cs seg : Array Value} {ty : TypeId} {p : Operand} (HS : Priv w W L) {i : Nat} (ho : o.op = .load ty p) (hz : aggSize P ty = some n) (hp : a.eval p = .pointer (some ⟨g, off, none⟩)) (hi : L[i]? = some (g, cs)) (hs : ∀ j, j < seg.size → cs[off + j]? = seg[j]?) (hn : seg.size = n)
    : (execOp a.eval o).run P W = .ok (.value (.agg seg)) W := by
  unfold execOp
  simp [ho, hp, Instr.loadAt, Instr.sureAddr, run_loadVar_seg (HS.at_ hi) (hn ▸ hz) hs]
theorem step_madeB {f : FuncId} {ars : Array Operand} {ts : Array TypeId} {fn : Func} {args : Array Value} {N : Option Tmp} (hw : Region.wanted o (yielded ops a.tmps) = true) (HS : Priv w W L) (hN : o.dst = N) (ho : o.op = .call { callee := .value (.func f), args := ars, argTypes := ts })
    (hf : P.funcs[f]? = some fn) (hname : (fn.name == "runtime.NumGoroutine") = false) (hb : fn.body.isSome = true) (hargs : ars.map a.eval = args)
    (hc : Calls P f args W fun e w' => ∃ v0, e = .returned v0 ∧ (Kd.int .u8).R 5 w' W.heap.size (fun _ => True) v0 ys ∧ Below W.heap.size W w')
    (h : ∀ A c W', Priv w W' L → (Kd.int .u8).C W' A ys.length ys → K (a.put N (.slice A ys.length c)) W') : if Region.wanted o (yielded ops a.tmps) = true then Oper.wp P o a W K Q else K (a.put N undef) W := by
  refine PrintLast.goes_ hf hname hb args hw hN ho hargs (hc.mono ?_)
  rintro e W' ⟨v0, rfl, hr, hb⟩
  obtain ⟨A, c, rfl, hc, hC⟩ := Kd.R_reads hr
  exact ⟨_, rfl, h A c W' (HS.call hb) hC⟩
end

theorem run_str {o : Oper} {a : Act} {W : World} {x : Operand} {A : Option Addr} {n c : Nat} {l : List Int} (ho : o.op = .convert 37 9 x) (hx : a.eval x = .slice A n c) (hC : (Kd.int .u8).C W A n l) : (execOp a.eval o).run Try.prog W = .ok (.value (.string (strOfNums l))) W := by
  have h := Kd.C_string (P := Try.prog) (src := 37) (dst := 9) (c := c) Try.underlying37 Try.underlying5 Try.underlying9 hC
  unfold execOp
  simp [ho, hx, h]

theorem kb_made (m : Mm) : ∀ v, (((keptBytes m).length = 134 ∧ okB (keptBytes m) ∧ v = Value.tuple #[.agg (mc (pm (keptBytes m))), .bool true]) ∨ (¬((keptBytes m).length = 134 ∧ okB (keptBytes m)) ∧ v = .tuple #[.agg (mc zm), .bool false])) → v = .tuple #[.agg (mc (pm (keptBytes m))), .bool true] := by
  rintro v (h | h)
  · exact h.2.2
  · exact absurd ⟨keptBytes_length m, back_bad m rfl⟩ h.1
theorem kb_ex2 (l : List Int) (hb : ∀ x ∈ l, 0 ≤ x ∧ x ≤ 255) : ∃ (m : Mm) (ok : Bool), (∀ v, ((l.length = 134 ∧ okB l ∧ v = Value.tuple #[.agg (mc (pm l)), .bool true]) ∨ (¬(l.length = 134 ∧ okB l) ∧ v = .tuple #[.agg (mc zm), .bool false])) → v = .tuple #[.agg (mc m), .bool ok]) ∧ (ok = true → keptBytes m = l ∧ mc (keptOf m) = mc m ∧ m.wf) := by
  by_cases h : l.length = 134 ∧ okB l
  · refine ⟨pm l, true, ?_, fun _ => ⟨back_ok hb h.1 h.2, kept_again l, pm_wf hb⟩⟩
    rintro v (h1 | h1)
    · exact h1.2.2
    · exact absurd h h1.1
  · refine ⟨zm, false, ?_, fun h => by cases h⟩
    rintro v (h1 | h1)
    · exact absurd ⟨h1.1, h1.2.1⟩ h
    · exact h1.2
theorem c_MemSame' {x y : Mm} (h : mc x = mc y) (w : World) : Calls Try.prog 20 #[.agg (mc x), .agg (mc y)] w (Ret w (· = .bool true)) := by
  rw [← h]; exact c_MemSame x w

set_option maxHeartbeats 4000000 in
set_option maxRecDepth 100000 in
theorem law_FnKeptBack0 (l l1 : List Int) (A0 A1 : Option Addr) (c0 c1 : Nat) (w : World) (hC0 : (Kd.int .u8).C w A0 l.length l) (hc0 : l.length ≤ c0) (hb0 : Tell.Bytes l) (hC1 : (Kd.int .u8).C w A1 l1.length l1) (hc1 : l1.length ≤ c1) (hb1 : Tell.Bytes l1) : Calls Try.prog 6 #[.slice A0 l.length c0, .slice A1 l1.length c1] w (Ret w (· = .bool true)) := by
  have HS := Aside0.mk (Priv.nil w)
  have HC0 := Aside0.mk hC0
  have HC1 := Aside0.mk hC1
  clear hC0 hC1
  by_cases hbig : (1048576 : Int) < l.length
  · have hbb : decide ((1048576 : Int) < l.length) = true := decide_eq_true hbig
    clear HC0 HC1
    go_enter Try.func6, Try.ntmps6
    go_wp2_with fail
    go_ret
    exact ⟨_, rfl, rfl, HS.out.below⟩
  · have hbb : decide ((1048576 : Int) < l.length) = false := decide_eq_false hbig
    by_cases hbig1 : (1048576 : Int) < l1.length
    · have hbb1 : decide ((1048576 : Int) < l1.length) = true := decide_eq_true hbig1
      clear HC0 HC1
      go_enter Try.func6, Try.ntmps6
      go_wp2_with fail
      go_ret
      exact ⟨_, rfl, rfl, HS.out.below⟩
    · have hbb1 : decide ((1048576 : Int) < l1.length) = false := decide_eq_false hbig1
      have h134 : ∀ m : Mm, (((keptBytes m).length : Int) != 134) = false := fun m => by rw [keptBytes_length]; rfl
      go_enter Try.func6, Try.ntmps6
      go_wp2_with ((first | ((with_reducible refine gate_dst (N := 23) rfl ?_); refine call_ev2 HS.out rfl rfl Try.func19 (by kernel_rfl) rfl (by (try simp only [List.map_toArray, List.map_cons, List.map_nil]); first | done | rfl) (c_DrawKeptMake l _ _ _ (Kd.C_below HC0.out HS.out.below) hc0 hb0 (by omega)) ?_; rintro v_ W_ ⟨m, rfl, wf⟩ HP HB_; clear HS; have HS := Aside0.mk HP; clear HP; clear HB_) | ((with_reducible refine gate_dst (N := 25) rfl ?_); refine ev_madeB HS.out rfl rfl Try.func9 (by kernel_rfl) rfl (by (try simp only [List.map_toArray, List.map_cons, List.map_nil]); first | done | rfl) (c_implKeptMake m wf _) ?_; intro v25_ W_ HP HR_ HX_; obtain ⟨A1_, c1_, rfl, hC1_, hc1_⟩ := (Bytes.of_R HR_).more; clear HR_ HX_; have H1 := Aside0.mk hC1_; clear hC1_; clear HS; have HS := Aside0.mk HP; clear HP) | ((with_reducible refine gate_dst (N := 28) rfl ?_); refine call_ev2 HS.out rfl rfl Try.func18 (by kernel_rfl) rfl (by (try simp only [List.map_toArray, List.map_cons, List.map_nil]); first | done | rfl) (Ret.weaken (c_implKeptBack (keptBytes m) (keptBytes_in m) _ _ _ H1.out hc1_) (kb_made m)) ?_; rintro v_ W_ rfl HP HB_; clear H1; clear HS; have HS := Aside0.mk HP; clear HP; clear HB_) | (first
      | ((with_reducible refine gate_dst (N := 5) rfl ?_); (with_reducible refine alloc_new HS.out rfl rfl ze44 ?_); intro g5 W5_ HP; clear HS; have HS := Aside0.mk HP; clear HP)
      | ((with_reducible refine gate_store (t := 44) (p := 5) rfl ?_); (with_reducible refine store_seg HS.out rfl rfl rfl ag44 rfl (by first | exact eval_tmp rfl | exact eval_const) (by first | exact at0 | exact at1 | exact at2 | exact at3 | exact at4 | exact at5 | exact at6) (by with_reducible first | exact tc_put _ _ (by omega) _ _ | exact cc_put _ _ (by omega) _ _ _ | exact dc_put _ _ (by omega) _ | exact rc_put _ _ (by omega) _ | exact lay_mc _ _ | exact lay_tc _ _ | exact lay_cc _ _ | exact lay_dc _ _ | exact lay_rc _ _ | exact lay2_0 | exact lay2_1 | exact lay3_0 | exact lay3_1 | exact lay3_2 | exact lay2_w | exact lay3_w) (by with_reducible first | exact mc_size _ | exact tc_size _ | exact cc_size _ | exact dc_size _ | exact rc_size _ | exact sz1 | exact sz2 | exact sz3 | exact sz4) (by simp only [mc_size, tc_size, cc_size, dc_size, rc_size, List.size_toArray, List.length_cons, List.length_nil]; omega) (by first | (with_reducible first | exact mc_one _ | exact tc_one _ | exact cc_one _ | exact dc_one _ | exact rc_one _ | exact t2_one _ _ | exact t3_one _ _ _) | (simp [Value.oneCell']; done)) ?_); intro W_ HP; clear HS; have HS := Aside0.mk HP; clear HP; (try simp only [List.set_cons_zero, List.set_cons_succ] at HS))
      | ((with_reducible refine gate_dst (N := 24) rfl ?_); (with_reducible refine load_seg HS.out rfl rfl ag44 rfl (by first | exact at0 | exact at1 | exact at2 | exact at3 | exact at4 | exact at5 | exact at6) (by with_reducible first | exact tc_el _ _ (by omega) | exact cc_el _ _ (by omega) | exact whole _) (by with_reducible first | exact mc_size _ | exact tc_size _ | exact cc_size _ | exact dc_size _ | exact rc_size _ | exact sz1 | exact sz2 | exact sz3 | exact sz4) ?_))
      | ((with_reducible refine gate_dst (N := 7) rfl ?_); (with_reducible refine alloc_new HS.out rfl rfl ze44 ?_); intro g7 W7_ HP; clear HS; have HS := Aside0.mk HP; clear HP)
      | ((with_reducible refine gate_store (t := 44) (p := 7) rfl ?_); (with_reducible refine store_seg HS.out rfl rfl rfl ag44 rfl (by first | exact eval_tmp rfl | exact eval_const) (by first | exact at0 | exact at1 | exact at2 | exact at3 | exact at4 | exact at5 | exact at6) (by with_reducible first | exact tc_put _ _ (by omega) _ _ | exact cc_put _ _ (by omega) _ _ _ | exact dc_put _ _ (by omega) _ | exact rc_put _ _ (by omega) _ | exact lay_mc _ _ | exact lay_tc _ _ | exact lay_cc _ _ | exact lay_dc _ _ | exact lay_rc _ _ | exact lay2_0 | exact lay2_1 | exact lay3_0 | exact lay3_1 | exact lay3_2 | exact lay2_w | exact lay3_w) (by with_reducible first | exact mc_size _ | exact tc_size _ | exact cc_size _ | exact dc_size _ | exact rc_size _ | exact sz1 | exact sz2 | exact sz3 | exact sz4) (by simp only [mc_size, tc_size, cc_size, dc_size, rc_size, List.size_toArray, List.length_cons, List.length_nil]; omega) (by first | (with_reducible first | exact mc_one _ | exact tc_one _ | exact cc_one _ | exact dc_one _ | exact rc_one _ | exact t2_one _ _ | exact t3_one _ _ _) | (simp [Value.oneCell']; done)) ?_); intro W_ HP; clear HS; have HS := Aside0.mk HP; clear HP; (try simp only [List.set_cons_zero, List.set_cons_succ] at HS)))); (try simp only [Act.put, List.setIfInBounds_toArray, List.set_cons_zero, List.set_cons_succ]))
      refine PrintLast.start_ (ds := []) (S := fun W' => Priv w W' [(g7, mc (pm (keptBytes m))), (g5, mc m)]) #[false, false, false, false, false, false, false, false, false, false, false, false, false, false] (by kernel_rfl) rfl rfl HS.out.drew (fun hHeld => ?_)
      have HP := HS.out.drew; clear HS; have HS := Aside0.mk HP; clear HP
      refine PrintLast.pure_ (i := 0) (N := some 31) (v := ?_) (a' := ?_) #[true, false, false, false, false, false, false, false, false, false, false, false, false, false] rfl rfl (by kernel_rfl) (fun _ _ _ h => h) (Or.inl ⟨by rfl, ?_⟩) ?_ ?_
      rotate_left
      · intro w'
        go_simp
        with_reducible rfl
      rotate_left
      · simp only [Act.put, List.setIfInBounds_toArray, List.set_cons_zero, List.set_cons_succ, Nat.zero_add, Nat.add_zero, Nat.mul_one, Int.toNat_natCast]
        rfl
      refine PrintLast.pure_ (i := 1) (N := some 32) (v := ?_) (a' := ?_) #[true, true, false, false, false, false, false, false, false, false, false, false, false, false] rfl rfl (by kernel_rfl) (fun _ _ _ h => h) (Or.inl ⟨by rfl, ?_⟩) ?_ ?_
      rotate_left
      · intro w'
        go_simp
        with_reducible rfl
      rotate_left
      · simp only [Act.put, List.setIfInBounds_toArray, List.set_cons_zero, List.set_cons_succ, Nat.zero_add, Nat.add_zero, Nat.mul_one, Int.toNat_natCast]
        rfl
      refine PrintLast.pure_ (i := 2) (N := some 33) (v := ?_) (a' := ?_) #[true, true, true, false, false, false, false, false, false, false, false, false, false, false] rfl rfl (by kernel_rfl) (fun _ _ _ h => h) (Or.inl ⟨by rfl, ?_⟩) ?_ ?_
      rotate_left
      · intro w'
        go_simp
        with_reducible rfl
      rotate_left
      · simp only [Act.put, List.setIfInBounds_toArray, List.set_cons_zero, List.set_cons_succ, Nat.zero_add, Nat.add_zero, Nat.mul_one, Int.toNat_natCast]
        rfl
      refine PrintLast.pure_ (i := 3) (N := some 34) (v := ?_) (a' := ?_) #[true, true, true, true, false, false, false, false, false, false, false, false, false, false] rfl rfl (by kernel_rfl) (fun _ _ _ h => h) (Or.inl ⟨by rfl, ?_⟩) ?_ ?_
      rotate_left
      · intro w'
        go_simp
        with_reducible rfl
      rotate_left
      · simp only [Act.put, List.setIfInBounds_toArray, List.set_cons_zero, List.set_cons_succ, Nat.zero_add, Nat.add_zero, Nat.mul_one, Int.toNat_natCast]
        rfl
      refine PrintLast.pure_ (i := 4) (N := some 35) (v := ?_) (a' := ?_) #[true, true, true, true, true, false, false, false, false, false, false, false, false, false] rfl rfl (by kernel_rfl) (fun _ _ _ h => h) (Or.inl ⟨by rfl, ?_⟩) ?_ ?_
      rotate_left
      · intro w'
        go_simp
        with_reducible rfl
      rotate_left
      · simp only [Act.put, List.setIfInBounds_toArray, List.set_cons_zero, List.set_cons_succ, Nat.zero_add, Nat.add_zero, Nat.mul_one, Int.toNat_natCast]
        rfl
      refine PrintLast.pure_ (i := 5) (N := some 36) (v := ?_) (a' := ?_) #[true, true, true, true, true, true, false, false, false, false, false, false, false, false] rfl rfl (by kernel_rfl) (fun _ _ _ h => h) (Or.inl ⟨by rfl, ?_⟩) ?_ ?_
      rotate_left
      · intro w'
        go_simp
        with_reducible rfl
      rotate_left
      · simp only [Act.put, List.setIfInBounds_toArray, List.set_cons_zero, List.set_cons_succ, Nat.zero_add, Nat.add_zero, Nat.mul_one, Int.toNat_natCast]
        rfl
      refine PrintLast.pure_ (i := 6) (N := some 37) (v := ?_) (a' := ?_) #[true, true, true, true, true, true, true, false, false, false, false, false, false, false] rfl rfl (by kernel_rfl) (fun _ _ _ h => h) (Or.inl ⟨by rfl, ?_⟩) ?_ ?_
      rotate_left
      · intro w'
        go_simp
        with_reducible rfl
      rotate_left
      · simp only [Act.put, List.setIfInBounds_toArray, List.set_cons_zero, List.set_cons_succ, Nat.zero_add, Nat.add_zero, Nat.mul_one, Int.toNat_natCast]
        rfl
      refine PrintLast.pure_ (i := 7) (N := some 38) (v := ?_) (a' := ?_) #[true, true, true, true, true, true, true, true, false, false, false, false, false, false] rfl rfl (by kernel_rfl) (fun _ _ _ h => h) (Or.inl ⟨by rfl, ?_⟩) ?_ ?_
      rotate_left
      · intro w'
        go_simp
        with_reducible rfl
      rotate_left
      · simp only [Act.put, List.setIfInBounds_toArray, List.set_cons_zero, List.set_cons_succ, Nat.zero_add, Nat.add_zero, Nat.mul_one, Int.toNat_natCast]
        rfl
      refine PrintLast.take_ (i := 8) (N := some 39) (v := ?_) (a' := ?_) #[true, true, true, true, true, true, true, true, true, false, false, false, false, false] rfl rfl (by kernel_rfl) (fun _ _ _ h => h) (Or.inl ⟨by rfl, ?_⟩) hHeld ?_ ?_
      rotate_left
      · intro w' hS
        refine Eq.trans (run_load_segG hS rfl ag44 rfl at0 (whole _) (mc_size _)) ?_
        with_reducible rfl
      rotate_left
      · simp only [Act.put, List.setIfInBounds_toArray, List.set_cons_zero, List.set_cons_succ, Nat.zero_add, Nat.add_zero, Nat.mul_one, Int.toNat_natCast]
        rfl
      refine PrintLast.take_ (i := 9) (N := some 40) (v := ?_) (a' := ?_) #[true, true, true, true, true, true, true, true, true, true, false, false, false, false] rfl rfl (by kernel_rfl) (fun _ _ _ h => h) (Or.inl ⟨by rfl, ?_⟩) hHeld ?_ ?_
      rotate_left
      · intro w' hS
        refine Eq.trans (run_load_segG hS rfl ag44 rfl at1 (whole _) (mc_size _)) ?_
        with_reducible rfl
      rotate_left
      · simp only [Act.put, List.setIfInBounds_toArray, List.set_cons_zero, List.set_cons_succ, Nat.zero_add, Nat.add_zero, Nat.mul_one, Int.toNat_natCast]
        rfl
      refine PrintLast.one_ (i := 10) (N := some 41) #[true, true, true, true, true, true, true, true, true, true, true, false, false, false] rfl rfl (by kernel_rfl) (by decide) (fun K hK => ?_)
      refine step_callr (by rfl) HS.out rfl rfl Try.func13 (by kernel_rfl) rfl (by (try simp only [List.map_toArray, List.map_cons, List.map_nil]); first | done | rfl) (c_specKeptOf m wf.M.1 wf.M.2 _) ?_
      intro W_ HP; clear hHeld; clear HS; have HS := Aside0.mk HP; clear HP
      refine hK.out _ _ HS.out (fun hHeld => ?_)
      clear hK K
      refine PrintLast.norm_ (a' := ?_) ?_ ?_
      rotate_left
      · show Act.put _ (some 41) _ = _
        simp only [Act.put, List.setIfInBounds_toArray, List.set_cons_zero, List.set_cons_succ, Nat.zero_add, Nat.add_zero, Nat.mul_one, Int.toNat_natCast]
        rfl
      refine PrintLast.one_ (i := 11) (N := some 42) #[true, true, true, true, true, true, true, true, true, true, true, true, false, false] rfl rfl (by kernel_rfl) (by decide) (fun K hK => ?_)
      refine step_callr (by rfl) HS.out rfl rfl Try.func20 (by kernel_rfl) rfl (by (try simp only [List.map_toArray, List.map_cons, List.map_nil]); first | done | rfl) (c_MemSame' (kept_back m wf (keptBytes_in m)) _) ?_
      intro W_ HP; clear hHeld; clear HS; have HS := Aside0.mk HP; clear HP
      refine hK.out _ _ HS.out (fun hHeld => ?_)
      clear hK K
      refine PrintLast.norm_ (a' := ?_) ?_ ?_
      rotate_left
      · show Act.put _ (some 42) _ = _
        simp only [Act.put, List.setIfInBounds_toArray, List.set_cons_zero, List.set_cons_succ, Nat.zero_add, Nat.add_zero, Nat.mul_one, Int.toNat_natCast]
        rfl
      refine PrintLast.pure_ (i := 12) (N := some 43) (v := ?_) (a' := ?_) #[true, true, true, true, true, true, true, true, true, true, true, true, true, false] rfl rfl (by kernel_rfl) (fun _ _ _ h => h) (Or.inl ⟨by rfl, ?_⟩) ?_ ?_
      rotate_left
      · intro w'
        go_simp
        with_reducible rfl
      rotate_left
      · simp only [Act.put, List.setIfInBounds_toArray, List.set_cons_zero, List.set_cons_succ, Nat.zero_add, Nat.add_zero, Nat.mul_one, Int.toNat_natCast]
        rfl
      refine PrintLast.pure_ (i := 13) (N := some 44) (v := ?_) (a' := ?_) #[true, true, true, true, true, true, true, true, true, true, true, true, true, true] rfl rfl (by kernel_rfl) (fun _ _ _ h => h) (Or.inl ⟨by rfl, ?_⟩) ?_ ?_
      rotate_left
      · intro w'
        go_simp
        with_reducible rfl
      rotate_left
      · simp only [Act.put, List.setIfInBounds_toArray, List.set_cons_zero, List.set_cons_succ, Nat.zero_add, Nat.add_zero, Nat.mul_one, Int.toNat_natCast]
        rfl
      refine PrintLast.done_ (by kernel_rfl) ?_
      clear hHeld
      go_wp2_with ((first | ((with_reducible refine gate_dst (N := 46) rfl ?_); refine ev_drawn HS.out rfl rfl Try.func21 (by kernel_rfl) rfl (by (try simp only [List.map_toArray, List.map_cons, List.map_nil]); first | done | rfl) (c_DrawKeptBack l1 _ _ _ (Kd.C_below HC1.out HS.out.below) hc1 hb1 (by omega)) ?_; intro A2_ l2 c2_ W9_ HP HX_ hc2_ hb2_ hl2_; have HC := Aside0.mk HX_; clear HX_; clear HS; have H3 := Aside0.mk HP; clear HP; have HS := Aside0.mk (Priv.nil W9_); obtain ⟨m2, ok2, hkb, hok⟩ := kb_ex2 l2 hb2_) | ((with_reducible refine gate_dst (N := 49) rfl ?_); refine call_ev2 HS.out rfl rfl Try.func18 (by kernel_rfl) rfl (by (try simp only [List.map_toArray, List.map_cons, List.map_nil]); first | done | rfl) (Ret.weaken (c_implKeptBack l2 hb2_ _ _ _ (Kd.C_below HC.out HS.out.below) hc2_) hkb) ?_; rintro v_ W_ rfl HP HB_; clear HS; have HS := Aside0.mk HP; clear HP; clear HB_) | ((with_reducible refine gate_dst (N := 54) rfl ?_); refine call_ev2 HS.out rfl rfl Try.func16 (by kernel_rfl) rfl (by (try simp only [List.map_toArray, List.map_cons, List.map_nil]); first | done | rfl) (Ret.weaken (c_specKeptBack l2 hb2_ _ _ _ (Kd.C_below HC.out HS.out.below) hc2_) hkb) ?_; rintro v_ W_ rfl HP HB_; clear HS; have HS := Aside0.mk HP; clear HP; clear HB_) | (first
      | ((with_reducible refine gate_dst (N := 10) rfl ?_); (with_reducible refine alloc_new HS.out rfl rfl ze44 ?_); intro g10 W10_ HP; clear HS; have HS := Aside0.mk HP; clear HP)
      | ((with_reducible refine gate_store (t := 44) (p := 10) rfl ?_); (with_reducible refine store_seg HS.out rfl rfl rfl ag44 rfl (by first | exact eval_tmp rfl | exact eval_const) (by first | exact at0 | exact at1 | exact at2 | exact at3 | exact at4 | exact at5 | exact at6) (by with_reducible first | exact tc_put _ _ (by omega) _ _ | exact cc_put _ _ (by omega) _ _ _ | exact dc_put _ _ (by omega) _ | exact rc_put _ _ (by omega) _ | exact lay_mc _ _ | exact lay_tc _ _ | exact lay_cc _ _ | exact lay_dc _ _ | exact lay_rc _ _ | exact lay2_0 | exact lay2_1 | exact lay3_0 | exact lay3_1 | exact lay3_2 | exact lay2_w | exact lay3_w) (by with_reducible first | exact mc_size _ | exact tc_size _ | exact cc_size _ | exact dc_size _ | exact rc_size _ | exact sz1 | exact sz2 | exact sz3 | exact sz4) (by simp only [mc_size, tc_size, cc_size, dc_size, rc_size, List.size_toArray, List.length_cons, List.length_nil]; omega) (by first | (with_reducible first | exact mc_one _ | exact tc_one _ | exact cc_one _ | exact dc_one _ | exact rc_one _ | exact t2_one _ _ | exact t3_one _ _ _) | (simp [Value.oneCell']; done)) ?_); intro W_ HP; clear HS; have HS := Aside0.mk HP; clear HP; (try simp only [List.set_cons_zero, List.set_cons_succ] at HS))
      | ((with_reducible refine gate_dst (N := 12) rfl ?_); (with_reducible refine alloc_new HS.out rfl rfl ze44 ?_); intro g12 W12_ HP; clear HS; have HS := Aside0.mk HP; clear HP)
      | ((with_reducible refine gate_store (t := 44) (p := 12) rfl ?_); (with_reducible refine store_seg HS.out rfl rfl rfl ag44 rfl (by first | exact eval_tmp rfl | exact eval_const) (by first | exact at0 | exact at1 | exact at2 | exact at3 | exact at4 | exact at5 | exact at6) (by with_reducible first | exact tc_put _ _ (by omega) _ _ | exact cc_put _ _ (by omega) _ _ _ | exact dc_put _ _ (by omega) _ | exact rc_put _ _ (by omega) _ | exact lay_mc _ _ | exact lay_tc _ _ | exact lay_cc _ _ | exact lay_dc _ _ | exact lay_rc _ _ | exact lay2_0 | exact lay2_1 | exact lay3_0 | exact lay3_1 | exact lay3_2 | exact lay2_w | exact lay3_w) (by with_reducible first | exact mc_size _ | exact tc_size _ | exact cc_size _ | exact dc_size _ | exact rc_size _ | exact sz1 | exact sz2 | exact sz3 | exact sz4) (by simp only [mc_size, tc_size, cc_size, dc_size, rc_size, List.size_toArray, List.length_cons, List.length_nil]; omega) (by first | (with_reducible first | exact mc_one _ | exact tc_one _ | exact cc_one _ | exact dc_one _ | exact rc_one _ | exact t2_one _ _ | exact t3_one _ _ _) | (simp [Value.oneCell']; done)) ?_); intro W_ HP; clear HS; have HS := Aside0.mk HP; clear HP; (try simp only [List.set_cons_zero, List.set_cons_succ] at HS)))); (try simp only [Act.put, List.setIfInBounds_toArray, List.set_cons_zero, List.set_cons_succ]))
      cases ok2
      · clear hok hkb
        refine PrintLast.start_ (ds := []) (S := fun W' => Priv W9_ W' [(g12, mc m2), (g10, mc m2)]) #[false, false, false, false, false, false, false, false, false, false, false, false, false, false, false, false, false, false, false, false, false, false] (by kernel_rfl) rfl rfl HS.out.drew (fun hHeld => ?_)
        have HP := HS.out.drew; clear HS; have HS := Aside0.mk HP; clear HP
        refine PrintLast.pure_ (i := 0) (N := some 57) (v := ?_) (a' := ?_) #[true, false, false, false, false, false, false, false, false, false, false, false, false, false, false, false, false, false, false, false, false, false] rfl rfl (by kernel_rfl) (fun _ _ _ h => h) (Or.inl ⟨by rfl, ?_⟩) ?_ ?_
        rotate_left
        · intro w'
          go_simp
          with_reducible rfl
        rotate_left
        · simp only [Act.put, List.setIfInBounds_toArray, List.set_cons_zero, List.set_cons_succ, Nat.zero_add, Nat.add_zero, Nat.mul_one, Int.toNat_natCast]
          rfl
        refine PrintLast.pure_ (i := 1) (N := some 58) (v := ?_) (a' := ?_) #[true, true, false, false, false, false, false, false, false, false, false, false, false, false, false, false, false, false, false, false, false, false] rfl rfl (by kernel_rfl) (fun _ _ _ h => h) (Or.inl ⟨by rfl, ?_⟩) ?_ ?_
        rotate_left
        · intro w'
          go_simp
          with_reducible rfl
        rotate_left
        · simp only [Act.put, List.setIfInBounds_toArray, List.set_cons_zero, List.set_cons_succ, Nat.zero_add, Nat.add_zero, Nat.mul_one, Int.toNat_natCast]
          rfl
        refine PrintLast.pure_ (i := 2) (N := some 59) (v := ?_) (a' := ?_) #[true, true, true, false, false, false, false, false, false, false, false, false, false, false, false, false, false, false, false, false, false, false] rfl rfl (by kernel_rfl) (fun _ _ _ h => h) (Or.inl ⟨by rfl, ?_⟩) ?_ ?_
        rotate_left
        · intro w'
          go_simp
          with_reducible rfl
        rotate_left
        · simp only [Act.put, List.setIfInBounds_toArray, List.set_cons_zero, List.set_cons_succ, Nat.zero_add, Nat.add_zero, Nat.mul_one, Int.toNat_natCast]
          rfl
        refine PrintLast.pure_ (i := 3) (N := some 60) (v := ?_) (a' := ?_) #[true, true, true, true, false, false, false, false, false, false, false, false, false, false, false, false, false, false, false, false, false, false] rfl rfl (by kernel_rfl) (fun _ _ _ h => h) (Or.inl ⟨by rfl, ?_⟩) ?_ ?_
        rotate_left
        · intro w'
          go_simp
          with_reducible rfl
        rotate_left
        · simp only [Act.put, List.setIfInBounds_toArray, List.set_cons_zero, List.set_cons_succ, Nat.zero_add, Nat.add_zero, Nat.mul_one, Int.toNat_natCast]
          rfl
        refine PrintLast.pure_ (i := 4) (N := some 61) (v := ?_) (a' := ?_) #[true, true, true, true, true, false, false, false, false, false, false, false, false, false, false, false, false, false, false, false, false, false] rfl rfl (by kernel_rfl) (fun _ _ _ h => h) (Or.inl ⟨by rfl, ?_⟩) ?_ ?_
        rotate_left
        · intro w'
          go_simp
          with_reducible rfl
        rotate_left
        · simp only [Act.put, List.setIfInBounds_toArray, List.set_cons_zero, List.set_cons_succ, Nat.zero_add, Nat.add_zero, Nat.mul_one, Int.toNat_natCast]
          rfl
        refine PrintLast.pure_ (i := 5) (N := some 62) (v := ?_) (a' := ?_) #[true, true, true, true, true, true, false, false, false, false, false, false, false, false, false, false, false, false, false, false, false, false] rfl rfl (by kernel_rfl) (fun _ _ _ h => h) (Or.inl ⟨by rfl, ?_⟩) ?_ ?_
        rotate_left
        · intro w'
          go_simp
          with_reducible rfl
        rotate_left
        · simp only [Act.put, List.setIfInBounds_toArray, List.set_cons_zero, List.set_cons_succ, Nat.zero_add, Nat.add_zero, Nat.mul_one, Int.toNat_natCast]
          rfl
        refine PrintLast.pure_ (i := 6) (N := some 63) (v := ?_) (a' := ?_) #[true, true, true, true, true, true, true, false, false, false, false, false, false, false, false, false, false, false, false, false, false, false] rfl rfl (by kernel_rfl) (fun _ _ _ h => h) (Or.inl ⟨by rfl, ?_⟩) ?_ ?_
        rotate_left
        · intro w'
          go_simp
          with_reducible rfl
        rotate_left
        · simp only [Act.put, List.setIfInBounds_toArray, List.set_cons_zero, List.set_cons_succ, Nat.zero_add, Nat.add_zero, Nat.mul_one, Int.toNat_natCast]
          rfl
        refine PrintLast.pure_ (i := 7) (N := some 64) (a' := ?_) #[true, true, true, true, true, true, true, true, false, false, false, false, false, false, false, false, false, false, false, false, false, false] rfl rfl (by kernel_rfl) (fun _ _ _ h => h) (Or.inr ⟨by rfl, rfl⟩) ?_ ?_
        rotate_left
        · simp only [Act.put, List.setIfInBounds_toArray, List.set_cons_zero, List.set_cons_succ, Nat.zero_add, Nat.add_zero, Nat.mul_one, Int.toNat_natCast]
          rfl
        refine PrintLast.pure_ (i := 8) (N := some 65) (a' := ?_) #[true, true, true, true, true, true, true, true, true, false, false, false, false, false, false, false, false, false, false, false, false, false] rfl rfl (by kernel_rfl) (fun _ _ _ h => h) (Or.inr ⟨by rfl, rfl⟩) ?_ ?_
        rotate_left
        · simp only [Act.put, List.setIfInBounds_toArray, List.set_cons_zero, List.set_cons_succ, Nat.zero_add, Nat.add_zero, Nat.mul_one, Int.toNat_natCast]
          rfl
        refine PrintLast.pure_ (i := 9) (N := some 66) (a' := ?_) #[true, true, true, true, true, true, true, true, true, true, false, false, false, false, false, false, false, false, false, false, false, false] rfl rfl (by kernel_rfl) (fun _ _ _ h => h) (Or.inr ⟨by rfl, rfl⟩) ?_ ?_
        rotate_left
        · simp only [Act.put, List.setIfInBounds_toArray, List.set_cons_zero, List.set_cons_succ, Nat.zero_add, Nat.add_zero, Nat.mul_one, Int.toNat_natCast]
          rfl
        refine PrintLast.pure_ (i := 10) (N := some 67) (a' := ?_) #[true, true, true, true, true, true, true, true, true, true, true, false, false, false, false, false, false, false, false, false, false, false] rfl rfl (by kernel_rfl) (fun _ _ _ h => h) (Or.inr ⟨by rfl, rfl⟩) ?_ ?_
        rotate_left
        · simp only [Act.put, List.setIfInBounds_toArray, List.set_cons_zero, List.set_cons_succ, Nat.zero_add, Nat.add_zero, Nat.mul_one, Int.toNat_natCast]
          rfl
        refine PrintLast.pure_ (i := 11) (N := some 68) (a' := ?_) #[true, true, true, true, true, true, true, true, true, true, true, true, false, false, false, false, false, false, false, false, false, false] rfl rfl (by kernel_rfl) (fun _ _ _ h => h) (Or.inr ⟨by rfl, rfl⟩) ?_ ?_
        rotate_left
        · simp only [Act.put, List.setIfInBounds_toArray, List.set_cons_zero, List.set_cons_succ, Nat.zero_add, Nat.add_zero, Nat.mul_one, Int.toNat_natCast]
          rfl
        refine PrintLast.pure_ (i := 12) (N := some 69) (a' := ?_) #[true, true, true, true, true, true, true, true, true, true, true, true, true, false, false, false, false, false, false, false, false, false] rfl rfl (by kernel_rfl) (fun _ _ _ h => h) (Or.inr ⟨by rfl, rfl⟩) ?_ ?_
        rotate_left
        · simp only [Act.put, List.setIfInBounds_toArray, List.set_cons_zero, List.set_cons_succ, Nat.zero_add, Nat.add_zero, Nat.mul_one, Int.toNat_natCast]
          rfl
        refine PrintLast.pure_ (i := 13) (N := some 70) (a' := ?_) #[true, true, true, true, true, true, true, true, true, true, true, true, true, true, false, false, false, false, false, false, false, false] rfl rfl (by kernel_rfl) (fun _ _ _ h => h) (Or.inr ⟨by rfl, rfl⟩) ?_ ?_
        rotate_left
        · simp only [Act.put, List.setIfInBounds_toArray, List.set_cons_zero, List.set_cons_succ, Nat.zero_add, Nat.add_zero, Nat.mul_one, Int.toNat_natCast]
          rfl
        refine PrintLast.pure_ (i := 14) (N := some 71) (a' := ?_) #[true, true, true, true, true, true, true, true, true, true, true, true, true, true, true, false, false, false, false, false, false, false] rfl rfl (by kernel_rfl) (fun _ _ _ h => h) (Or.inr ⟨by rfl, rfl⟩) ?_ ?_
        rotate_left
        · simp only [Act.put, List.setIfInBounds_toArray, List.set_cons_zero, List.set_cons_succ, Nat.zero_add, Nat.add_zero, Nat.mul_one, Int.toNat_natCast]
          rfl
        refine PrintLast.pure_ (i := 15) (N := some 72) (a' := ?_) #[true, true, true, true, true, true, true, true, true, true, true, true, true, true, true, true, false, false, false, false, false, false] rfl rfl (by kernel_rfl) (fun _ _ _ h => h) (Or.inr ⟨by rfl, rfl⟩) ?_ ?_
        rotate_left
        · simp only [Act.put, List.setIfInBounds_toArray, List.set_cons_zero, List.set_cons_succ, Nat.zero_add, Nat.add_zero, Nat.mul_one, Int.toNat_natCast]
          rfl
        refine PrintLast.pure_ (i := 16) (N := some 73) (a' := ?_) #[true, true, true, true, true, true, true, true, true, true, true, true, true, true, true, true, true, false, false, false, false, false] rfl rfl (by kernel_rfl) (fun _ _ _ h => h) (Or.inr ⟨by rfl, rfl⟩) ?_ ?_
        rotate_left
        · simp only [Act.put, List.setIfInBounds_toArray, List.set_cons_zero, List.set_cons_succ, Nat.zero_add, Nat.add_zero, Nat.mul_one, Int.toNat_natCast]
          rfl
        refine PrintLast.pure_ (i := 17) (N := some 74) (a' := ?_) #[true, true, true, true, true, true, true, true, true, true, true, true, true, true, true, true, true, true, false, false, false, false] rfl rfl (by kernel_rfl) (fun _ _ _ h => h) (Or.inr ⟨by rfl, rfl⟩) ?_ ?_
        rotate_left
        · simp only [Act.put, List.setIfInBounds_toArray, List.set_cons_zero, List.set_cons_succ, Nat.zero_add, Nat.add_zero, Nat.mul_one, Int.toNat_natCast]
          rfl
        refine PrintLast.pure_ (i := 18) (N := some 75) (a' := ?_) #[true, true, true, true, true, true, true, true, true, true, true, true, true, true, true, true, true, true, true, false, false, false] rfl rfl (by kernel_rfl) (fun _ _ _ h => h) (Or.inr ⟨by rfl, rfl⟩) ?_ ?_
        rotate_left
        · simp only [Act.put, List.setIfInBounds_toArray, List.set_cons_zero, List.set_cons_succ, Nat.zero_add, Nat.add_zero, Nat.mul_one, Int.toNat_natCast]
          rfl
        refine PrintLast.pure_ (i := 19) (N := some 76) (v := ?_) (a' := ?_) #[true, true, true, true, true, true, true, true, true, true, true, true, true, true, true, true, true, true, true, true, false, false] rfl rfl (by kernel_rfl) (fun _ _ _ h => h) (Or.inl ⟨by rfl, ?_⟩) ?_ ?_
        rotate_left
        · intro w'
          go_simp
          with_reducible rfl
        rotate_left
        · simp only [Act.put, List.setIfInBounds_toArray, List.set_cons_zero, List.set_cons_succ, Nat.zero_add, Nat.add_zero, Nat.mul_one, Int.toNat_natCast]
          rfl
        refine PrintLast.pure_ (i := 20) (N := some 77) (v := ?_) (a' := ?_) #[true, true, true, true, true, true, true, true, true, true, true, true, true, true, true, true, true, true, true, true, true, false] rfl rfl (by kernel_rfl) (fun _ _ _ h => h) (Or.inl ⟨by rfl, ?_⟩) ?_ ?_
        rotate_left
        · intro w'
          go_simp
          with_reducible rfl
        rotate_left
        · simp only [Act.put, List.setIfInBounds_toArray, List.set_cons_zero, List.set_cons_succ, Nat.zero_add, Nat.add_zero, Nat.mul_one, Int.toNat_natCast]
          rfl
        refine PrintLast.pure_ (i := 21) (N := some 4) (v := ?_) (a' := ?_) #[true, true, true, true, true, true, true, true, true, true, true, true, true, true, true, true, true, true, true, true, true, true] rfl rfl (by kernel_rfl) (fun _ _ _ h => h) (Or.inl ⟨by rfl, ?_⟩) ?_ ?_
        rotate_left
        · intro w'
          go_simp
          with_reducible rfl
        rotate_left
        · simp only [Act.put, List.setIfInBounds_toArray, List.set_cons_zero, List.set_cons_succ, Nat.zero_add, Nat.add_zero, Nat.mul_one, Int.toNat_natCast]
          rfl
        refine PrintLast.done_ (by kernel_rfl) ?_
        clear hHeld
        go_wp2_with fail
        go_ret
        exact ⟨_, rfl, rfl, (H3.out.call HS.out.below).below⟩
      · obtain ⟨hk2, ho2, wf2⟩ := hok rfl
        clear hok hkb
        refine PrintLast.start_ (ds := []) (S := fun W' => Priv W9_ W' [(g12, mc m2), (g10, mc m2)]) #[false, false, false, false, false, false, false, false, false, false, false, false, false, false, false, false, false, false, false, false, false, false] (by kernel_rfl) rfl rfl HS.out.drew (fun hHeld => ?_)
        have HP := HS.out.drew; clear HS; have HS := Aside0.mk HP; clear HP
        refine PrintLast.pure_ (i := 0) (N := some 57) (v := ?_) (a' := ?_) #[true, false, false, false, false, false, false, false, false, false, false, false, false, false, false, false, false, false, false, false, false, false] rfl rfl (by kernel_rfl) (fun _ _ _ h => h) (Or.inl ⟨by rfl, ?_⟩) ?_ ?_
        rotate_left
        · intro w'
          go_simp
          with_reducible rfl
        rotate_left
        · simp only [Act.put, List.setIfInBounds_toArray, List.set_cons_zero, List.set_cons_succ, Nat.zero_add, Nat.add_zero, Nat.mul_one, Int.toNat_natCast]
          rfl
        refine PrintLast.pure_ (i := 1) (N := some 58) (v := ?_) (a' := ?_) #[true, true, false, false, false, false, false, false, false, false, false, false, false, false, false, false, false, false, false, false, false, false] rfl rfl (by kernel_rfl) (fun _ _ _ h => h) (Or.inl ⟨by rfl, ?_⟩) ?_ ?_
        rotate_left
        · intro w'
          go_simp
          with_reducible rfl
        rotate_left
        · simp only [Act.put, List.setIfInBounds_toArray, List.set_cons_zero, List.set_cons_succ, Nat.zero_add, Nat.add_zero, Nat.mul_one, Int.toNat_natCast]
          rfl
        refine PrintLast.pure_ (i := 2) (N := some 59) (v := ?_) (a' := ?_) #[true, true, true, false, false, false, false, false, false, false, false, false, false, false, false, false, false, false, false, false, false, false] rfl rfl (by kernel_rfl) (fun _ _ _ h => h) (Or.inl ⟨by rfl, ?_⟩) ?_ ?_
        rotate_left
        · intro w'
          go_simp
          with_reducible rfl
        rotate_left
        · simp only [Act.put, List.setIfInBounds_toArray, List.set_cons_zero, List.set_cons_succ, Nat.zero_add, Nat.add_zero, Nat.mul_one, Int.toNat_natCast]
          rfl
        refine PrintLast.pure_ (i := 3) (N := some 60) (v := ?_) (a' := ?_) #[true, true, true, true, false, false, false, false, false, false, false, false, false, false, false, false, false, false, false, false, false, false] rfl rfl (by kernel_rfl) (fun _ _ _ h => h) (Or.inl ⟨by rfl, ?_⟩) ?_ ?_
        rotate_left
        · intro w'
          go_simp
          with_reducible rfl
        rotate_left
        · simp only [Act.put, List.setIfInBounds_toArray, List.set_cons_zero, List.set_cons_succ, Nat.zero_add, Nat.add_zero, Nat.mul_one, Int.toNat_natCast]
          rfl
        refine PrintLast.pure_ (i := 4) (N := some 61) (v := ?_) (a' := ?_) #[true, true, true, true, true, false, false, false, false, false, false, false, false, false, false, false, false, false, false, false, false, false] rfl rfl (by kernel_rfl) (fun _ _ _ h => h) (Or.inl ⟨by rfl, ?_⟩) ?_ ?_
        rotate_left
        · intro w'
          go_simp
          with_reducible rfl
        rotate_left
        · simp only [Act.put, List.setIfInBounds_toArray, List.set_cons_zero, List.set_cons_succ, Nat.zero_add, Nat.add_zero, Nat.mul_one, Int.toNat_natCast]
          rfl
        refine PrintLast.pure_ (i := 5) (N := some 62) (v := ?_) (a' := ?_) #[true, true, true, true, true, true, false, false, false, false, false, false, false, false, false, false, false, false, false, false, false, false] rfl rfl (by kernel_rfl) (fun _ _ _ h => h) (Or.inl ⟨by rfl, ?_⟩) ?_ ?_
        rotate_left
        · intro w'
          go_simp
          with_reducible rfl
        rotate_left
        · simp only [Act.put, List.setIfInBounds_toArray, List.set_cons_zero, List.set_cons_succ, Nat.zero_add, Nat.add_zero, Nat.mul_one, Int.toNat_natCast]
          rfl
        refine PrintLast.pure_ (i := 6) (N := some 63) (v := ?_) (a' := ?_) #[true, true, true, true, true, true, true, false, false, false, false, false, false, false, false, false, false, false, false, false, false, false] rfl rfl (by kernel_rfl) (fun _ _ _ h => h) (Or.inl ⟨by rfl, ?_⟩) ?_ ?_
        rotate_left
        · intro w'
          go_simp
          with_reducible rfl
        rotate_left
        · simp only [Act.put, List.setIfInBounds_toArray, List.set_cons_zero, List.set_cons_succ, Nat.zero_add, Nat.add_zero, Nat.mul_one, Int.toNat_natCast]
          rfl
        refine PrintLast.take_ (i := 7) (N := some 64) (v := ?_) (a' := ?_) #[true, true, true, true, true, true, true, true, false, false, false, false, false, false, false, false, false, false, false, false, false, false] rfl rfl (by kernel_rfl) (fun _ _ _ h => h) (Or.inl ⟨by rfl, ?_⟩) hHeld ?_ ?_
        rotate_left
        · intro w' hS
          refine Eq.trans (run_load_segG hS rfl ag44 rfl at1 (whole _) (mc_size _)) ?_
          with_reducible rfl
        rotate_left
        · simp only [Act.put, List.setIfInBounds_toArray, List.set_cons_zero, List.set_cons_succ, Nat.zero_add, Nat.add_zero, Nat.mul_one, Int.toNat_natCast]
          rfl
        refine PrintLast.pure_ (i := 10) (N := some 67) (v := ?_) (a' := ?_) #[true, true, true, true, true, true, true, true, false, false, true, false, false, false, false, false, false, false, false, false, false, false] rfl rfl (by kernel_rfl) (fun _ _ _ h => h) (Or.inl ⟨by rfl, ?_⟩) ?_ ?_
        rotate_left
        · intro w'
          go_simp
          with_reducible rfl
        rotate_left
        · simp only [Act.put, List.setIfInBounds_toArray, List.set_cons_zero, List.set_cons_succ, Nat.zero_add, Nat.add_zero, Nat.mul_one, Int.toNat_natCast]
          rfl
        refine PrintLast.take_ (i := 11) (N := some 68) (v := ?_) (a' := ?_) #[true, true, true, true, true, true, true, true, false, false, true, true, false, false, false, false, false, false, false, false, false, false] rfl rfl (by kernel_rfl) (fun _ _ _ h => h) (Or.inl ⟨by rfl, ?_⟩) hHeld ?_ ?_
        rotate_left
        · intro w' hS
          refine Eq.trans (run_str rfl rfl (Kd.C_below HC.out hS.below)) ?_
          with_reducible rfl
        rotate_left
        · simp only [Act.put, List.setIfInBounds_toArray, List.set_cons_zero, List.set_cons_succ, Nat.zero_add, Nat.add_zero, Nat.mul_one, Int.toNat_natCast]
          rfl
        refine PrintLast.one_ (i := 8) (N := some 65) #[true, true, true, true, true, true, true, true, true, false, true, true, false, false, false, false, false, false, false, false, false, false] rfl rfl (by kernel_rfl) (by decide) (fun K hK => ?_)
        refine step_madeB (by rfl) HS.out rfl rfl Try.func9 (by kernel_rfl) rfl (by (try simp only [List.map_toArray, List.map_cons, List.map_nil]); first | done | rfl) (c_implKeptMake m2 wf2 _) ?_
        intro Am_ cm_ W_ HP HM_; clear hHeld; have HM := Aside0.mk HM_; clear HM_; clear HS; have HS := Aside0.mk HP; clear HP
        refine hK.out _ _ HS.out (fun hHeld => ?_)
        clear hK K
        refine PrintLast.norm_ (a' := ?_) ?_ ?_
        rotate_left
        · show Act.put _ (some 65) _ = _
          simp only [Act.put, List.setIfInBounds_toArray, List.set_cons_zero, List.set_cons_succ, Nat.zero_add, Nat.add_zero, Nat.mul_one, Int.toNat_natCast]
          rfl
        refine PrintLast.one_ (i := 9) (N := some 66) #[true, true, true, true, true, true, true, true, true, true, true, true, false, false, false, false, false, false, false, false, false, false] rfl rfl (by kernel_rfl) (by decide) (fun K hK => ?_)
        refine PrintLast.value_ (by rfl) rfl (run_str rfl rfl HM.out) ?_
        refine hK.out _ _ hHeld (fun hHeld => ?_)
        clear hK K
        refine PrintLast.norm_ (a' := ?_) ?_ ?_
        rotate_left
        · show Act.put _ (some 66) _ = _
          simp only [Act.put, List.setIfInBounds_toArray, List.set_cons_zero, List.set_cons_succ, Nat.zero_add, Nat.add_zero, Nat.mul_one, Int.toNat_natCast]
          rfl
        refine PrintLast.one_ (i := 12) (N := some 69) #[true, true, true, true, true, true, true, true, true, true, true, true, true, false, false, false, false, false, false, false, false, false] rfl rfl (by kernel_rfl) (by decide) (fun K hK => ?_)
        refine hK.out _ _ HS.out (fun hHeld => ?_)
        clear hK K
        refine PrintLast.norm_ (a' := ?_) ?_ ?_
        rotate_left
        · show Act.put _ (some 69) _ = _
          simp only [Act.put, List.setIfInBounds_toArray, List.set_cons_zero, List.set_cons_succ, Nat.zero_add, Nat.add_zero, Nat.mul_one, Int.toNat_natCast]
          rfl
        refine PrintLast.pure_ (i := 13) (N := some 70) (v := ?_) (a' := ?_) #[true, true, true, true, true, true, true, true, true, true, true, true, true, true, false, false, false, false, false, false, false, false] rfl rfl (by kernel_rfl) (fun _ _ _ h => h) (Or.inl ⟨by rfl, ?_⟩) ?_ ?_
        rotate_left
        · intro w'
          go_simp
          with_reducible rfl
        rotate_left
        · simp only [Act.put, List.setIfInBounds_toArray, List.set_cons_zero, List.set_cons_succ, Nat.zero_add, Nat.add_zero, Nat.mul_one, Int.toNat_natCast]
          rfl
        refine PrintLast.take_ (i := 14) (N := some 71) (v := ?_) (a' := ?_) #[true, true, true, true, true, true, true, true, true, true, true, true, true, true, true, false, false, false, false, false, false, false] rfl rfl (by kernel_rfl) (fun _ _ _ h => h) (Or.inl ⟨by rfl, ?_⟩) hHeld ?_ ?_
        rotate_left
        · intro w' hS
          refine Eq.trans (run_load_segG hS rfl ag44 rfl at1 (whole _) (mc_size _)) ?_
          with_reducible rfl
        rotate_left
        · simp only [Act.put, List.setIfInBounds_toArray, List.set_cons_zero, List.set_cons_succ, Nat.zero_add, Nat.add_zero, Nat.mul_one, Int.toNat_natCast]
          rfl
        refine PrintLast.take_ (i := 16) (N := some 73) (v := ?_) (a' := ?_) #[true, true, true, true, true, true, true, true, true, true, true, true, true, true, true, false, true, false, false, false, false, false] rfl rfl (by kernel_rfl) (fun _ _ _ h => h) (Or.inl ⟨by rfl, ?_⟩) hHeld ?_ ?_
        rotate_left
        · intro w' hS
          refine Eq.trans (run_load_segG hS rfl ag44 rfl at1 (whole _) (mc_size _)) ?_
          with_reducible rfl
        rotate_left
        · simp only [Act.put, List.setIfInBounds_toArray, List.set_cons_zero, List.set_cons_succ, Nat.zero_add, Nat.add_zero, Nat.mul_one, Int.toNat_natCast]
          rfl
        refine PrintLast.one_ (i := 15) (N := some 72) #[true, true, true, true, true, true, true, true, true, true, true, true, true, true, true, true, true, false, false, false, false, false] rfl rfl (by kernel_rfl) (by decide) (fun K hK => ?_)
        refine step_callr (by rfl) HS.out rfl rfl Try.func14 (by kernel_rfl) rfl (by (try simp only [List.map_toArray, List.map_cons, List.map_nil]); first | done | rfl) (c_implKeptOf m2 wf2.M.1 wf2.M.2 _) ?_
        intro W_ HP; clear hHeld; clear HS; have HS := Aside0.mk HP; clear HP
        refine hK.out _ _ HS.out (fun hHeld => ?_)
        clear hK K
        refine PrintLast.norm_ (a' := ?_) ?_ ?_
        rotate_left
        · show Act.put _ (some 72) _ = _
          simp only [Act.put, List.setIfInBounds_toArray, List.set_cons_zero, List.set_cons_succ, Nat.zero_add, Nat.add_zero, Nat.mul_one, Int.toNat_natCast]
          rfl
        refine PrintLast.one_ (i := 17) (N := some 74) #[true, true, true, true, true, true, true, true, true, true, true, true, true, true, true, true, true, true, false, false, false, false] rfl rfl (by kernel_rfl) (by decide) (fun K hK => ?_)
        refine step_callr (by rfl) HS.out rfl rfl Try.func20 (by kernel_rfl) rfl (by (try simp only [List.map_toArray, List.map_cons, List.map_nil]); first | done | rfl) (c_MemSame' ho2 _) ?_
        intro W_ HP; clear hHeld; clear HS; have HS := Aside0.mk HP; clear HP
        refine hK.out _ _ HS.out (fun hHeld => ?_)
        clear hK K
        refine PrintLast.norm_ (a' := ?_) ?_ ?_
        rotate_left
        · show Act.put _ (some 74) _ = _
          simp only [Act.put, List.setIfInBounds_toArray, List.set_cons_zero, List.set_cons_succ, Nat.zero_add, Nat.add_zero, Nat.mul_one, Int.toNat_natCast]
          rfl
        refine PrintLast.pure_ (i := 18) (N := some 75) (v := ?_) (a' := ?_) #[true, true, true, true, true, true, true, true, true, true, true, true, true, true, true, true, true, true, true, false, false, false] rfl rfl (by kernel_rfl) (fun _ _ _ h => h) (Or.inl ⟨by rfl, ?_⟩) ?_ ?_
        rotate_left
        · intro w'
          go_simp
          with_reducible rfl
        rotate_left
        · simp only [Act.put, List.setIfInBounds_toArray, List.set_cons_zero, List.set_cons_succ, Nat.zero_add, Nat.add_zero, Nat.mul_one, Int.toNat_natCast]
          rfl
        refine PrintLast.pure_ (i := 19) (N := some 76) (v := ?_) (a' := ?_) #[true, true, true, true, true, true, true, true, true, true, true, true, true, true, true, true, true, true, true, true, false, false] rfl rfl (by kernel_rfl) (fun _ _ _ h => h) (Or.inl ⟨by rfl, ?_⟩) ?_ ?_
        rotate_left
        · intro w'
          go_simp
          with_reducible rfl
        rotate_left
        · simp only [Act.put, List.setIfInBounds_toArray, List.set_cons_zero, List.set_cons_succ, Nat.zero_add, Nat.add_zero, Nat.mul_one, Int.toNat_natCast]
          rfl
        refine PrintLast.pure_ (i := 20) (N := some 77) (v := ?_) (a' := ?_) #[true, true, true, true, true, true, true, true, true, true, true, true, true, true, true, true, true, true, true, true, true, false] rfl rfl (by kernel_rfl) (fun _ _ _ h => h) (Or.inl ⟨by rfl, ?_⟩) ?_ ?_
        rotate_left
        · intro w'
          go_simp
          with_reducible rfl
        rotate_left
        · simp only [Act.put, List.setIfInBounds_toArray, List.set_cons_zero, List.set_cons_succ, Nat.zero_add, Nat.add_zero, Nat.mul_one, Int.toNat_natCast]
          rfl
        refine PrintLast.pure_ (i := 21) (N := some 4) (v := ?_) (a' := ?_) #[true, true, true, true, true, true, true, true, true, true, true, true, true, true, true, true, true, true, true, true, true, true] rfl rfl (by kernel_rfl) (fun _ _ _ h => h) (Or.inl ⟨by rfl, ?_⟩) ?_ ?_
        rotate_left
        · intro w'
          go_simp
          with_reducible rfl
        rotate_left
        · simp only [Act.put, List.setIfInBounds_toArray, List.set_cons_zero, List.set_cons_succ, Nat.zero_add, Nat.add_zero, Nat.mul_one, Int.toNat_natCast]
          rfl
        refine PrintLast.done_ (by kernel_rfl) ?_
        clear hHeld
        go_wp2_with fail
        go_ret
        exact ⟨_, rfl, rfl, (H3.out.call HS.out.below).below⟩

theorem law_FnKeptBack {w : World} (a0 : Option Addr) (len0 cap0 : Nat) (z0 : List Int) (w0 : (a0 = none ∧ len0 = 0 ∧ cap0 = 0 ∧ z0 = []) ∨ ∃ x, a0 = some x ∧ len0 ≤ cap0 ∧ cap0 ≤ maxLen ∧ z0.length = cap0 ∧ (∀ i, i < z0.length → w.cell? (x.add i) = some (.int .u8 (z0.getD i 0))) ∧ ∀ n ∈ z0, (Lit.int .u8 n).wf = true) (a1 : Option Addr) (len1 cap1 : Nat) (z1 : List Int) (w1 : (a1 = none ∧ len1 = 0 ∧ cap1 = 0 ∧ z1 = []) ∨ ∃ x, a1 = some x ∧ len1 ≤ cap1 ∧ cap1 ≤ maxLen ∧ z1.length = cap1 ∧ (∀ i, i < z1.length → w.cell? (x.add i) = some (.int .u8 (z1.getD i 0))) ∧ ∀ n ∈ z1, (Lit.int .u8 n).wf = true) : Calls Try.prog 6 #[.slice a0 len0 cap0, .slice a1 len1 cap1] w (Ret w (· = .bool true)) := by
  obtain ⟨l, rfl, hr0, hm0, hw0, hc⟩ := ReadsInt.ofRowC w0
  obtain ⟨l1, rfl, hr1, hm1, hw1, hc1⟩ := ReadsInt.ofRowC w1
  exact law_FnKeptBack0 l l1 a0 a1 cap0 cap1 w (Kd.C_of_reads (d := (0 : Int)) (h1 := fun _ => rfl) hr0) hc (Tell.bytes_of_wf hw0) (Kd.C_of_reads (d := (0 : Int)) (h1 := fun _ => rfl) hr1) hc1 (Tell.bytes_of_wf hw1)


end Go.Proofs.Ytdmjdcapkjnipaa.K
