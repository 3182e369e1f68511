/- Walks over the ladders' memory: what the functions of this seat answer. -/
import Derived.Test.YtdmjdcapkjnipaaProg
import Derived.Test.YtdmjdcapkjnipaaMW
import Derived.WalkKit
import Derived.Deep.LoopGhost
import Derived.Deep.DeepCutAuto
import Derived.BigFrame
import Derived.Deep.QuietTactic
import Derived.BigQuiet
import Derived.Test.YtdmjdcapkjnipaaKA
import Derived.Test.YtdmjdcapkjnipaaKB
import Derived.Test.YtdmjdcapkjnipaaKC
import Derived.Test.YtdmjdcapkjnipaaOP
import Derived.Test.YtdmjdcapkjnipaaRW
import Derived.Test.YtdmjdcapkjnipaaRL
import Derived.Test.YtdmjdcapkjnipaaQKept
import Derived.Test.YtdmjdcapkjnipaaKD
import Derived.Test.YtdmjdcapkjnipaaKE
import Derived.Test.YtdmjdcapkjnipaaKF
namespace Go.Proofs.Ytdmjdcapkjnipaa.K
open Go Go.RowKit Go.Proofs.YtdmjdcapkjnipaaW Go.Proofs.YtdmjdcapkjnipaaW.PrintWords Go.Proofs.Ytdmjdcapkjnipaa.MW
set_option linter.unusedVariables false
set_option linter.unusedSimpArgs false
set_option maxRecDepth 100000

open QKept
def Own (w W : World) (L : List (Nat × Array Value)) (v0 : Value) (l0 : List Int) (vg : Value) (lg : List Int) : Prop :=
  ∃ X : World, Priv w X L ∧ Bytes X v0 l0 ∧ Below X.heap.size X W ∧ (Kd.int .u8).R 5 W X.heap.size (fun _ => True) vg lg
section
variable {w W W' : World} {L : List (Nat × Array Value)} {v0 vg v u : Value} {l0 lg l ys : List Int}
theorem Own.priv (h : Own w W L v0 l0 vg lg) : Priv w W L := by obtain ⟨X, h1, h2, h3, h4⟩ := h; exact h1.call h3
theorem Own.b0 (h : Own w W L v0 l0 vg lg) : Bytes W v0 l0 := by obtain ⟨X, h1, h2, h3, h4⟩ := h; exact h2.below h3
theorem Own.bg (h : Own w W L v0 l0 vg lg) : Bytes W vg lg := by obtain ⟨X, h1, h2, h3, h4⟩ := h; exact Bytes.of_R h4
theorem Own.below (h : Own w W L v0 l0 vg lg) (hb : Below W.heap.size W W') : Own w W' L v0 l0 vg lg := by
  obtain ⟨X, h1, h2, h3, h4⟩ := h
  exact ⟨X, h1, h2, below_then h3 h3.size hb, Kd.R_below h4 hb⟩
theorem Own.mk (h1 : Priv w W L) (h2 : Bytes W v0 l0) (hb : Below W.heap.size W W') (h4 : (Kd.int .u8).R 5 W' W.heap.size (fun _ => True) vg lg) : Own w W' L v0 l0 vg lg := ⟨W, h1, h2, hb, h4⟩
theorem c_eqB (h0 : Bytes W u l) (h1 : Bytes W v l) (hl : l.length = 134) : Calls Try.prog 10 #[u, v] W (Ret W (· = .bool true)) := by
  obtain ⟨A0, c0, rfl, hC0, hc0⟩ := h0.more
  obtain ⟨A1, c1, rfl, hC1, hc1⟩ := h1.more
  obtain ⟨k, hk⟩ := eqByteS_self l (by omega)
  refine Ret.of_eq ((F.laws_eqByteS.calls k A0 c0 l A1 c1 l true W hC0 hc0 hC1 hc1 (hk k (Nat.le_refl _))).mono ?_)
  rintro e w' ⟨he, m, rfl⟩
  exact ⟨he, pw_below_drewN (Below.refl _ _) m⟩
theorem c_mark (h : Own w W L v0 l0 vg lg) (hl : lg.length = 134) : Calls Try.prog 11 #[vg, .int .i64 1] W fun e W' => e = .returned (.int .i64 135) ∧ Own w W' L v0 l0 vg (marks 134) := by
  obtain ⟨X, h1, h2, h3, h4⟩ := h
  obtain ⟨k, hk⟩ := mark_ev lg (by omega)
  have hk' := hk k (Nat.le_refl _)
  rw [hl] at hk'
  refine (F.laws_markByteS.calls k (fun _ => True) vg lg 1 _ _ X W h3 h4 hk').mono ?_
  rintro e W' ⟨rfl, hr, hb, hkp⟩
  exact ⟨rfl, X, h1, h2, hb, Kd.R_mono hr (fun _ _ => trivial)⟩
theorem c_held (h : Bytes W vg (marks 134)) : Calls Try.prog 12 #[vg, .int .i64 1] W (Ret W (· = .int .i64 135)) := by
  obtain ⟨A0, c0, rfl, hC0, hc0⟩ := h.more
  obtain ⟨k, hk⟩ := held_ev 134 (by decide)
  refine Ret.of_eq ((F.laws_heldByteS.calls k A0 c0 _ 1 _ W hC0 hc0 (hk k (Nat.le_refl _))).mono ?_)
  rintro e w' ⟨he, m, rfl⟩
  exact ⟨he, pw_below_drewN (Below.refl _ _) m⟩
end
section
variable {P : Program} {ops : Array Oper} {rest : List Oper} {o : Oper} {a : Act} {Q : Exit → Act → World → Prop} {w W : World} {L : List (Nat × Array Value)} {ys : List Int}
theorem ev_made {f : FuncId} {ars : Array Operand} {ts : Array TypeId} {fn : Func} {args : Array Value} (HS : Priv w W L) (hgd : o.guard = none) (ho : o.op = .call { callee := .value (.func f), args := ars, argTypes := ts })
    (hf : P.funcs[f]? = some fn) (hname : (fn.name == "runtime.NumGoroutine") = false) (hb : fn.body.isSome = true) (hargs : ars.map a.eval = args)
    (hc : Calls P f args W fun e w' => ∃ v0, e = .returned v0 ∧ (Kd.int .u8).R 5 w' W.heap.size (fun _ => True) v0 ys ∧ Below W.heap.size W w')
    (h : ∀ v' W', Priv w W' L → (Kd.int .u8).R 5 W' W.heap.size (fun _ => True) v' ys → Below W.heap.size W W' → wpList P ops Q rest (a.put o.dst v') W') : wpList P ops Q (o :: rest) a W := by
  refine PrintLast.goesL_ (N := o.dst) rfl hgd hf hname hb args ho hargs (hc.mono ?_)
  rintro e W' ⟨v0, rfl, hr, hb⟩
  exact ⟨v0, rfl, h v0 W' (HS.call hb) hr hb⟩
theorem ev_state {f : FuncId} {ars : Array Operand} {ts : Array TypeId} {fn : Func} {args : Array Value} {v : Value} {R : World → Prop} (hgd : o.guard = none) (ho : o.op = .call { callee := .value (.func f), args := ars, argTypes := ts })
    (hf : P.funcs[f]? = some fn) (hname : (fn.name == "runtime.NumGoroutine") = false) (hb : fn.body.isSome = true) (hargs : ars.map a.eval = args)
    (hc : Calls P f args W fun e w' => e = .returned v ∧ R w')
    (h : ∀ W', R W' → wpList P ops Q rest (a.put o.dst v) W') : wpList P ops Q (o :: rest) a W := by
  refine PrintLast.goesL_ (N := o.dst) rfl hgd hf hname hb args ho hargs (hc.mono ?_)
  rintro e W' ⟨rfl, hr⟩
  exact ⟨v, rfl, h W' hr⟩
end

set_option maxHeartbeats 4000000 in
set_option maxRecDepth 100000 in
theorem law_FnExactKeptMake (m : Mm) (wf : m.wf) (w : World) : Calls Try.prog 3 #[.agg (mc m)] w (Ret w (· = .bool true)) := by
  have HS := Aside0.mk (Priv.nil w)
  go_enter Try.func3, Try.ntmps3
  go_wp2_with (first
      | ((with_reducible refine gate_dst (N := 10) rfl ?_); refine ev_made HS.out rfl rfl Try.func7 (by kernel_rfl) rfl (by (try simp only [List.map_toArray, List.map_cons, List.map_nil]); first | done | rfl) (c_specKeptMake m wf _) ?_; intro v10_ W_ HP HR_ HX_; skip; have HB0 := Aside0.mk (Bytes.of_R HR_); clear HR_ HX_; clear HS; have HS := Aside0.mk HP; clear HP; (try simp only [Act.put, List.setIfInBounds_toArray, List.set_cons_zero, List.set_cons_succ]))
      | ((with_reducible refine gate_dst (N := 12) rfl ?_); refine call_ev HS.out rfl rfl Try.func8 (by kernel_rfl) rfl (c_toMem _ _) (by (try simp only [List.map_toArray, List.map_cons, List.map_nil]); first | done | rfl) ?_; rintro v_ W_ rfl HP HB_; clear HS; have HS := Aside0.mk HP; clear HP; have HN_ := HB0.out.below HB_; clear HB0; have HB0 := Aside0.mk HN_; clear HN_; clear HB_; (try simp only [Act.put, List.setIfInBounds_toArray, List.set_cons_zero, List.set_cons_succ]))
      | ((with_reducible refine gate_dst (N := 13) rfl ?_); refine ev_made HS.out rfl rfl Try.func9 (by kernel_rfl) rfl (by (try simp only [List.map_toArray, List.map_cons, List.map_nil]); first | done | rfl) (c_implKeptMake m wf _) ?_; intro v13_ W_ HP HR_ HX_; skip; have HG := Aside0.mk (Own.mk HS.out HB0.out HX_ HR_); clear HB0 HR_ HX_; clear HS; have HS := Aside0.mk HP; clear HP; (try simp only [Act.put, List.setIfInBounds_toArray, List.set_cons_zero, List.set_cons_succ]))
      | ((with_reducible refine gate_dst (N := 16) rfl ?_); refine call_ev HS.out rfl rfl Try.func10 (by kernel_rfl) rfl (c_eqB HG.out.bg HG.out.b0 (keptBytes_length m)) (by (try simp only [List.map_toArray, List.map_cons, List.map_nil]); first | done | rfl) ?_; rintro v_ W_ rfl HP HB_; clear HS; have HS := Aside0.mk HP; clear HP; have HN_ := HG.out.below HB_; clear HG; have HG := Aside0.mk HN_; clear HN_; clear HB_; (try simp only [Act.put, List.setIfInBounds_toArray, List.set_cons_zero, List.set_cons_succ]))
      | ((with_reducible refine gate_dst (N := 20) rfl ?_); refine ev_state rfl rfl Try.func11 (by kernel_rfl) rfl (by (try simp only [List.map_toArray, List.map_cons, List.map_nil]); first | done | rfl) (c_mark HG.out (keptBytes_length m)) ?_; intro W_ HG_; clear HG HS; have HG := Aside0.mk HG_; clear HG_; have HS := Aside0.mk HG.out.priv; (try simp only [Act.put, List.setIfInBounds_toArray, List.set_cons_zero, List.set_cons_succ]))
      | ((with_reducible refine gate_dst (N := 23) rfl ?_); refine call_ev HS.out rfl rfl Try.func12 (by kernel_rfl) rfl (c_held HG.out.bg) (by (try simp only [List.map_toArray, List.map_cons, List.map_nil]); first | done | rfl) ?_; rintro v_ W_ rfl HP HB_; clear HS; have HS := Aside0.mk HP; clear HP; have HN_ := HG.out.below HB_; clear HG; have HG := Aside0.mk HN_; clear HN_; clear HB_; (try simp only [Act.put, List.setIfInBounds_toArray, List.set_cons_zero, List.set_cons_succ]))
      | ((with_reducible refine gate_dst (N := 30) rfl ?_); refine call_ev HS.out rfl rfl Try.func8 (by kernel_rfl) rfl (c_toMem _ _) (by (try simp only [List.map_toArray, List.map_cons, List.map_nil]); first | done | rfl) ?_; rintro v_ W_ rfl HP HB_; clear HS; have HS := Aside0.mk HP; clear HP; have HN_ := HG.out.below HB_; clear HG; have HG := Aside0.mk HN_; clear HN_; clear HB_; (try simp only [Act.put, List.setIfInBounds_toArray, List.set_cons_zero, List.set_cons_succ]))
      | ((with_reducible refine gate_dst (N := 31) rfl ?_); refine ev_made HS.out rfl rfl Try.func9 (by kernel_rfl) rfl (by (try simp only [List.map_toArray, List.map_cons, List.map_nil]); first | done | rfl) (c_implKeptMake m wf _) ?_; intro v31_ W_ HP HR_ HX_; skip; have HN := Aside0.mk (Bytes.of_R HR_); have HN_ := HG.out.below HX_; clear HG; have HG := Aside0.mk HN_; clear HN_; clear HR_ HX_; clear HS; have HS := Aside0.mk HP; clear HP; (try simp only [Act.put, List.setIfInBounds_toArray, List.set_cons_zero, List.set_cons_succ]))
      | ((with_reducible refine gate_dst (N := 34) rfl ?_); refine call_ev HS.out rfl rfl Try.func10 (by kernel_rfl) rfl (c_eqB HN.out HG.out.b0 (keptBytes_length m)) (by (try simp only [List.map_toArray, List.map_cons, List.map_nil]); first | done | rfl) ?_; rintro v_ W_ rfl HP HB_; clear HS; have HS := Aside0.mk HP; clear HP; have HN_ := HG.out.below HB_; clear HG; have HG := Aside0.mk HN_; clear HN_; clear HN; clear HB_; (try simp only [Act.put, List.setIfInBounds_toArray, List.set_cons_zero, List.set_cons_succ]))
      | ((with_reducible refine gate_dst (N := 38) rfl ?_); refine call_ev HS.out rfl rfl Try.func12 (by kernel_rfl) rfl (c_held HG.out.bg) (by (try simp only [List.map_toArray, List.map_cons, List.map_nil]); first | done | rfl) ?_; rintro v_ W_ rfl HP HB_; clear HS; have HS := Aside0.mk HP; clear HP; have HN_ := HG.out.below HB_; clear HG; have HG := Aside0.mk HN_; clear HN_; clear HB_; (try simp only [Act.put, List.setIfInBounds_toArray, List.set_cons_zero, List.set_cons_succ]))
      | ((with_reducible refine gate_dst (N := 1) rfl ?_); (with_reducible refine box_new HS.out rfl rfl (by first | exact eval_tmp rfl | exact eval_const) ?_); intro g1 W1_ HP; clear HS; have HS := Aside0.mk HP; clear HP; (try simp only [Act.put, List.setIfInBounds_toArray, List.set_cons_zero, List.set_cons_succ]))
      | ((with_reducible refine gate_dst (N := 8) rfl ?_); (with_reducible refine load_seg HS.out rfl rfl ag36 rfl (by first | exact at0 | exact at1 | exact at2 | exact at3 | exact at4 | exact at5 | exact at6) (by with_reducible first | exact get_T _ | exact get_C _ | exact get_D _ | exact get_R _ | exact el_T _ _ (by omega) | exact el_C _ _ (by omega) | exact tc_el _ _ (by omega) | exact cc_el _ _ (by omega) | exact whole _) (by with_reducible first | exact mc_size _ | exact tc_size _ | exact cc_size _ | exact dc_size _ | exact rc_size _ | exact sz1 | exact sz2 | exact sz3 | exact sz4) ?_); (try simp only [Act.put, List.setIfInBounds_toArray, List.set_cons_zero, List.set_cons_succ]))
      | ((with_reducible refine gate_dst (N := 9) rfl ?_); refine call_ev HS.out rfl rfl Try.func8 (by kernel_rfl) rfl (c_toMem _ _) (by (try simp only [List.map_toArray, List.map_cons, List.map_nil]); first | done | rfl) ?_; rintro v_ W_ rfl HP HB_; clear HS; have HS := Aside0.mk HP; clear HP; clear HB_; (try simp only [Act.put, List.setIfInBounds_toArray, List.set_cons_zero, List.set_cons_succ]))
      | ((with_reducible refine gate_dst (N := 11) rfl ?_); (with_reducible refine load_seg HS.out rfl rfl ag36 rfl (by first | exact at0 | exact at1 | exact at2 | exact at3 | exact at4 | exact at5 | exact at6) (by with_reducible first | exact get_T _ | exact get_C _ | exact get_D _ | exact get_R _ | exact el_T _ _ (by omega) | exact el_C _ _ (by omega) | exact tc_el _ _ (by omega) | exact cc_el _ _ (by omega) | exact whole _) (by with_reducible first | exact mc_size _ | exact tc_size _ | exact cc_size _ | exact dc_size _ | exact rc_size _ | exact sz1 | exact sz2 | exact sz3 | exact sz4) ?_); (try simp only [Act.put, List.setIfInBounds_toArray, List.set_cons_zero, List.set_cons_succ]))
      | ((with_reducible refine gate_dst (N := 29) rfl ?_); (with_reducible refine load_seg HS.out rfl rfl ag36 rfl (by first | exact at0 | exact at1 | exact at2 | exact at3 | exact at4 | exact at5 | exact at6) (by with_reducible first | exact get_T _ | exact get_C _ | exact get_D _ | exact get_R _ | exact el_T _ _ (by omega) | exact el_C _ _ (by omega) | exact tc_el _ _ (by omega) | exact cc_el _ _ (by omega) | exact whole _) (by with_reducible first | exact mc_size _ | exact tc_size _ | exact cc_size _ | exact dc_size _ | exact rc_size _ | exact sz1 | exact sz2 | exact sz3 | exact sz4) ?_); (try simp only [Act.put, List.setIfInBounds_toArray, List.set_cons_zero, List.set_cons_succ])))
  go_ret
  exact ⟨_, rfl, rfl, HS.out.below⟩

end Go.Proofs.Ytdmjdcapkjnipaa.K
