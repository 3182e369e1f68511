/- Walks over the ladders' memory: what the functions of this seat answer. -/
import Derived.Test.YtidficffkghlkaaDoorProg
import Derived.Test.YtidficffkghlkaaDoorMW
import Derived.WalkKit
import Derived.Deep.LoopGhost
import Derived.Deep.DeepCutAuto
import Derived.BigFrame
import Derived.Deep.QuietTactic
import Derived.BigQuiet
import Derived.Test.YtidficffkghlkaaDoorKO
import Derived.Test.YtidficffkghlkaaDoorRE
namespace Go.Proofs.YtidficffkghlkaaDoor.K
open Go Go.RowKit Go.Proofs.YtidficffkghlkaaDoorW Go.Proofs.YtidficffkghlkaaDoorW.PrintWords Go.Proofs.YtidficffkghlkaaDoor.MW
set_option linter.unusedVariables false
set_option linter.unusedSimpArgs false
set_option maxRecDepth 100000
theorem ze42 : zeroOf Tryd.prog 42 = some (#[.int .i64 0, .int .i64 0, .int .i64 0]) := by kernel_rfl
theorem fo49_1 : fieldOff Tryd.prog 49 1 = some 1 := by kernel_rfl
theorem on47 : oneT Tryd.prog 47 = true := by kernel_rfl
theorem pl42 : ∃ fs, Tryd.prog.underlying 42 = some (.struct fs) ∧ ∀ W : World, (fs.mapM fun f => do pure (f.offset, ← sizeOf f.type) : Sem (Array (Nat × Nat))).run Tryd.prog W = .ok #[(0, 1), (1, 1), (2, 1)] W := ⟨_, Tryd.underlying42, fun W => by kernel_rfl⟩
theorem ungate {P : Program} {ops : Array Oper} {rest : List Oper} {o : Oper} {a : Act} {Q : Exit → Act → World → Prop} {w : World} (hw : Region.wanted o (yielded ops a.tmps) = true) (h : wpList P ops Q ({ o with guard := none } :: rest) a w) : wpList P ops Q (o :: rest) a w := by
  simp only [wpList] at h ⊢
  rw [if_pos hw]
  rw [if_pos (by simp [Region.wanted])] at h
  exact h

/-! ### Arguments -/
def slS (P : Program) (t : TypeId) (s : Nat) : Bool :=
  match P.underlying t with
  | some (.slice e) => (P.info? e).map (·.size) == some s
  | _ => false
section
variable {P : Program} {ops : Array Oper} {rest : List Oper} {o : Oper} {a : Act} {Q : Exit → Act → World → Prop} {w W : World} {L : List (Nat × Array Value)} {ty : TypeId} {x y p : Operand} {ad : Addr} {n c s g off : Nat} {k : IntKind} {i : Int} {cs seg : Array Value}
theorem run_index_el (ho : o.op = .indexAddr ty x y) (hx : a.eval x = .slice (some ad) n c) (hy : a.eval y = .int k i) (hs : slS P ty s = true) (h0 : 0 ≤ i) (h1 : i < n) : (execOp a.eval o).run P W = .ok (.value (.pointer (some (ad.add (i.toNat * s))))) W := by
  unfold slS at hs
  cases hu : P.underlying ty with
  | none => rw [hu] at hs; cases hs
  | some d =>
    rw [hu] at hs
    cases d <;> simp at hs
    rename_i e
    cases hi : P.info? e with
    | none => simp [hi] at hs
    | some ii =>
      simp [hi] at hs
      unfold execOp
      simp [ho, hx, hy, Instr.indexAt, asIntOf, run_underlying hu, sizeOf, typeInfo, hi, hs, h0, h1]
theorem run_load_old (ho : o.op = .load ty p) (hz : aggSize P ty = some n) (hp : a.eval p = .pointer (some ⟨g, off, none⟩)) (hg : ∃ t, W.heap[g]? = some (.cells cs t (0, 0))) (hs : ∀ j, j < seg.size → cs[off + j]? = seg[j]?) (hn : seg.size = n) : (execOp a.eval o).run P W = .ok (.value (.agg seg)) W := by
  unfold execOp
  simp [ho, hp, Instr.loadAt, Instr.sureAddr, run_loadVar_seg hg (hn ▸ hz) hs]
end
abbrev Dev := Int × Int × Int
def da (d : Dev) : Array Value := #[.int .i64 d.1, .int .i64 d.2.1, .int .i64 d.2.2]
/-- Operands in memory. -/
def ArgsAt (W : World) (v : Value) (l : List Dev) : Prop := ∃ g c cs, v = .slice (some ⟨g, 0, none⟩) l.length c ∧ g < W.heap.size ∧ (∃ t, W.heap[g]? = some (.cells cs t (0, 0))) ∧ ∀ i, i < l.length → ∀ j, j < 3 → cs[i * 3 + j]? = (da (l.getD i (0, 0, 0)))[j]?
theorem ArgsAt.below {W W' : World} {v : Value} {l : List Dev} (h : ArgsAt W v l) (hb : Below W.heap.size W W') : ArgsAt W' v l := by
  obtain ⟨g, c, cs, h1, h2, ⟨t, h3⟩, h4⟩ := h
  exact ⟨g, c, cs, h1, Nat.lt_of_lt_of_le h2 hb.size, ⟨t, (hb.block g h2).trans h3⟩, h4⟩

theorem sl25 : slS Tryd.prog 47 3 = true := by kernel_rfl
theorem Addr.add0 (g i : Nat) : (⟨g, 0, none⟩ : Addr).add i = ⟨g, i, none⟩ := by unfold Addr.add; split <;> simp_all
set_option maxHeartbeats 4000000 in
set_option maxRecDepth 100000 in
theorem c_arg (op : Int) (v : Value) (l : List Dev) (i : Nat) (ii : Int) (hii : ii = i) (w : World) (ha : ArgsAt w v l) : Calls Tryd.prog 40 #[.agg #[.int .i64 op, v], .int .i64 ii] w (Ret w (· = .agg (da (l.getD i (0, 0, 0))))) := by
  subst hii
  have HS := Aside0.mk (Priv.nil w)
  obtain ⟨g, c, cs, rfl, h2, ⟨t, h3⟩, h4⟩ := ha
  by_cases hi : i < l.length
  · have h5 := h4 i hi
    clear h4
    generalize l.getD i (0, 0, 0) = d at *
    obtain ⟨d1, d2, d3⟩ := d
    have HD : Aside0 (∀ j, j < (#[.int .i64 d1, .int .i64 d2, .int .i64 d3] : Array Value).size → cs[i * 3 + j]? = (#[.int .i64 d1, .int .i64 d2, .int .i64 d3] : Array Value)[j]?) := ⟨fun j hj => h5 j hj⟩
    clear h5
    have hlt : (i : Int) < (l.length : Int) := by omega
    go_enter Tryd.func40, Tryd.ntmps40
    go_wp2_with ((first | ((with_reducible refine gate_dst (N := 14) rfl ?_); (refine ev_value rfl (run_index_el rfl rfl rfl sl25 (Int.natCast_nonneg _) (by omega)) ?_); simp only [Addr.add0, Int.toNat_natCast]) | ((with_reducible refine gate_dst (N := 15) rfl ?_); (refine ev_value rfl (run_load_old rfl ag42 rfl (Exists.intro t ((HS.out.below.block g h2).trans h3)) HD.out rfl) ?_)) | (first
      | ((with_reducible refine gate_dst (N := 2) rfl ?_); (with_reducible refine box_new HS.out rfl rfl (by first | exact eval_tmp rfl | exact eval_const) ?_); intro g2 W2_ HP; clear HS; have HS := Aside0.mk HP; clear HP)
      | ((with_reducible refine gate_dst (N := 4) rfl ?_); (with_reducible refine alloc_new HS.out rfl rfl ze42 ?_); intro g4 W4_ HP; clear HS; have HS := Aside0.mk HP; clear HP)
      | ((with_reducible refine gate_dst (N := 6) rfl ?_); (with_reducible refine field_at rfl rfl rfl fo49_1 ?_); (try simp only [toNat_16, toNat_12, Int.toNat_natCast, Nat.zero_add, Nat.add_zero, Nat.mul_one]))
      | ((with_reducible refine gate_dst (N := 7) rfl ?_); (with_reducible refine load_one HS.out rfl rfl on47 rfl (by first | exact at0 | exact at1 | exact at2 | exact at3 | exact at4 | exact at5 | exact at6) (by with_reducible first | exact dc_get _ _ (by omega) | exact rc_get _ _ (by omega) | exact at0a | exact at1a | exact at2a | exact at3a) ?_))
      | ((with_reducible refine gate_dst (N := 10) rfl ?_); (refine build_new rfl rfl pl42 ze42 (by simp only [List.map_toArray, List.map_cons, List.map_nil]; exact fill_nil) ?_))
      | ((with_reducible refine gate_store (t := 42) (p := 4) rfl ?_); (with_reducible refine store_seg HS.out rfl rfl rfl ag42 rfl (by first | exact eval_tmp rfl | exact eval_const) (by first | exact at0 | exact at1 | exact at2 | exact at3 | exact at4 | exact at5 | exact at6) (by with_reducible first | exact tc_put _ _ (by omega) _ _ | exact cc_put _ _ (by omega) _ _ _ | exact dc_put _ _ (by omega) _ | exact rc_put _ _ (by omega) _ | exact lay_mc _ _ | exact lay_tc _ _ | exact lay_cc _ _ | exact lay_dc _ _ | exact lay_rc _ _ | exact lay2_0 | exact lay2_1 | exact lay3_0 | exact lay3_1 | exact lay3_2 | exact lay2_w | exact lay3_w) (by with_reducible first | exact mc_size _ | exact tc_size _ | exact cc_size _ | exact dc_size _ | exact rc_size _ | exact sz1 | exact sz2 | exact sz3 | exact sz4) (by simp only [mc_size, tc_size, cc_size, dc_size, rc_size, List.size_toArray, List.length_cons, List.length_nil]; omega) (by first | (with_reducible first | exact mc_one _ | exact tc_one _ | exact cc_one _ | exact dc_one _ | exact rc_one _ | exact t2_one _ _ | exact t3_one _ _ _) | (simp [Value.oneCell']; done)) ?_); intro W_ HP; clear HS; have HS := Aside0.mk HP; clear HP; (try simp only [List.set_cons_zero, List.set_cons_succ] at HS))
      | ((with_reducible refine gate_dst (N := 11) rfl ?_); (with_reducible refine field_at rfl rfl rfl fo49_1 ?_); (try simp only [toNat_16, toNat_12, Int.toNat_natCast, Nat.zero_add, Nat.add_zero, Nat.mul_one]))
      | ((with_reducible refine gate_dst (N := 12) rfl ?_); (with_reducible refine load_one HS.out rfl rfl on47 rfl (by first | exact at0 | exact at1 | exact at2 | exact at3 | exact at4 | exact at5 | exact at6) (by with_reducible first | exact dc_get _ _ (by omega) | exact rc_get _ _ (by omega) | exact at0a | exact at1a | exact at2a | exact at3a) ?_))
      | ((with_reducible refine gate_store (t := 42) (p := 4) rfl ?_); (with_reducible refine store_seg HS.out rfl rfl rfl ag42 rfl (by first | exact eval_tmp rfl | exact eval_const) (by first | exact at0 | exact at1 | exact at2 | exact at3 | exact at4 | exact at5 | exact at6) (by with_reducible first | exact tc_put _ _ (by omega) _ _ | exact cc_put _ _ (by omega) _ _ _ | exact dc_put _ _ (by omega) _ | exact rc_put _ _ (by omega) _ | exact lay_mc _ _ | exact lay_tc _ _ | exact lay_cc _ _ | exact lay_dc _ _ | exact lay_rc _ _ | exact lay2_0 | exact lay2_1 | exact lay3_0 | exact lay3_1 | exact lay3_2 | exact lay2_w | exact lay3_w) (by with_reducible first | exact mc_size _ | exact tc_size _ | exact cc_size _ | exact dc_size _ | exact rc_size _ | exact sz1 | exact sz2 | exact sz3 | exact sz4) (by simp only [mc_size, tc_size, cc_size, dc_size, rc_size, List.size_toArray, List.length_cons, List.length_nil]; omega) (by first | (with_reducible first | exact mc_one _ | exact tc_one _ | exact cc_one _ | exact dc_one _ | exact rc_one _ | exact t2_one _ _ | exact t3_one _ _ _) | (simp [Value.oneCell']; done)) ?_); intro W_ HP; clear HS; have HS := Aside0.mk HP; clear HP; (try simp only [List.set_cons_zero, List.set_cons_succ] at HS)))); (try simp only [Act.put, List.setIfInBounds_toArray, List.set_cons_zero, List.set_cons_succ]))
    refine ret_agg HS.out (by rfl) (by rfl) (by rfl) (by first | exact at0 | exact at1 | exact at2 | exact at3 | exact at4 | exact at5 | exact at6) ag42 (by with_reducible first | exact mc_size _ | exact tc_size _ | exact cc_size _ | exact dc_size _ | exact rc_size _ | exact sz1 | exact sz2 | exact sz3 | exact sz4) ?_
    exact ⟨_, rfl, rfl, HS.out.below⟩
  · have e_ : l.getD i (0, 0, 0) = (0, 0, 0) := by rw [List.getD_eq_getElem?_getD, List.getElem?_eq_none (by omega)]; rfl
    rw [e_]
    have hlt : (l.length : Int) ≤ i := by omega
    clear h4 hi e_
    go_enter Tryd.func40, Tryd.ntmps40
    go_wp2_with ((first | (first
      | ((with_reducible refine gate_dst (N := 2) rfl ?_); (with_reducible refine box_new HS.out rfl rfl (by first | exact eval_tmp rfl | exact eval_const) ?_); intro g2 W2_ HP; clear HS; have HS := Aside0.mk HP; clear HP)
      | ((with_reducible refine gate_dst (N := 4) rfl ?_); (with_reducible refine alloc_new HS.out rfl rfl ze42 ?_); intro g4 W4_ HP; clear HS; have HS := Aside0.mk HP; clear HP)
      | ((with_reducible refine gate_dst (N := 6) rfl ?_); (with_reducible refine field_at rfl rfl rfl fo49_1 ?_); (try simp only [toNat_16, toNat_12, Int.toNat_natCast, Nat.zero_add, Nat.add_zero, Nat.mul_one]))
      | ((with_reducible refine gate_dst (N := 7) rfl ?_); (with_reducible refine load_one HS.out rfl rfl on47 rfl (by first | exact at0 | exact at1 | exact at2 | exact at3 | exact at4 | exact at5 | exact at6) (by with_reducible first | exact dc_get _ _ (by omega) | exact rc_get _ _ (by omega) | exact at0a | exact at1a | exact at2a | exact at3a) ?_))
      | ((with_reducible refine gate_dst (N := 10) rfl ?_); (refine build_new rfl rfl pl42 ze42 (by simp only [List.map_toArray, List.map_cons, List.map_nil]; exact fill_nil) ?_))
      | ((with_reducible refine gate_store (t := 42) (p := 4) rfl ?_); (with_reducible refine store_seg HS.out rfl rfl rfl ag42 rfl (by first | exact eval_tmp rfl | exact eval_const) (by first | exact at0 | exact at1 | exact at2 | exact at3 | exact at4 | exact at5 | exact at6) (by with_reducible first | exact tc_put _ _ (by omega) _ _ | exact cc_put _ _ (by omega) _ _ _ | exact dc_put _ _ (by omega) _ | exact rc_put _ _ (by omega) _ | exact lay_mc _ _ | exact lay_tc _ _ | exact lay_cc _ _ | exact lay_dc _ _ | exact lay_rc _ _ | exact lay2_0 | exact lay2_1 | exact lay3_0 | exact lay3_1 | exact lay3_2 | exact lay2_w | exact lay3_w) (by with_reducible first | exact mc_size _ | exact tc_size _ | exact cc_size _ | exact dc_size _ | exact rc_size _ | exact sz1 | exact sz2 | exact sz3 | exact sz4) (by simp only [mc_size, tc_size, cc_size, dc_size, rc_size, List.size_toArray, List.length_cons, List.length_nil]; omega) (by first | (with_reducible first | exact mc_one _ | exact tc_one _ | exact cc_one _ | exact dc_one _ | exact rc_one _ | exact t2_one _ _ | exact t3_one _ _ _) | (simp [Value.oneCell']; done)) ?_); intro W_ HP; clear HS; have HS := Aside0.mk HP; clear HP; (try simp only [List.set_cons_zero, List.set_cons_succ] at HS))
      | ((with_reducible refine gate_dst (N := 11) rfl ?_); (with_reducible refine field_at rfl rfl rfl fo49_1 ?_); (try simp only [toNat_16, toNat_12, Int.toNat_natCast, Nat.zero_add, Nat.add_zero, Nat.mul_one]))
      | ((with_reducible refine gate_dst (N := 12) rfl ?_); (with_reducible refine load_one HS.out rfl rfl on47 rfl (by first | exact at0 | exact at1 | exact at2 | exact at3 | exact at4 | exact at5 | exact at6) (by with_reducible first | exact dc_get _ _ (by omega) | exact rc_get _ _ (by omega) | exact at0a | exact at1a | exact at2a | exact at3a) ?_))
      | ((with_reducible refine gate_store (t := 42) (p := 4) rfl ?_); (with_reducible refine store_seg HS.out rfl rfl rfl ag42 rfl (by first | exact eval_tmp rfl | exact eval_const) (by first | exact at0 | exact at1 | exact at2 | exact at3 | exact at4 | exact at5 | exact at6) (by with_reducible first | exact tc_put _ _ (by omega) _ _ | exact cc_put _ _ (by omega) _ _ _ | exact dc_put _ _ (by omega) _ | exact rc_put _ _ (by omega) _ | exact lay_mc _ _ | exact lay_tc _ _ | exact lay_cc _ _ | exact lay_dc _ _ | exact lay_rc _ _ | exact lay2_0 | exact lay2_1 | exact lay3_0 | exact lay3_1 | exact lay3_2 | exact lay2_w | exact lay3_w) (by with_reducible first | exact mc_size _ | exact tc_size _ | exact cc_size _ | exact dc_size _ | exact rc_size _ | exact sz1 | exact sz2 | exact sz3 | exact sz4) (by simp only [mc_size, tc_size, cc_size, dc_size, rc_size, List.size_toArray, List.length_cons, List.length_nil]; omega) (by first | (with_reducible first | exact mc_one _ | exact tc_one _ | exact cc_one _ | exact dc_one _ | exact rc_one _ | exact t2_one _ _ | exact t3_one _ _ _) | (simp [Value.oneCell']; done)) ?_); intro W_ HP; clear HS; have HS := Aside0.mk HP; clear HP; (try simp only [List.set_cons_zero, List.set_cons_succ] at HS)))); (try simp only [Act.put, List.setIfInBounds_toArray, List.set_cons_zero, List.set_cons_succ]))
    refine ret_agg HS.out (by rfl) (by rfl) (by rfl) (by first | exact at0 | exact at1 | exact at2 | exact at3 | exact at4 | exact at5 | exact at6) ag42 (by with_reducible first | exact mc_size _ | exact tc_size _ | exact cc_size _ | exact dc_size _ | exact rc_size _ | exact sz1 | exact sz2 | exact sz3 | exact sz4) ?_
    exact ⟨_, rfl, rfl, HS.out.below⟩

theorem da_eq (d : Dev) : da d = #[.int .i64 d.1, .int .i64 d.2.1, .int .i64 d.2.2] := rfl
theorem c_arg2 (op : Int) (v : Value) (l : List Dev) (i : Nat) (ii : Int) (hii : ii = i) (d : Dev) (hd : l.getD i (0, 0, 0) = d) {w W : World} {L : List (Nat × Array Value)} (ha : ArgsAt w v l) (HS : Priv w W L) : Calls Tryd.prog 40 #[.agg #[.int .i64 op, v], .int .i64 ii] W (Ret W (· = .agg #[.int .i64 d.1, .int .i64 d.2.1, .int .i64 d.2.2])) := by
  subst hd
  exact c_arg op v l i ii hii W (ha.below HS.below)

theorem ArgsAt.two {w W : World} {L : List (Nat × Array Value)} (HS : Priv w W L) {i g c : Nat} {a b : Dev} (hi : L[i]? = some (g, #[.int .i64 a.1, .int .i64 a.2.1, .int .i64 a.2.2, .int .i64 b.1, .int .i64 b.2.1, .int .i64 b.2.2])) : ArgsAt W (.slice (some ⟨g, 0, none⟩) 2 c) [a, b] := by
  refine ⟨g, c, _, rfl, HS.lt (List.mem_of_getElem? hi), HS.at_ hi, fun i hi j hj => ?_⟩
  have hi : i < 2 := hi
  match i, hi, j, hj with
  | 0, _, 0, _ => rfl
  | 0, _, 1, _ => rfl
  | 0, _, 2, _ => rfl
  | 1, _, 0, _ => rfl
  | 1, _, 1, _ => rfl
  | 1, _, 2, _ => rfl
theorem ArgsAt.one {w W : World} {L : List (Nat × Array Value)} (HS : Priv w W L) {i g c : Nat} {a : Dev} (hi : L[i]? = some (g, #[.int .i64 a.1, .int .i64 a.2.1, .int .i64 a.2.2])) : ArgsAt W (.slice (some ⟨g, 0, none⟩) 1 c) [a] := by
  refine ⟨g, c, _, rfl, HS.lt (List.mem_of_getElem? hi), HS.at_ hi, fun i hi j hj => ?_⟩
  have hi : i < 1 := hi
  match i, hi, j, hj with
  | 0, _, 0, _ => rfl
  | 0, _, 1, _ => rfl
  | 0, _, 2, _ => rfl
section
variable {P : Program} {ops : Array Oper} {rest : List Oper} {o : Oper} {a : Act} {Q : Exit → Act → World → Prop} {w W : World} {L : List (Nat × Array Value)} {n c : Nat} {cs : Array Value} {t : TypeId}
theorem ev_lit (HS : Priv w W L) (hgd : o.guard = none) (hrun : (execOp a.eval o).run P W = .ok (.value (.slice (some ⟨W.heap.size, 0, none⟩) n c)) (W.alloc (.cells cs t))) (h : ∀ g W', Priv w W' ((g, cs) :: L) → wpList P ops Q rest (a.put o.dst (.slice (some ⟨g, 0, none⟩) n c)) W') : wpList P ops Q (o :: rest) a W := ev_value hgd hrun (h _ _ (HS.alloc cs t))
end
theorem s22 : sl8 Tryd.prog 22 = true := by kernel_rfl

end Go.Proofs.YtidficffkghlkaaDoor.K
