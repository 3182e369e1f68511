/- Walks over the ladders' memory: what the functions of this seat answer. -/
import Derived.Test.YtidficffkghlkaaDoorProg
import Derived.Test.YtidficffkghlkaaDoorMW
import Derived.WalkKit
import Derived.Deep.LoopGhost
import Derived.Deep.DeepCutAuto
import Derived.BigFrame
import Derived.Deep.QuietTactic
import Derived.BigQuiet
import Derived.Test.YtidficffkghlkaaDoorKQ
import Derived.Test.YtidficffkghlkaaDoorRL
import Derived.Test.YtidficffkghlkaaDoorWEqStruct
import Derived.ChangeKeysEq
import Derived.Test.YtidficffkghlkaaDoorKEq
namespace Go.Proofs.YtidficffkghlkaaDoor.K
open Go Go.RowKit Go.Proofs.YtidficffkghlkaaDoorW Go.Proofs.YtidficffkghlkaaDoorW.PrintWords Go.Proofs.YtidficffkghlkaaDoor.MW
set_option linter.unusedVariables false
set_option linter.unusedSimpArgs false
set_option maxRecDepth 100000
theorem ze35 : zeroOf Tryd.prog 35 = some (rc fun _ => 0) := by kernel_rfl
section
variable {P : Program} {ops : Array Oper} {rest : List Oper} {o : Oper} {a : Act} {Q : Exit → Act → World → Prop} {W : World} {cs zc : Array Value} {ty e : TypeId} {x y : Operand} {v : Value}
def arrOne (P : Program) (t : TypeId) : Option Nat :=
  match P.underlying t with
  | some (.array n e) => if oneT P e then some n else none
  | _ => none
theorem index_val {m : Nat} {k : IntKind} {j : Int} (hgd : o.guard = none) (ho : o.op = .index ty x y) (hx : a.eval x = .agg cs) (hy : a.eval y = .int k j) (hf : arrOne P ty = some m) (h0 : 0 ≤ j) (h1 : j < m) (hs : cs[j.toNat]? = some v) (h : wpList P ops Q rest (a.put o.dst v) W) : wpList P ops Q (o :: rest) a W := by
  refine ev_value hgd ?_ h
  unfold arrOne at hf
  cases hu : P.underlying ty with
  | none => rw [hu] at hf; cases hf
  | some d =>
    rw [hu] at hf
    cases d <;> simp at hf
    rename_i n' e
    obtain ⟨hz, rfl⟩ := hf
    obtain ⟨a1, a2⟩ := isOne_of (W := W) hz
    unfold execOp
    simp [ho, hx, hy, Instr.index, asIntOf, run_underlying hu, h0, h1, part, a1, a2, hs]
theorem build_arr (hgd : o.guard = none) (ho : o.op = .build ty #[]) (hu : ∃ n e, P.underlying ty = some (.array n e) ∧ ∃ c, ∀ W : World, (sizeOf e).run P W = .ok c W) (hz : zeroOf P ty = some zc) (h : wpList P ops Q rest (a.put o.dst (.agg zc)) W) : wpList P ops Q (o :: rest) a W := by
  refine ev_value hgd ?_ h
  obtain ⟨n, e, hu, c, hs⟩ := hu
  unfold zeroOf at hz
  cases hi : P.info? ty with
  | none => rw [hi] at hz; cases hz
  | some ii =>
    rw [hi] at hz
    cases hzz : ii.zero with
    | none => simp [hzz] at hz
    | some z =>
      simp [hzz] at hz
      subst hz
      have hz' : (zeroValue ty).run P W = .ok z W := by simp [zeroValue, typeInfo, hi, hzz]
      unfold execOp
      simp [ho, Instr.build, hz', run_underlying hu, hs, Instr.fill]
end

theorem eql_mem {ops : Array Oper} {rest : List Oper} {o : Oper} {a : Act} {Q : Exit → Act → World → Prop} {W : World} {x y : Operand} {tr : TypeId} {m : Mm} (hgd : o.guard = none) (ho : o.op = .binOp .eql 37 x y tr) (hx : a.eval x = .agg (mc { m with R := fun _ => 0 })) (hy : a.eval y = .agg (mc { m with R := fun _ => 0 })) (h : wpList Tryd.prog ops Q rest (a.put o.dst (.bool true)) W) : wpList Tryd.prog ops Q (o :: rest) a W := by
  refine ev_value hgd ?_ h
  have hg : ∀ x y, (eqGuard .eql 37 x y (.agg (mc { m with R := fun _ => 0 })) (.agg (mc { m with R := fun _ => 0 }))).run Tryd.prog W = .ok () W := fun x y => run_eqGuard_agg W .eql 37 x y _ _ (by kernel_rfl)
  have he : (binOp .eql 37 (.agg (mc { m with R := fun _ => 0 })) (.agg (mc { m with R := fun _ => 0 }))).run Tryd.prog W = .ok (.bool true) W := by rw [run_eql_struct, eq_Mem0 9996 m W]; rfl
  unfold execOp
  simp [ho, hx, hy, hg, he]

theorem size33 (W : World) : (sizeOf 34).run Tryd.prog W = .ok 1 W := by kernel_rfl

theorem ao34 : arrOne Tryd.prog 35 = some 16 := by kernel_rfl

set_option maxHeartbeats 4000000 in
set_option maxRecDepth 100000 in
theorem c_MemSame (m : Mm) (w : World) : Calls Tryd.prog 12 #[.agg (mc m), .agg (mc m)] w (Ret w (· = .bool true)) := by
  have HS := Aside0.mk (Priv.nil w)
  go_enter Tryd.func12, Tryd.ntmps12
  go_wp2_with ((first
      | ((with_reducible refine gate_dst (N := 2) rfl ?_); (with_reducible refine box_new HS.out rfl rfl (by first | exact eval_tmp rfl | exact eval_const) ?_); intro g2 W2_ HP; clear HS; have HS := Aside0.mk HP; clear HP)
      | ((with_reducible refine gate_dst (N := 3) rfl ?_); (with_reducible refine box_new HS.out rfl rfl (by first | exact eval_tmp rfl | exact eval_const) ?_); intro g3 W3_ HP; clear HS; have HS := Aside0.mk HP; clear HP)
      | ((with_reducible refine gate_dst (N := 7) rfl ?_); (with_reducible refine field_at rfl rfl rfl fo37_8 ?_); (try simp only [toNat_16, toNat_12, Int.toNat_natCast, Nat.zero_add, Nat.add_zero, Nat.mul_one]))
      | ((with_reducible refine gate_dst (N := 8) rfl ?_); (with_reducible refine load_seg HS.out rfl rfl ag35 rfl (by first | exact at0 | exact at1 | exact at2 | exact at3 | exact at4 | exact at5 | exact at6) (by with_reducible exact get_R _) (by with_reducible first | exact mc_size _ | exact tc_size _ | exact cc_size _ | exact dc_size _ | exact rc_size _ | exact sz1 | exact sz2 | exact sz3 | exact sz4) ?_))
      | ((with_reducible refine gate_store (t := 35) (p := 23) rfl ?_); (with_reducible refine store_seg HS.out rfl rfl rfl ag35 rfl (by first | exact eval_tmp rfl | exact eval_const) (by first | exact at0 | exact at1 | exact at2 | exact at3 | exact at4 | exact at5 | exact at6) (by with_reducible first | exact set_R _ _ | exact put_R _ _ (by omega) _) (by with_reducible first | exact mc_size _ | exact tc_size _ | exact cc_size _ | exact dc_size _ | exact rc_size _ | exact sz1 | exact sz2 | exact sz3 | exact sz4) (by simp only [mc_size, tc_size, cc_size, dc_size, rc_size, List.size_toArray, List.length_cons, List.length_nil]; omega) (by first | (with_reducible first | exact mc_one _ | exact tc_one _ | exact cc_one _ | exact dc_one _ | exact rc_one _ | exact t2_one _ _ | exact t3_one _ _ _) | (simp [Value.oneCell']; done)) ?_); intro W_ HP; clear HS; have HS := Aside0.mk HP; clear HP; (try simp only [List.set_cons_zero, List.set_cons_succ] at HS))
      | ((with_reducible refine gate_store (t := 35) (p := 24) rfl ?_); (with_reducible refine store_seg HS.out rfl rfl rfl ag35 rfl (by first | exact eval_tmp rfl | exact eval_const) (by first | exact at0 | exact at1 | exact at2 | exact at3 | exact at4 | exact at5 | exact at6) (by with_reducible first | exact set_R _ _ | exact put_R _ _ (by omega) _) (by with_reducible first | exact mc_size _ | exact tc_size _ | exact cc_size _ | exact dc_size _ | exact rc_size _ | exact sz1 | exact sz2 | exact sz3 | exact sz4) (by simp only [mc_size, tc_size, cc_size, dc_size, rc_size, List.size_toArray, List.length_cons, List.length_nil]; omega) (by first | (with_reducible first | exact mc_one _ | exact tc_one _ | exact cc_one _ | exact dc_one _ | exact rc_one _ | exact t2_one _ _ | exact t3_one _ _ _) | (simp [Value.oneCell']; done)) ?_); intro W_ HP; clear HS; have HS := Aside0.mk HP; clear HP; (try simp only [List.set_cons_zero, List.set_cons_succ] at HS))); (try simp only [Act.put, List.setIfInBounds_toArray, List.set_cons_zero, List.set_cons_succ]))
  go_loopw [9] (fun v9 W => ∃ (k : Nat), v9 = .int .i64 k ∧ k ≤ 16 ∧ Aside0 (Priv w W [(g3, mc m), (g2, mc m)])) (fun v9 _ => 16 - (intOf v9).toNat)
  case atStart => exact ⟨0, rfl, by omega, HS⟩
  case round =>
    clear HS
    obtain ⟨k, rfl, hk, HS⟩ := hrel
    by_cases hlt : k < 16
    · go_wp2_with ((first | ((with_reducible refine gate_dst (N := 12) rfl ?_); refine index_val rfl rfl rfl rfl ao34 (Int.natCast_nonneg _) (by omega) (rc_get _ _ (by omega)) ?_) | (go_at_call 38; refine (c_realSame _ _).mono ?_; rintro e_ W_ ⟨rfl, rfl⟩) | (first
      | ((with_reducible refine gate_dst (N := 15) rfl ?_); (with_reducible refine field_at rfl rfl rfl fo37_8 ?_); (try simp only [toNat_16, toNat_12, Int.toNat_natCast, Nat.zero_add, Nat.add_zero, Nat.mul_one]))
      | ((with_reducible refine gate_dst (N := 16) rfl ?_); (with_reducible refine index_at rfl rfl rfl rfl ar35 (by omega) (by omega) ?_); (try simp only [toNat_16, toNat_12, Int.toNat_natCast, Nat.zero_add, Nat.add_zero, Nat.mul_one]))
      | ((with_reducible refine gate_dst (N := 17) rfl ?_); (with_reducible refine load_one HS.out rfl rfl on34 rfl (by first | exact at0 | exact at1 | exact at2 | exact at3 | exact at4 | exact at5 | exact at6) (by with_reducible exact el_R _ _ (by omega)) ?_))
      | ((with_reducible refine gate_store (t := 35) (p := 23) rfl ?_); (with_reducible refine store_seg HS.out rfl rfl rfl ag35 rfl (by first | exact eval_tmp rfl | exact eval_const) (by first | exact at0 | exact at1 | exact at2 | exact at3 | exact at4 | exact at5 | exact at6) (by with_reducible first | exact set_R _ _ | exact put_R _ _ (by omega) _) (by with_reducible first | exact mc_size _ | exact tc_size _ | exact cc_size _ | exact dc_size _ | exact rc_size _ | exact sz1 | exact sz2 | exact sz3 | exact sz4) (by simp only [mc_size, tc_size, cc_size, dc_size, rc_size, List.size_toArray, List.length_cons, List.length_nil]; omega) (by first | (with_reducible first | exact mc_one _ | exact tc_one _ | exact cc_one _ | exact dc_one _ | exact rc_one _ | exact t2_one _ _ | exact t3_one _ _ _) | (simp [Value.oneCell']; done)) ?_); intro W_ HP; clear HS; have HS := Aside0.mk HP; clear HP; (try simp only [List.set_cons_zero, List.set_cons_succ] at HS))
      | ((with_reducible refine gate_store (t := 35) (p := 24) rfl ?_); (with_reducible refine store_seg HS.out rfl rfl rfl ag35 rfl (by first | exact eval_tmp rfl | exact eval_const) (by first | exact at0 | exact at1 | exact at2 | exact at3 | exact at4 | exact at5 | exact at6) (by with_reducible first | exact set_R _ _ | exact put_R _ _ (by omega) _) (by with_reducible first | exact mc_size _ | exact tc_size _ | exact cc_size _ | exact dc_size _ | exact rc_size _ | exact sz1 | exact sz2 | exact sz3 | exact sz4) (by simp only [mc_size, tc_size, cc_size, dc_size, rc_size, List.size_toArray, List.length_cons, List.length_nil]; omega) (by first | (with_reducible first | exact mc_one _ | exact tc_one _ | exact cc_one _ | exact dc_one _ | exact rc_one _ | exact t2_one _ _ | exact t3_one _ _ _) | (simp [Value.oneCell']; done)) ?_); intro W_ HP; clear HS; have HS := Aside0.mk HP; clear HP; (try simp only [List.set_cons_zero, List.set_cons_succ] at HS)))); (try simp only [Act.put, List.setIfInBounds_toArray, List.set_cons_zero, List.set_cons_succ]))
      go_roundw
      case rel => exact ⟨k + 1, by go_num, by omega, HS⟩
      case measure => simp [intOf]; omega
    · go_wp2_with ((first | ((with_reducible refine gate_dst (N := 21) rfl ?_); refine build_arr rfl rfl ⟨16, 34, Tryd.underlying35, 1, size33⟩ ze35 ?_) | ((with_reducible refine gate_dst (N := 22) rfl ?_); refine build_arr rfl rfl ⟨16, 34, Tryd.underlying35, 1, size33⟩ ze35 ?_) | ((with_reducible refine gate_dst (N := 27) rfl ?_); refine eql_mem (m := m) rfl rfl rfl rfl ?_) | (first
      | ((with_reducible refine gate_dst (N := 23) rfl ?_); (with_reducible refine field_at rfl rfl rfl fo37_8 ?_); (try simp only [toNat_16, toNat_12, Int.toNat_natCast, Nat.zero_add, Nat.add_zero, Nat.mul_one]))
      | ((with_reducible refine gate_store (t := 35) (p := 23) rfl ?_); (with_reducible refine store_seg HS.out rfl rfl rfl ag35 rfl (by first | exact eval_tmp rfl | exact eval_const) (by first | exact at0 | exact at1 | exact at2 | exact at3 | exact at4 | exact at5 | exact at6) (by with_reducible first | exact set_R _ _ | exact put_R _ _ (by omega) _) (by with_reducible first | exact mc_size _ | exact tc_size _ | exact cc_size _ | exact dc_size _ | exact rc_size _ | exact sz1 | exact sz2 | exact sz3 | exact sz4) (by simp only [mc_size, tc_size, cc_size, dc_size, rc_size, List.size_toArray, List.length_cons, List.length_nil]; omega) (by first | (with_reducible first | exact mc_one _ | exact tc_one _ | exact cc_one _ | exact dc_one _ | exact rc_one _ | exact t2_one _ _ | exact t3_one _ _ _) | (simp [Value.oneCell']; done)) ?_); intro W_ HP; clear HS; have HS := Aside0.mk HP; clear HP; (try simp only [List.set_cons_zero, List.set_cons_succ] at HS))
      | ((with_reducible refine gate_dst (N := 24) rfl ?_); (with_reducible refine field_at rfl rfl rfl fo37_8 ?_); (try simp only [toNat_16, toNat_12, Int.toNat_natCast, Nat.zero_add, Nat.add_zero, Nat.mul_one]))
      | ((with_reducible refine gate_store (t := 35) (p := 24) rfl ?_); (with_reducible refine store_seg HS.out rfl rfl rfl ag35 rfl (by first | exact eval_tmp rfl | exact eval_const) (by first | exact at0 | exact at1 | exact at2 | exact at3 | exact at4 | exact at5 | exact at6) (by with_reducible first | exact set_R _ _ | exact put_R _ _ (by omega) _) (by with_reducible first | exact mc_size _ | exact tc_size _ | exact cc_size _ | exact dc_size _ | exact rc_size _ | exact sz1 | exact sz2 | exact sz3 | exact sz4) (by simp only [mc_size, tc_size, cc_size, dc_size, rc_size, List.size_toArray, List.length_cons, List.length_nil]; omega) (by first | (with_reducible first | exact mc_one _ | exact tc_one _ | exact cc_one _ | exact dc_one _ | exact rc_one _ | exact t2_one _ _ | exact t3_one _ _ _) | (simp [Value.oneCell']; done)) ?_); intro W_ HP; clear HS; have HS := Aside0.mk HP; clear HP; (try simp only [List.set_cons_zero, List.set_cons_succ] at HS))
      | ((with_reducible refine gate_dst (N := 25) rfl ?_); (with_reducible refine load_seg HS.out rfl rfl ag37 rfl (by first | exact at0 | exact at1 | exact at2 | exact at3 | exact at4 | exact at5 | exact at6) (by with_reducible first | exact tc_el _ _ (by omega) | exact cc_el _ _ (by omega) | exact whole _) (by with_reducible first | exact mc_size _ | exact tc_size _ | exact cc_size _ | exact dc_size _ | exact rc_size _ | exact sz1 | exact sz2 | exact sz3 | exact sz4) ?_))
      | ((with_reducible refine gate_dst (N := 26) rfl ?_); (with_reducible refine load_seg HS.out rfl rfl ag37 rfl (by first | exact at0 | exact at1 | exact at2 | exact at3 | exact at4 | exact at5 | exact at6) (by with_reducible first | exact tc_el _ _ (by omega) | exact cc_el _ _ (by omega) | exact whole _) (by with_reducible first | exact mc_size _ | exact tc_size _ | exact cc_size _ | exact dc_size _ | exact rc_size _ | exact sz1 | exact sz2 | exact sz3 | exact sz4) ?_)))); (try simp only [Act.put, List.setIfInBounds_toArray, List.set_cons_zero, List.set_cons_succ]))
      go_ret
      exact ⟨_, rfl, rfl, HS.out.below⟩

end Go.Proofs.YtidficffkghlkaaDoor.K
