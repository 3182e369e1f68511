/- The statement 'FnExactHoldPlan' of this seat: for every input that can be read the law returns true, and its arguments read behind the call as they read before; no further condition. -/
import Derived.Test.YtoeijldmebocmaaRows
import Derived.Test.YtoeijldmebocmaaPx10
import Derived.Test.YtoeijldmebocmaaBitsFnExactHoldPlan
import Derived.Test.YtoeijldmebocmaaOpen
import Derived.WalkKit
import Derived.ProofKit
import Derived.OpenShut
import Derived.ShutString
import Derived.ChangeOld
import Derived.Below
import Derived.SizedLaws
namespace Go.Proofs.Ytoeijldmebocmaa.fnExactHoldPlan
open Go.ChangeShapes Go.WideShapes Go.ChangeAt Go.RowKit Go.Proofs.Ytoeijldmebocmaa.Opening Go.Proofs.YtoeijldmebocmaaW.PrintWords Go.Proofs.Ytoeijldmebocmaa.P
open Go.ChangeMaps (open_string shut_string)
set_option linter.unusedVariables false
theorem own : ownKnob Try.prog.godebug = none := by kernel_rfl
theorem laidOut : laidOutB Try.prog = true := by kernel_rfl
set_option maxRecDepth 100000 in
theorem lifted (os : Os) (started : os.Started) (H : Type) (enc : TypeId × Value → H) :
    ReturnsInHanded {} Try.checked os 16 .any (Rows.fnExactHoldPlanSpec.pre6 enc Try.prog Try.f16 Rows.fnExactHoldPlanRow.domain false) (Rows.fnExactHoldPlanSpec.post enc Try.prog Try.f16 false true false false) := by
  refine returnsInHanded_of_change_sized (C := Try.checked) own started (by kernel_rfl) Try.func16
    (ChangeSpec.witness6 (enc := enc) (C := Try.checked) false ⟨#[], #[.agg #[.int .u8 0, .int .u8 0, .slice none 0 0, .int .u8 0, .int .u8 0, .slice none 0 0], .slice none 0 0], []⟩ 8 (by kernel_rfl) (by kernel_rfl) (by kernel_rfl) (by kernel_rfl)) ?_
  intro W base args ds gs before hval0 hW hcnd hsz0 _
  have hval : ∀ (j : Nat) t v, Try.f16.params[j]? = some t → args[j]? = some v → Value.okWide Try.prog W .any base t v := hval0
  have hW' := hW
  obtain ⟨p, q, hA0, hV, rfl, hfz, hnd⟩ := hW
  have hA : DataW.TrodAll enc Try.prog W 0 (fun _ => true) true Try.f16.params.toList args.toList ds p := hA0
  rw [Try.params16] at hA hval
  obtain ⟨v0, vs0, d0, ds0, p0, q0, hargs, rfl, rfl, h0, r0⟩ := trodAll_cons hA
  obtain ⟨v1, vs1, d1, ds1, p1, q1, rfl, rfl, rfl, h1, r1⟩ := trodAll_cons r0
  obtain ⟨rfl, rfl, rfl⟩ := trodAll_nil r1
  obtain rfl : args = #[v0, v1] := by cases args; simp_all
  obtain ⟨rfl, rfl⟩ := trodVars_none hV
  have k0 := h0
  have lt0 : ∀ x ∈ p0, x.block < W.heap.size := by obtain ⟨m, hm⟩ := k0; exact DataW.trod_lt m _ _ _ hm
  have k1 := h1
  have lt1 : ∀ x ∈ p1, x.block < W.heap.size := by obtain ⟨m, hm⟩ := k1; exact DataW.trod_lt m _ _ _ hm
  clear hA0 hval0 hsz0
  obtain ⟨a0, A0_1, c0_1, A0_2, c0_2, rfl, l0_1, g0_1, l0_2, g0_2, ok0⟩ : ∃ a : (Int × Int × List Int) × (Int × Int × List Int), ∃ A1 c1 A2 c2, v0 = .agg #[.int .u8 a.1.1, .int .u8 a.1.2.1, .slice A1 a.1.2.2.length c1, .int .u8 a.2.1, .int .u8 a.2.2.1, .slice A2 a.2.2.2.length c2] ∧ a.1.2.2.length ≤ c1 ∧ Kd.C (Kd.int .u8) W A1 a.1.2.2.length a.1.2.2 ∧ a.2.2.2.length ≤ c2 ∧ Kd.C (Kd.int .u8) W A2 a.2.2.2.length a.2.2.2 ∧ (((Lit.int .u8 a.1.1).wf = true ∧ ((Lit.int .u8 a.1.2.1).wf = true ∧ (a.1.2.2.length ≤ maxLen ∧ ∀ x1 ∈ a.1.2.2, (Lit.int .u8 x1).wf = true))) ∧ ((Lit.int .u8 a.2.1).wf = true ∧ ((Lit.int .u8 a.2.2.1).wf = true ∧ (a.2.2.2.length ≤ maxLen ∧ ∀ x2 ∈ a.2.2.2, (Lit.int .u8 x2).wf = true)))) := by
    obtain ⟨a, cs, rfl, hK, hok⟩ := open_agg Try.underlying47 (hval 0 47 v0 rfl rfl) h0 (fun m => (At_struct m Try.underlying47 (by kernel_rfl) (FieldsAt.cons rfl (by kernel_rfl) (At_struct m Try.underlying45 (by kernel_rfl) (FieldsAt.cons rfl (by kernel_rfl) (At.int m Try.underlying5) (FieldsAt.cons rfl (by kernel_rfl) (At.int m Try.underlying5) (FieldsAt.one rfl (by kernel_rfl) (At_slice m 5 Try.underlying22 (by kernel_rfl) (At.int m Try.underlying5)))))) (FieldsAt.one rfl (by kernel_rfl) (At_struct m Try.underlying45 (by kernel_rfl) (FieldsAt.cons rfl (by kernel_rfl) (At.int m Try.underlying5) (FieldsAt.cons rfl (by kernel_rfl) (At.int m Try.underlying5) (FieldsAt.one rfl (by kernel_rfl) (At_slice m 5 Try.underlying22 (by kernel_rfl) (At.int m Try.underlying5))))))))))
    obtain ⟨cs⟩ := cs
    obtain ⟨_, _, rfl, ⟨_, _, rfl, rfl, ⟨_, _, rfl, rfl, ⟨A1, c1, rfl, l1, g1⟩⟩⟩, ⟨_, _, rfl, rfl, ⟨_, _, rfl, rfl, ⟨A2, c2, rfl, l2, g2⟩⟩⟩⟩ := hK
    exact ⟨a, A1, c1, A2, c2, rfl, l1, g1, l2, g2, hok⟩
  obtain ⟨a1, A1, c1, rfl, hl1, hC1, ok1⟩ := open_row Try.underlying22 (hval 1 22 v1 rfl rfl) h1 (fun m => (At_slice m 5 Try.underlying22 (by kernel_rfl) (At.int m Try.underlying5)))
  obtain ⟨k_, hk_⟩ := BFnExactHoldPlan.holds a0.1.1 a0.1.2.1 a0.1.2.2 a0.2.1 a0.2.2.1 a0.2.2.2 ok0.1.2.2.1 ok0.2.2.2.1 a1
  refine (P.laws_FnExactHoldPlan.calls k_ a0.1.1 a0.1.2.1 A0_1 c0_1 a0.1.2.2 a0.2.1 a0.2.2.1 A0_2 c0_2 a0.2.2.2 A1 c1 a1 true W g0_1 l0_1 g0_2 l0_2 hC1 hl1 hk_).mono fun e W' ⟨he, bel⟩ => ?_
  subst he
  exact ⟨_, rfl, _, _, _, [], _, [], hW', trodAll_mk1 (shut_bool Try.underlying4 _), (trodAll_cons_mk (Below.trod laidOut (by kernel_rfl) (of_decide_eq_true (by kernel_rfl)) k0 bel lt0) (trodAll_cons_mk (Below.trod laidOut (by kernel_rfl) (of_decide_eq_true (by kernel_rfl)) k1 bel lt1) trodAll_mk0)), rfl, bel.frame _, fun h => by cases h⟩
theorem over : Rows.fnExactHoldPlanRow.holds Try.pinned (OpenSpec.ofChange Rows.fnExactHoldPlanSpec) :=
  OpenClaim.holds_of_wide 16 Try.f16 rfl rfl rfl rfl rfl rfl rfl ⟨rfl, rfl, rfl, rfl, rfl⟩ rfl rfl rfl rfl rfl (by kernel_rfl) Try.func16 (by kernel_rfl)
    (of_decide_eq_true (by kernel_rfl)) (by unfold Func.isWrapper; first | (rw [if_pos (by decide +kernel)]; kernel_rfl) | (rw [if_neg (by decide +kernel)]; exact ⟨rfl, rfl⟩))
    (fun os started H enc _ => lifted os started H enc)
theorem proved : Rows.FnExactHoldPlanSaid := over
#print axioms proved
end Go.Proofs.Ytoeijldmebocmaa.fnExactHoldPlan
namespace Go.Proofs.Ytoeijldmebocmaa
/-- The row, under a short name, for the claim. -/
theorem fnExactHoldPlan_holds : Rows.FnExactHoldPlanSaid := fnExactHoldPlan.proved
end Go.Proofs.Ytoeijldmebocmaa
