/- The statement 'FnExactWireToBox' of this seat: for every input that can be read the law returns true, and its arguments read behind the call as they read before; no further condition. -/
import Derived.Test.YtoeijldmebocmaaRows
import Derived.Test.YtoeijldmebocmaaFx14
import Derived.Test.YtoeijldmebocmaaBitsFnExactWireToBox
import Derived.Test.YtoeijldmebocmaaOpen
import Derived.WalkKit
import Derived.ProofKit
import Derived.OpenShut
import Derived.ShutString
import Derived.ChangeOld
import Derived.Below
import Derived.SizedLaws
namespace Go.Proofs.Ytoeijldmebocmaa.fnExactWireToBox
open Go.ChangeShapes Go.WideShapes Go.ChangeAt Go.RowKit Go.Proofs.Ytoeijldmebocmaa.Opening Go.Proofs.YtoeijldmebocmaaW.PrintWords Go.Proofs.Ytoeijldmebocmaa.F
open Go.ChangeMaps (open_string shut_string)
set_option linter.unusedVariables false
theorem own : ownKnob Try.prog.godebug = none := by kernel_rfl
theorem laidOut : laidOutB Try.prog = true := by kernel_rfl
set_option maxRecDepth 100000 in
theorem lifted (os : Os) (started : os.Started) (H : Type) (enc : TypeId × Value → H) :
    ReturnsInHanded {} Try.checked os 9 .any (Rows.fnExactWireToBoxSpec.pre6 enc Try.prog Try.f9 Rows.fnExactWireToBoxRow.domain false) (Rows.fnExactWireToBoxSpec.post enc Try.prog Try.f9 false true false false) := by
  refine returnsInHanded_of_change_sized (C := Try.checked) own started (by kernel_rfl) Try.func9
    (ChangeSpec.witness6 (enc := enc) (C := Try.checked) false ⟨#[], #[.agg #[.int .i64 0, .int .i64 0, .int .i64 0, .int .i64 0, .slice none 0 0]], []⟩ 8 (by kernel_rfl) (by kernel_rfl) (by kernel_rfl) (by kernel_rfl)) ?_
  intro W base args ds gs before hval0 hW hcnd hsz0 _
  have hval : ∀ (j : Nat) t v, Try.f9.params[j]? = some t → args[j]? = some v → Value.okWide Try.prog W .any base t v := hval0
  have hW' := hW
  obtain ⟨p, q, hA0, hV, rfl, hfz, hnd⟩ := hW
  have hA : DataW.TrodAll enc Try.prog W 0 (fun _ => true) true Try.f9.params.toList args.toList ds p := hA0
  rw [Try.params9] at hA hval
  obtain ⟨v0, vs0, d0, ds0, p0, q0, hargs, rfl, rfl, h0, r0⟩ := trodAll_cons hA
  obtain ⟨rfl, rfl, rfl⟩ := trodAll_nil r0
  obtain rfl : args = #[v0] := by cases args; simp_all
  obtain ⟨rfl, rfl⟩ := trodVars_none hV
  have k0 := h0
  have lt0 : ∀ x ∈ p0, x.block < W.heap.size := by obtain ⟨m, hm⟩ := k0; exact DataW.trod_lt m _ _ _ hm
  clear hA0 hval0 hsz0
  obtain ⟨a0, A0_1, c0_1, rfl, l0_1, g0_1, ok0⟩ : ∃ a : Int × Int × Int × Int × List Int, ∃ A1 c1, v0 = .agg #[.int .i64 a.1, .int .i64 a.2.1, .int .i64 a.2.2.1, .int .i64 a.2.2.2.1, .slice A1 a.2.2.2.2.length c1] ∧ a.2.2.2.2.length ≤ c1 ∧ Kd.C (Kd.int .u8) W A1 a.2.2.2.2.length a.2.2.2.2 ∧ ((Lit.int .i64 a.1).wf = true ∧ ((Lit.int .i64 a.2.1).wf = true ∧ ((Lit.int .i64 a.2.2.1).wf = true ∧ ((Lit.int .i64 a.2.2.2.1).wf = true ∧ (a.2.2.2.2.length ≤ maxLen ∧ ∀ x1 ∈ a.2.2.2.2, (Lit.int .u8 x1).wf = true))))) := by
    obtain ⟨a, cs, rfl, hK, hok⟩ := open_agg Try.underlying37 (hval 0 37 v0 rfl rfl) h0 (fun m => (At_struct m Try.underlying37 (by kernel_rfl) (FieldsAt.cons rfl (by kernel_rfl) (At.int m Try.underlying3) (FieldsAt.cons rfl (by kernel_rfl) (At.int m Try.underlying3) (FieldsAt.cons rfl (by kernel_rfl) (At.int m Try.underlying3) (FieldsAt.cons rfl (by kernel_rfl) (At.int m Try.underlying3) (FieldsAt.one rfl (by kernel_rfl) (At_slice m 5 Try.underlying22 (by kernel_rfl) (At.int m Try.underlying5)))))))))
    obtain ⟨cs⟩ := cs
    obtain ⟨_, _, rfl, rfl, ⟨_, _, rfl, rfl, ⟨_, _, rfl, rfl, ⟨_, _, rfl, rfl, ⟨A1, c1, rfl, l1, g1⟩⟩⟩⟩⟩ := hK
    exact ⟨a, A1, c1, rfl, l1, g1, hok⟩
  obtain ⟨k_, hk_⟩ := BFnExactWireToBox.holds a0.1 a0.2.1 a0.2.2.1 a0.2.2.2.1 a0.2.2.2.2 ok0.2.2.2.2.1
  refine (F.laws_FnExactWireToBox.calls k_ a0.1 a0.2.1 a0.2.2.1 a0.2.2.2.1 A0_1 c0_1 a0.2.2.2.2 true W g0_1 l0_1 hk_).mono fun e W' ⟨he, bel⟩ => ?_
  subst he
  exact ⟨_, rfl, _, _, _, [], _, [], hW', trodAll_mk1 (shut_bool Try.underlying4 _), (trodAll_cons_mk (Below.trod laidOut (by kernel_rfl) (of_decide_eq_true (by kernel_rfl)) k0 bel lt0) trodAll_mk0), rfl, bel.frame _, fun h => by cases h⟩
theorem over : Rows.fnExactWireToBoxRow.holds Try.pinned (OpenSpec.ofChange Rows.fnExactWireToBoxSpec) :=
  OpenClaim.holds_of_wide 9 Try.f9 rfl rfl rfl rfl rfl rfl rfl ⟨rfl, rfl, rfl, rfl, rfl⟩ rfl rfl rfl rfl rfl (by kernel_rfl) Try.func9 (by kernel_rfl)
    (of_decide_eq_true (by kernel_rfl)) (by unfold Func.isWrapper; first | (rw [if_pos (by decide +kernel)]; kernel_rfl) | (rw [if_neg (by decide +kernel)]; exact ⟨rfl, rfl⟩))
    (fun os started H enc _ => lifted os started H enc)
theorem proved : Rows.FnExactWireToBoxSaid := over
#print axioms proved
end Go.Proofs.Ytoeijldmebocmaa.fnExactWireToBox
namespace Go.Proofs.Ytoeijldmebocmaa
/-- The row, under a short name, for the claim. -/
theorem fnExactWireToBox_holds : Rows.FnExactWireToBoxSaid := fnExactWireToBox.proved
end Go.Proofs.Ytoeijldmebocmaa
