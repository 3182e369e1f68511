/- The statement 'FnExactWireJoin' of this seat: for every input that can be read the law returns true, and its arguments read behind the call as they read before; no further condition. -/
import Derived.Test.YtoeijldmebocmaaRows
import Derived.Test.YtoeijldmebocmaaJx11
import Derived.Test.YtoeijldmebocmaaBitsFnExactWireJoin
import Derived.Test.YtoeijldmebocmaaOpen
import Derived.WalkKit
import Derived.ProofKit
import Derived.OpenShut
import Derived.ShutString
import Derived.ChangeOld
import Derived.Below
import Derived.SizedLaws
namespace Go.Proofs.Ytoeijldmebocmaa.fnExactWireJoin
open Go.ChangeShapes Go.WideShapes Go.ChangeAt Go.RowKit Go.Proofs.Ytoeijldmebocmaa.Opening Go.Proofs.YtoeijldmebocmaaW.PrintWords Go.Proofs.Ytoeijldmebocmaa.J
open Go.ChangeMaps (open_string shut_string)
set_option linter.unusedVariables false
theorem own : ownKnob Try.prog.godebug = none := by kernel_rfl
theorem laidOut : laidOutB Try.prog = true := by kernel_rfl
set_option maxRecDepth 100000 in
theorem lifted (os : Os) (started : os.Started) (H : Type) (enc : TypeId × Value → H) :
    ReturnsInHanded {} Try.checked os 14 .any (Rows.fnExactWireJoinSpec.pre6 enc Try.prog Try.f14 Rows.fnExactWireJoinRow.domain false) (Rows.fnExactWireJoinSpec.post enc Try.prog Try.f14 false true false false) := by
  refine returnsInHanded_of_change_sized (C := Try.checked) own started (by kernel_rfl) Try.func14
    (ChangeSpec.witness6 (enc := enc) (C := Try.checked) false ⟨#[], #[.slice none 0 0], []⟩ 8 (by kernel_rfl) (by kernel_rfl) (by kernel_rfl) (by kernel_rfl)) ?_
  intro W base args ds gs before hval0 hW hcnd hsz0 _
  have hval : ∀ (j : Nat) t v, Try.f14.params[j]? = some t → args[j]? = some v → Value.okWide Try.prog W .any base t v := hval0
  have hW' := hW
  obtain ⟨p, q, hA0, hV, rfl, hfz, hnd⟩ := hW
  have hA : DataW.TrodAll enc Try.prog W 0 (fun _ => true) true Try.f14.params.toList args.toList ds p := hA0
  rw [Try.params14] at hA hval
  obtain ⟨v0, vs0, d0, ds0, p0, q0, hargs, rfl, rfl, h0, r0⟩ := trodAll_cons hA
  obtain ⟨rfl, rfl, rfl⟩ := trodAll_nil r0
  obtain rfl : args = #[v0] := by cases args; simp_all
  obtain ⟨rfl, rfl⟩ := trodVars_none hV
  have k0 := h0
  have lt0 : ∀ x ∈ p0, x.block < W.heap.size := by obtain ⟨m, hm⟩ := k0; exact DataW.trod_lt m _ _ _ hm
  clear hA0 hval0 hsz0
  obtain ⟨a0, A0, c0, rfl, hl0, hC0, ok0⟩ := open_row Try.underlying66 (hval 0 66 v0 rfl rfl) h0 (fun m => (At_slice m 37 Try.underlying66 (by kernel_rfl) (show At _ _ _ m 37 k37 _ from At.iso (fun a => (⟨a.1, a.2.1, a.2.2.1, a.2.2.2.1, a.2.2.2.2⟩ : S37)) (fun _ => rfl) (At_struct m Try.underlying37 (by kernel_rfl) (FieldsAt.cons rfl (by kernel_rfl) (At.int m Try.underlying3) (FieldsAt.cons rfl (by kernel_rfl) (At.int m Try.underlying3) (FieldsAt.cons rfl (by kernel_rfl) (At.int m Try.underlying3) (FieldsAt.cons rfl (by kernel_rfl) (At.int m Try.underlying3) (FieldsAt.one rfl (by kernel_rfl) (At_slice m 5 Try.underlying22 (by kernel_rfl) (At.int m Try.underlying5)))))))))))
  obtain ⟨k_, hk_⟩ := BFnExactWireJoin.holds a0 ok0.1 (fun x hx => (ok0.2 x hx).2.2.2.2.1)
  refine (J.laws_FnExactWireJoin.calls k_ A0 c0 a0 true W hC0 hl0 hk_).mono fun e W' ⟨he, bel⟩ => ?_
  subst he
  exact ⟨_, rfl, _, _, _, [], _, [], hW', trodAll_mk1 (shut_bool Try.underlying4 _), (trodAll_cons_mk (Below.trod laidOut (by kernel_rfl) (of_decide_eq_true (by kernel_rfl)) k0 bel lt0) trodAll_mk0), rfl, bel.frame _, fun h => by cases h⟩
theorem over : Rows.fnExactWireJoinRow.holds Try.pinned (OpenSpec.ofChange Rows.fnExactWireJoinSpec) :=
  OpenClaim.holds_of_wide 14 Try.f14 rfl rfl rfl rfl rfl rfl rfl ⟨rfl, rfl, rfl, rfl, rfl⟩ rfl rfl rfl rfl rfl (by kernel_rfl) Try.func14 (by kernel_rfl)
    (of_decide_eq_true (by kernel_rfl)) (by unfold Func.isWrapper; first | (rw [if_pos (by decide +kernel)]; kernel_rfl) | (rw [if_neg (by decide +kernel)]; exact ⟨rfl, rfl⟩))
    (fun os started H enc _ => lifted os started H enc)
theorem proved : Rows.FnExactWireJoinSaid := over
#print axioms proved
end Go.Proofs.Ytoeijldmebocmaa.fnExactWireJoin
namespace Go.Proofs.Ytoeijldmebocmaa
/-- The row, under a short name, for the claim. -/
theorem fnExactWireJoin_holds : Rows.FnExactWireJoinSaid := fnExactWireJoin.proved
end Go.Proofs.Ytoeijldmebocmaa
