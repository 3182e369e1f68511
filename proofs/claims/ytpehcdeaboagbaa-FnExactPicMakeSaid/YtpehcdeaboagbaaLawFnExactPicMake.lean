/- The statement 'FnExactPicMake' of this seat: for every input that can be read the law returns true, and its arguments read behind the call as they read before; no further condition. -/
import Derived.Test.YtpehcdeaboagbaaRows
import Derived.Test.YtpehcdeaboagbaaQx20
import Derived.Test.YtpehcdeaboagbaaBitsFnExactPicMake
import Derived.Test.YtpehcdeaboagbaaOpen
import Derived.WalkKit
import Derived.ProofKit
import Derived.OpenShut
import Derived.ShutString
import Derived.ChangeOld
import Derived.Below
import Derived.SizedLaws
namespace Go.Proofs.Ytpehcdeaboagbaa.fnExactPicMake
open Go.ChangeShapes Go.WideShapes Go.ChangeAt Go.RowKit Go.Proofs.Ytpehcdeaboagbaa.Opening Go.Proofs.YtpehcdeaboagbaaW.PrintWords Go.Proofs.Ytpehcdeaboagbaa.Q
open Go.ChangeMaps (open_string shut_string)
set_option linter.unusedVariables false
theorem own : ownKnob Try.prog.godebug = none := by kernel_rfl
theorem laidOut : laidOutB Try.prog = true := by kernel_rfl
set_option maxRecDepth 100000 in
theorem lifted (os : Os) (started : os.Started) (H : Type) (enc : TypeId × Value → H) :
    ReturnsInHanded {} Try.checked os 5 .any (Rows.fnExactPicMakeSpec.pre6 enc Try.prog Try.f5 Rows.fnExactPicMakeRow.domain false) (Rows.fnExactPicMakeSpec.post enc Try.prog Try.f5 false true false false) := by
  refine returnsInHanded_of_change_sized (C := Try.checked) own started (by kernel_rfl) Try.func5
    (ChangeSpec.witness6 (enc := enc) (C := Try.checked) false ⟨#[], #[.slice none 0 0], []⟩ 8 (by kernel_rfl) (by kernel_rfl) (by kernel_rfl) (by kernel_rfl)) ?_
  intro W base args ds gs before hval0 hW hcnd hsz0 _
  have hval : ∀ (j : Nat) t v, Try.f5.params[j]? = some t → args[j]? = some v → Value.okWide Try.prog W .any base t v := hval0
  have hW' := hW
  obtain ⟨p, q, hA0, hV, rfl, hfz, hnd⟩ := hW
  have hA : DataW.TrodAll enc Try.prog W 0 (fun _ => true) true Try.f5.params.toList args.toList ds p := hA0
  rw [Try.params5] at hA hval
  obtain ⟨v0, vs0, d0, ds0, p0, q0, hargs, rfl, rfl, h0, r0⟩ := trodAll_cons hA
  obtain ⟨rfl, rfl, rfl⟩ := trodAll_nil r0
  obtain rfl : args = #[v0] := by cases args; simp_all
  obtain ⟨rfl, rfl⟩ := trodVars_none hV
  have k0 := h0
  have lt0 : ∀ x ∈ p0, x.block < W.heap.size := by obtain ⟨m, hm⟩ := k0; exact DataW.trod_lt m _ _ _ hm
  clear hA0 hval0 hsz0
  obtain ⟨a0, A0, c0, rfl, hl0, hC0, ok0⟩ := open_row Try.underlying22 (hval 0 22 v0 rfl rfl) h0 (fun m => (At_slice m 47 Try.underlying22 (by kernel_rfl) (show At _ _ _ m 47 k47 _ from At.iso (fun a => (⟨a.1, a.2⟩ : S47)) (fun _ => rfl) (At_struct m Try.underlying47 (by kernel_rfl) (FieldsAt.cons rfl (by kernel_rfl) (At.int m Try.underlying3) (FieldsAt.one rfl (by kernel_rfl) (show At _ _ _ m 45 k45 _ from At.iso (fun a => (⟨a.1, a.2⟩ : S45)) (fun _ => rfl) (At_struct m Try.underlying45 (by kernel_rfl) (FieldsAt.cons rfl (by kernel_rfl) (At.int m Try.underlying3) (FieldsAt.one rfl (by kernel_rfl) (At_slice m 91 Try.underlying43 (by kernel_rfl) (show At _ _ _ m 91 k91 _ from At.iso (fun a => (⟨a.1, a.2.1, a.2.2⟩ : S91)) (fun _ => rfl) (At_struct m Try.underlying91 (by kernel_rfl) (FieldsAt.cons rfl (by kernel_rfl) (At.int m Try.underlying3) (FieldsAt.cons rfl (by kernel_rfl) (At.int m Try.underlying3) (FieldsAt.one rfl (by kernel_rfl) (At.int m Try.underlying3)))))))))))))))))
  obtain ⟨k_, hk_⟩ := BFnExactPicMake.holds a0 ok0.1 (fun x hx => (ok0.2 x hx).2.2.1)
  refine (Q.laws_FnExactPicMake.calls k_ A0 c0 a0 true W hC0 hl0 hk_).mono fun e W' ⟨he, bel⟩ => ?_
  subst he
  exact ⟨_, rfl, _, _, _, [], _, [], hW', trodAll_mk1 (shut_bool Try.underlying4 _), (trodAll_cons_mk (Below.trod laidOut (by kernel_rfl) (of_decide_eq_true (by kernel_rfl)) k0 bel lt0) trodAll_mk0), rfl, bel.frame _, fun h => by cases h⟩
theorem over : Rows.fnExactPicMakeRow.holds Try.pinned (OpenSpec.ofChange Rows.fnExactPicMakeSpec) :=
  OpenClaim.holds_of_wide 5 Try.f5 rfl rfl rfl rfl rfl rfl rfl ⟨rfl, rfl, rfl, rfl, rfl⟩ rfl rfl rfl rfl rfl (by kernel_rfl) Try.func5 (by kernel_rfl)
    (of_decide_eq_true (by kernel_rfl)) (by unfold Func.isWrapper; first | (rw [if_pos (by decide +kernel)]; kernel_rfl) | (rw [if_neg (by decide +kernel)]; exact ⟨rfl, rfl⟩))
    (fun os started H enc _ => lifted os started H enc)
theorem proved : Rows.FnExactPicMakeSaid := over
#print axioms proved
end Go.Proofs.Ytpehcdeaboagbaa.fnExactPicMake
namespace Go.Proofs.Ytpehcdeaboagbaa
/-- The row, under a short name, for the claim. -/
theorem fnExactPicMake_holds : Rows.FnExactPicMakeSaid := fnExactPicMake.proved
end Go.Proofs.Ytpehcdeaboagbaa
