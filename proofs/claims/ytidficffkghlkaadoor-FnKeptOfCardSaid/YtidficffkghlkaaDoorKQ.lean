/- Walks over the ladders' memory: what the functions of this seat answer. -/
import Derived.Test.YtidficffkghlkaaDoorProg
import Derived.Test.YtidficffkghlkaaDoorMW
import Derived.WalkKit
import Derived.Deep.LoopGhost
import Derived.Deep.DeepCutAuto
import Derived.BigFrame
import Derived.Deep.QuietTactic
import Derived.BigQuiet
import Derived.Test.YtidficffkghlkaaDoorVB
import Derived.Test.YtidficffkghlkaaDoorFL
import Derived.Laws.Externs
namespace Go.Proofs.YtidficffkghlkaaDoor.K
open Go Go.RowKit Go.Proofs.YtidficffkghlkaaDoorW Go.Proofs.YtidficffkghlkaaDoorW.PrintWords Go.Proofs.YtidficffkghlkaaDoor.MW
set_option linter.unusedVariables false
set_option linter.unusedSimpArgs false
set_option maxRecDepth 100000

theorem order_ne (x : Nat) : (FloatKind.f64.format.order x x = none) ∨ (FloatKind.f64.format.order x x = some .eq) := order_self x
set_option maxHeartbeats 4000000 in
set_option maxRecDepth 100000 in
theorem c_IsNaN (x : Nat) (w : World) : Calls Tryd.prog 93 #[.float .f64 x] w (fun e w' => e = .returned (.bool (decide (FloatKind.f64.format.order x x = none))) ∧ w' = w) := by
  rcases order_self x with h | h
  · have hn : (FloatKind.f64.format.order x x != some .eq) = true := by rw [h]; rfl
    have hd : decide (FloatKind.f64.format.order x x = none) = true := decide_eq_true h
    rw [hd]
    clear h hd
    go_enter Tryd.func93, Tryd.ntmps93
    go_wp2
    go_ret
    exact ⟨rfl, rfl⟩
  · have hn : (FloatKind.f64.format.order x x != some .eq) = false := by rw [h]; rfl
    have hd : decide (FloatKind.f64.format.order x x = none) = false := decide_eq_false (by rw [h]; simp)
    rw [hd]
    clear h hd
    go_enter Tryd.func93, Tryd.ntmps93
    go_wp2
    go_ret
    exact ⟨rfl, rfl⟩
theorem run_bits (x : Nat) (w : World) : (callFunc 94 #[.float .f64 x]).run Tryd.prog w = .ok (.value (.int .u64 x)) w := by
  rw [run_callFunc_extern (e := Extern.MathFloatBits.float64bits) Tryd.func94 (by kernel_rfl) (by kernel_rfl) (by kernel_rfl) (by kernel_rfl)]
  rfl
set_option maxHeartbeats 4000000 in
set_option maxRecDepth 100000 in
theorem c_realSame (x : Nat) (w : World) : Calls Tryd.prog 38 #[.float .f64 x, .float .f64 x] w (fun e w' => e = .returned (.bool true) ∧ w' = w) := by
  have hfb := run_bits x
  cases hd : decide (FloatKind.f64.format.order x x = none)
  · go_enter Tryd.func38, Tryd.ntmps38
    go_wp2_with (go_at_call 93; refine (c_IsNaN x _).mono ?_; rintro e_ W_ ⟨rfl, rfl⟩)
    go_ret
    exact ⟨rfl, rfl⟩
  · go_enter Tryd.func38, Tryd.ntmps38
    go_wp2_with (go_at_call 93; refine (c_IsNaN x _).mono ?_; rintro e_ W_ ⟨rfl, rfl⟩)
    go_ret
    exact ⟨rfl, rfl⟩

end Go.Proofs.YtidficffkghlkaaDoor.K
