/- What impl.ElemIsCoil answers, and that it does. -/
import Derived.Test.YtkmfdlcmdgdepaaDoorUCoilIa
import Derived.Test.YtkmfdlcmdgdepaaDoorUCoilIb
import Derived.Test.YtkmfdlcmdgdepaaDoorUCoilIc
namespace Go.Proofs.YtkmfdlcmdgdepaaDoor.U
open Go Go.RowKit Go.Proofs.YtkmfdlcmdgdepaaDoor.Tell Go.Proofs.YtkmfdlcmdgdepaaDoorW Go.Proofs.YtkmfdlcmdgdepaaDoorW.PrintWords Go.Proofs.YtkmfdlcmdgdepaaDoorW.PrintLast Go.Proofs.YtkmfdlcmdgdepaaDoorW.PrintMore Go.Proofs.YtkmfdlcmdgdepaaDoor.MW
set_option linter.unusedVariables false
set_option linter.unusedSimpArgs false
set_option maxRecDepth 100000
def impl_ElemIsCoil.f (a0_0 : Int) (l0_1 : List (S55)) : Option (Bool) := some (coil a0_0 l0_1)
theorem impl_ElemIsCoil.calls (a0_0 : Int) (A0_1 : Option Addr) (c0_1 : Nat) (l0_1 : List (S55)) (r : Bool) (w : World) (ht : TB.Tab w) (hr0_1 : Kd.C k55 w A0_1 l0_1.length l0_1) (hc0_1 : l0_1.length ≤ c0_1) (h : impl_ElemIsCoil.f a0_0 l0_1 = some r) :
  Calls Tryd.prog 34 #[.agg #[.int .i64 a0_0, .slice A0_1 l0_1.length c0_1]] w fun e w' => e = .returned (.bool r) ∧ Below w.heap.size w w' := by
 obtain rfl := Option.some.inj h
 by_cases c : ¬ (21 ≤ a0_0 ∧ a0_0 ≤ 37) ∨ (l0_1.length : Int) ≠ ar a0_0
 ·rw [coil_bad c]
  exact impl_coil_bad _ _ _ _ w (by have := Kd.C_max hr0_1; omega) c
 ·rcases coil_len (op := a0_0) (l := l0_1) (by omega) (by omega) with ⟨x, rfl, ho⟩ | ⟨x, y, rfl, ho⟩ | ⟨x, y, z, rfl, ho⟩
  ·exact impl_coil1 _ x ho _ _ w ht hr0_1 hc0_1
  ·exact impl_coil2 _ x y ho _ _ w ht hr0_1 hc0_1
  ·exact impl_coil3 _ x y z ho _ _ w ht hr0_1 hc0_1

end Go.Proofs.YtkmfdlcmdgdepaaDoor.U
