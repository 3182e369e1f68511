/- Contracts of printed functions in the words of rows whose capacity may have been cut. -/
import Derived.Test.YtongoeifppllnaaBx6
import Derived.Test.YtongoeifppllnaaClip
namespace Go.Proofs.Ytongoeifppllnaa.B
open Go Go.RowKit Go.Proofs.YtongoeifppllnaaW.PrintWords Go.Proofs.YtongoeifppllnaaW.PrintLast Go.Proofs.YtongoeifppllnaaW.PrintMore
attribute [local go_sem] max2_int min2_int max_two min_two max_three min_three max_four min_four
set_option linter.unusedVariables false
set_option linter.unusedSimpArgs false

theorem spec_DrawWireCut.callsC (k : Nat) (A0 : Option Addr) (c0 : Nat) (l0 : List Int) (r1 : Int) (r2 : List Int) (w : World) (hr0 : Kd.C (Kd.int .u8) w A0 l0.length l0) (hc0 : l0.length ≤ c0) (h : spec_DrawWireCut.f k l0 = some (r1, r2)) :
    Calls Try.prog 14 #[.slice A0 l0.length c0] w fun e w' => ∃ v1_ : Value, e = .returned (.tuple #[.int .i64 r1, v1_]) ∧ Kd.Rc (Kd.int .u8) 5 w' w.heap.size (fun _ => True) v1_ r2 ∧ Below w.heap.size w w' := by
  refine (spec_DrawWireCut.calls k A0 c0 l0 r1 r2 w hr0 hc0 h).mono ?_
  rintro e w' ⟨v1_, h0, h1, h2⟩
  exact ⟨v1_, h0, Kd.Rc_of h1, h2⟩

end Go.Proofs.Ytongoeifppllnaa.B
