/- Plain facts on floats: values that are one value but for what a NaN bears are tested alike; what a quotient is, whatever the tape gives. No program in sight. -/
import Derived.Test.YtaegonmpjgdmgaaDoorFL
import Derived.Test.YtaegonmpjgdmgaaDoorMW
namespace Go.Proofs.YtaegonmpjgdmgaaDoor.MW
open Go
abbrev ord (x y : Nat) : Option Ordering := FloatKind.f64.format.order x y
theorem ord_read (x y : Nat) : ord x y = (Ieee.double.read x).order (Ieee.double.read y) := rfl
theorem nan_iff (x : Nat) : ord x x = none ↔ ∃ s p, Ieee.double.read x = .nan s p := by
  rw [ord_read]
  cases h : Ieee.double.read x with
  | nan s p => exact ⟨fun _ => ⟨s, p, rfl⟩, fun _ => rfl⟩
  | infinity s => constructor
                  · intro h2; cases s <;> simp [Ieee.Datum.order] at h2
                  · rintro ⟨s2, p, h2⟩; cases h2
  | number s m i => constructor
                    · intro h2; simp [Ieee.Datum.order] at h2
                    · rintro ⟨s2, p, h2⟩; cases h2
theorem ord_nan_l {x : Nat} (y : Nat) (h : ord x x = none) : ord x y = none := by
  obtain ⟨s, p, h⟩ := (nan_iff x).1 h
  rw [ord_read, h]; rfl
theorem ord_nan_r (x : Nat) {y : Nat} (h : ord y y = none) : ord x y = none := by
  obtain ⟨s, p, h⟩ := (nan_iff y).1 h
  rw [ord_read, h]
  cases Ieee.double.read x <;> rfl
theorem fsame.symm {x y : Nat} (h : fsame x y) : fsame y x := by
  rcases h with rfl | ⟨h1, h2⟩
  · exact .inl rfl
  · exact .inr ⟨h2, h1⟩
theorem fsame.trans {x y z : Nat} (h : fsame x y) (k : fsame y z) : fsame x z := by
  rcases h with rfl | ⟨h1, h2⟩
  · exact k
  · rcases k with rfl | ⟨k1, k2⟩
    · exact .inr ⟨h1, h2⟩
    · exact .inr ⟨h1, k2⟩
theorem ord_same {x x' y y' : Nat} (h : fsame x x') (k : fsame y y') : ord x y = ord x' y' := by
  rcases h with rfl | ⟨h1, h2⟩
  · rcases k with rfl | ⟨k1, k2⟩
    · rfl
    · rw [ord_nan_r _ k1, ord_nan_r _ k2]
  · rw [ord_nan_l _ h1, ord_nan_l _ h2]
theorem drawn_nan (x y t : Nat) : ord ((Question.nanBits .f64 x y).cut t) ((Question.nanBits .f64 x y).cut t) = none := by
  rw [nan_iff]
  have h1 : Ieee.double.signWeight = 9223372036854775808 := by decide
  have h2 : Ieee.double.binade = 4503599627370496 := by decide
  have h3 : Ieee.double.infRung = 9218868437227405312 := by decide
  have hu : t % 2 < 2 := Nat.mod_lt _ (by decide)
  have hv : t / 2 % 4503599627370495 < 4503599627370495 := Nat.mod_lt _ (by decide)
  have hc : (Question.nanBits .f64 x y).cut t = t % 2 * 9223372036854775808 + 9218868437227405312 + 1 + t / 2 % 4503599627370495 := rfl
  rw [hc]
  generalize t % 2 = u at hu
  generalize t / 2 % 4503599627370495 = v at hv
  clear hc
  have hm : (u * 9223372036854775808 + 9218868437227405312 + 1 + v) % 9223372036854775808 = 9218868437227405312 + 1 + v := by omega
  unfold Ieee.Format.read
  simp only [h1, h2, h3, hm]
  rw [if_neg (by omega), if_neg (by omega), if_neg (by omega)]
  exact ⟨_, _, rfl⟩
/-- What x divided by y is: the quotient; where there is none: a NaN, whatever it bears. -/
def fq (x y r : Nat) : Prop := floatBits .quo .f64 x y = some r ∨ (floatBits .quo .f64 x y = none ∧ ord r r = none)
theorem fq.same {x y r r' : Nat} (h : fq x y r) (k : fq x y r') : fsame r r' := by
  rcases h with h | ⟨h, h2⟩ <;> rcases k with k | ⟨k, k2⟩
  · rw [h] at k; cases k; exact .inl rfl
  · rw [h] at k; cases k
  · rw [h] at k; cases k
  · exact .inr ⟨h2, k2⟩
theorem run_quo (P : Program) (t : TypeId) (x y : Nat) (W : World) : ∃ r m, r < 18446744073709551616 ∧ fq x y r ∧ (binOp .quo t (.float .f64 x) (.float .f64 y)).run P W = .ok (.float .f64 r) (W.drewN m) := by
  cases hf : floatBits .quo .f64 x y with
  | some r => exact ⟨r, 0, by simpa [Lit.wf] using floatBits_wf hf, .inl hf, run_float_arith W .quo t .f64 x y r hf⟩
  | none =>
    refine ⟨(Question.nanBits .f64 x y).cut (W.tape W.drawn (.nanBits .f64 x y)), 1, ?_, .inr ⟨hf, drawn_nan x y _⟩, ?_⟩
    · simp only [Question.cut]
      omega
    · unfold floatBits at hf
      simp only at hf
      simp [binOp, Op.floatArith, hf]
      rfl
/-- A test of floats, by its number. -/
def cmpF (op : Int) (x y : Nat) : Bool := if op = 1 then ord x y == some .lt else if op = 2 then (ord x y == some .lt || ord x y == some .eq) else if op = 3 then ord x y == some .eq else if op = 4 then ord x y != some .eq else if op = 5 then (ord x y == some .gt || ord x y == some .eq) else if op = 6 then ord x y == some .gt else false
theorem cmpF_same {x x' y y' : Nat} (op : Int) (h : fsame x x') (k : fsame y y') : cmpF op x y = cmpF op x' y' := by unfold cmpF; rw [ord_same h k]
/-- The same of whole numbers. -/
def cmpW (op : Int) (x y : Int) : Bool := if op = 1 then decide (x < y) else if op = 2 then decide (x ≤ y) else if op = 3 then decide (x = y) else if op = 4 then !decide (x = y) else if op = 5 then decide (y ≤ x) else if op = 6 then decide (y < x) else false
end Go.Proofs.YtaegonmpjgdmgaaDoor.MW
