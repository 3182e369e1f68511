/- Plain facts on floats: two that are the same; what 1 divided by a zero is. No program in sight. -/
import Derived.Laws.FloatArith
namespace Go.Proofs.YtaegonmpjgdmgaaDoor.MW
open Go
theorem order_self (x : Nat) : FloatKind.f64.format.order x x = none ∨ FloatKind.f64.format.order x x = some .eq := by
  show (Ieee.double.read x).order (Ieee.double.read x) = none ∨ (Ieee.double.read x).order (Ieee.double.read x) = some .eq
  cases Ieee.double.read x with
  | nan => left; rfl
  | infinity s => right; cases s <;> rfl
  | number s m i => right; simp [Ieee.Datum.order]
theorem quo_zero {x : Nat} (h : FloatKind.f64.format.order x 0 = some .eq) : ∃ r, floatBits .quo .f64 4607182418800017408 x = some r := by
  have h' : (Ieee.double.read x).order (Ieee.double.read 0) = some .eq := h
  have h0 : Ieee.double.read 0 = .number false 0 (-1074) := by decide
  have h1 : ∃ m i, Ieee.double.read 4607182418800017408 = .number false m i ∧ m ≠ 0 := ⟨_, _, rfl, by decide⟩
  rw [h0] at h'
  obtain ⟨n, j, hn, hne⟩ := h1
  cases hx : Ieee.double.read x with
  | nan => rw [hx] at h'; simp [Ieee.Datum.order] at h'
  | infinity s => rw [hx] at h'; cases s <;> simp [Ieee.Datum.order] at h'
  | number s m i =>
    rw [hx] at h'
    have hm : m = 0 := by
      simp only [Ieee.Datum.order, Option.some.injEq, Ieee.signed, Nat.zero_shiftLeft] at h'
      have h2 := Std.LawfulEqCmp.eq_of_compare h'
      rcases Nat.eq_zero_or_pos m with h3 | h3
      · exact h3
      · exfalso
        have h4 : ∀ k, 0 < m <<< k := fun k => by rw [Nat.shiftLeft_eq]; exact Nat.mul_pos h3 (Nat.two_pow_pos k)
        have h5 := h4 (i - min i (-1074)).toNat
        cases s <;> simp at h2 <;> omega
    subst hm
    refine ⟨Ieee.double.write (.infinity (false ^^ s)), ?_⟩
    show ((Ieee.double.read 4607182418800017408).quotient (Ieee.double.fractionBits + 2) (Ieee.double.read x)).map Ieee.double.write = _
    rw [hn, hx]
    simp only [Ieee.Datum.quotient]
    rw [if_pos trivial, if_neg hne]
    rfl
/-- Two floats that a test by 'sameFloat' takes for one. -/
def fsame (x y : Nat) : Prop := x = y ∨ (FloatKind.f64.format.order x x = none ∧ FloatKind.f64.format.order y y = none)
theorem fsame.refl (x : Nat) : fsame x x := .inl rfl
end Go.Proofs.YtaegonmpjgdmgaaDoor.MW
