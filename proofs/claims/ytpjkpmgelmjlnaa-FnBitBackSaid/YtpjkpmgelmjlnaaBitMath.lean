/- Plain facts on stacks of bits: a stack's word and height against the list of its bits, the one on top last. No program in sight. -/
import Derived.Test.YtpjkpmgelmjlnaaWMore
import Derived.Laws.BitsLemmas
namespace Go.Proofs.Ytpjkpmgelmjlnaa.BitMath
open Go.RowKit Go.Proofs.YtpjkpmgelmjlnaaW.PrintWords Go.Proofs.YtpjkpmgelmjlnaaW.PrintLast Go.Proofs.YtpjkpmgelmjlnaaW.PrintMore

/-- The n lowest bits of b, the lowest last. -/
def bl : Nat → Nat → List Bool
  | _, 0 => []
  | b, n + 1 => bl (b / 2) n ++ [b % 2 == 1]
/-- The word of a list of bits. -/
def val (l : List Bool) : Nat := l.foldl (fun a b => 2 * a + b.toNat) 0

theorem bl_length (n : Nat) : ∀ b, (bl b n).length = n := by
  induction n with
  | zero => intro b; rfl
  | succ n ih => intro b; simp [bl, ih]

theorem val_nil : val [] = 0 := rfl
theorem val_snoc (l : List Bool) (c : Bool) : val (l ++ [c]) = 2 * val l + c.toNat := by simp [val]

theorem snoc_cases {P : List Bool → Prop} (h0 : P []) (h1 : ∀ l c, P l → P (l ++ [c])) (l : List Bool) : P l := by
  generalize hn : l.length = n
  induction n generalizing l with
  | zero => rw [List.length_eq_zero_iff.mp hn]; exact h0
  | succ n ih =>
    have hne : l ≠ [] := by intro e; rw [e] at hn; simp at hn
    rw [← List.dropLast_concat_getLast hne]
    exact h1 _ _ (ih _ (by simp [hn]))

theorem val_lt (l : List Bool) : val l < 2 ^ l.length := by
  induction l using snoc_cases with
  | h0 => decide
  | h1 l c ih =>
    rw [val_snoc]; simp only [List.length_append, List.length_cons, List.length_nil, Nat.pow_succ, Nat.zero_add]
    cases c <;> simp <;> omega

theorem val_bl (n : Nat) : ∀ b, val (bl b n) = b % 2 ^ n := by
  induction n with
  | zero => intro b; simp [bl, val, Nat.mod_one]
  | succ n ih =>
    intro b
    rw [bl, val_snoc, ih, Nat.pow_succ, Nat.mul_comm (2 ^ n) 2, Nat.mod_mul]
    rcases Nat.mod_two_eq_zero_or_one b with h | h <;> simp [h] <;> omega

theorem bl_val (l : List Bool) : bl (val l) l.length = l := by
  induction l using snoc_cases with
  | h0 => rfl
  | h1 l c ih =>
    rw [val_snoc]; simp only [List.length_append, List.length_cons, List.length_nil]
    rw [bl]
    have h : (2 * val l + c.toNat) / 2 = val l := by cases c <;> simp <;> omega
    rw [h, ih]
    cases c <;> simp <;> omega

theorem val_append (a b : List Bool) : val (a ++ b) = val a * 2 ^ b.length + val b := by
  induction b using snoc_cases with
  | h0 => simp [val_nil]
  | h1 b c ih =>
    rw [← List.append_assoc, val_snoc, ih, val_snoc]; simp only [List.length_append, List.length_cons, List.length_nil, Nat.zero_add, Nat.pow_succ]
    rw [Nat.mul_add, ← Nat.mul_assoc 2, ← Nat.mul_assoc, Nat.mul_comm 2, Nat.mul_right_comm, Nat.add_assoc]

theorem val_cons (c : Bool) (l : List Bool) : val (c :: l) = c.toNat * 2 ^ l.length + val l := by
  rw [show c :: l = [c] ++ l from rfl, val_append]; simp [val]

theorem val_drop (l : List Bool) (m : Nat) (hm : m ≤ l.length) : val (l.drop (l.length - m)) = val l % 2 ^ m := by
  have h := val_append (l.take (l.length - m)) (l.drop (l.length - m))
  rw [List.take_append_drop] at h
  have hl : (l.drop (l.length - m)).length = m := by simp; omega
  have h2 := val_lt (l.drop (l.length - m))
  rw [hl] at h h2
  rw [h, Nat.add_comm, Nat.add_mul_mod_self_right, Nat.mod_eq_of_lt h2]

/-- The list of a stack of at most m bits; the empty one if the stack is not ok. -/
def ok (m : Nat) (b n : Int) : Bool := decide (0 ≤ n ∧ n ≤ m ∧ b < 2 ^ n.toNat)
def lst (m : Nat) (b n : Int) : List Bool := if ok m b n = true then bl b.toNat n.toNat else []
/-- A list as a stack that keeps the m last ones. -/
def stkB (m : Nat) (l : List Bool) : Int := (val (l.drop (l.length - m)) : Int)
def stkN (m : Nat) (l : List Bool) : Int := (min m l.length : Nat)

theorem lst_length_le (m : Nat) (b n : Int) : (lst m b n).length ≤ m := by
  unfold lst ok
  split
  · rename_i h
    have h := of_decide_eq_true h
    rw [bl_length]; omega
  · simp

theorem stk_short {m : Nat} {l : List Bool} (h : l.length ≤ m) : stkB m l = val l ∧ stkN m l = l.length := by
  unfold stkB stkN
  rw [Nat.sub_eq_zero_of_le h, Nat.min_eq_right h]; simp

theorem lst_of_ok {m : Nat} {b n : Int} (hb : 0 ≤ b) (h : ok m b n = true) : (val (lst m b n) : Int) = b ∧ ((lst m b n).length : Int) = n := by
  unfold lst
  rw [if_pos h]
  have h := of_decide_eq_true h
  obtain ⟨h0, h1, h2⟩ := h
  obtain ⟨b, rfl⟩ := Int.eq_ofNat_of_zero_le hb
  obtain ⟨n, rfl⟩ := Int.eq_ofNat_of_zero_le h0
  rw [val_bl, bl_length]
  simp only [Int.toNat_natCast] at h2 ⊢
  have h3 : b < 2 ^ n := by exact_mod_cast h2
  rw [Nat.mod_eq_of_lt h3]
  exact ⟨rfl, by simp⟩

theorem lst_of_not {m : Nat} {b n : Int} (h : ok m b n = false) : lst m b n = [] := by
  unfold lst; rw [if_neg (by simp [h])]

theorem ok_of_list {m : Nat} {l : List Bool} (h : l.length ≤ m) : ok m (val l : Int) (l.length : Int) = true := by
  unfold ok
  refine decide_eq_true ⟨by omega, by omega, ?_⟩
  have := val_lt l
  simp only [Int.toNat_natCast]
  exact_mod_cast this

theorem lst_of_list {m : Nat} {l : List Bool} (h : l.length ≤ m) : lst m (val l : Int) (l.length : Int) = l := by
  unfold lst
  rw [if_pos (ok_of_list h)]
  simp [bl_val]

theorem pow16 {n : Nat} (h : n ≤ 16) : 2 ^ n ≤ 65536 := by
  have := Nat.pow_le_pow_right (show 0 < 2 by decide) h
  simpa using this
theorem ipow16 {n : Nat} (h : n ≤ 16) : (2 : Int) ^ n ≤ 65536 := by
  have := pow16 h
  rw [show ((2 : Int) ^ n) = ((2 ^ n : Nat) : Int) by simp]; omega
theorem ipow15 {n : Nat} (h : n ≤ 15) : (2 : Int) ^ n ≤ 32768 := by
  have h2 : 2 ^ n ≤ 32768 := by
    have := Nat.pow_le_pow_right (show 0 < 2 by decide) h
    simpa using this
  rw [show ((2 : Int) ^ n) = ((2 ^ n : Nat) : Int) by simp]; omega
theorem pow8 {n : Nat} (h : n ≤ 8) : 2 ^ n ≤ 256 := by
  have := Nat.pow_le_pow_right (show 0 < 2 by decide) h
  simpa using this
theorem val16 {l : List Bool} (h : l.length ≤ 16) : val l < 65536 := Nat.lt_of_lt_of_le (val_lt l) (pow16 h)
theorem val8 {l : List Bool} (h : l.length ≤ 8) : val l < 256 := Nat.lt_of_lt_of_le (val_lt l) (pow8 h)

/-- Pushing onto a stack of at most m. -/
theorem stk_push {m : Nat} {l : List Bool} (c : Bool) (h : l.length ≤ m) : stkB m (l ++ [c]) = (2 * val l + c.toNat) % 2 ^ m ∧ stkN m (l ++ [c]) = (min m (l.length + 1) : Nat) := by
  unfold stkB stkN
  constructor
  · by_cases hl : l.length + 1 ≤ m
    · have hz : (l ++ [c]).length - m = 0 := by simp; omega
      rw [hz, List.drop_zero, val_snoc]
      have h1 : 2 * val l + c.toNat < 2 ^ m := by
        have h2 := val_lt l
        have h3 : 2 ^ (l.length + 1) ≤ 2 ^ m := Nat.pow_le_pow_right (by decide) hl
        rw [Nat.pow_succ] at h3
        cases c <;> simp <;> omega
      rw [← Nat.mod_eq_of_lt h1]
      simp
    · rw [val_drop _ _ (by simp; omega), val_snoc]
      simp
  · simp

/-- The bit on top turned. -/
def turn (l : List Bool) (c : Bool) : List Bool := if l = [] then [] else l.dropLast ++ [c]
theorem turn_snoc (l : List Bool) (d c : Bool) : turn (l ++ [d]) c = l ++ [c] := by simp [turn]

/-! ### The words of the print -/
theorem wrap_u16 (n : Int) : IntKind.u16.wrap n = n % 65536 := by simp [IntKind.wrap, IntKind.bits, IntKind.signed]
theorem wrap_u64 (n : Int) : IntKind.u64.wrap n = n % 18446744073709551616 := by
  unfold IntKind.wrap
  simp only [IntKind.bits, IntKind.signed, Bool.false_and, Bool.false_eq_true, if_false]
  rw [show ((2 : Int) ^ 64) = 18446744073709551616 from by decide]
theorem wraps_u16 (n : Int) (h₀ : 0 ≤ n) (h₁ : n < 2 ^ 16) : IntKind.u16.wrap n = n := by
  rw [wrap_u16]; exact Int.emod_eq_of_lt h₀ h₁
theorem u16_and1 (x : Int) (h0 : 0 ≤ x) (h1 : x < 65536) : Go.bits .and .u16 x 1 = x % 2 := bits_mask .u16 16 (by decide) wraps_u16 1 (by decide) x h0 h1
theorem u8_and1 (x : Int) (h0 : 0 ≤ x) (h1 : x < 256) : Go.bits .and .u8 x 1 = x % 2 := bits_mask .u8 8 (by decide) wraps_u8 1 (by decide) x h0 h1
theorem u16_or1 (x y : Int) (h0 : 0 ≤ x) (h : x % 2 = 0) (h1 : x < 65536) (h2 : 0 ≤ y) (h3 : y < 2) : Go.bits .or .u16 x y = x + y :=
  bits_join .u16 16 (by decide) wraps_u16 1 x y h0 h h1 h2 h3 (by omega)
theorem u8_or1 (x y : Int) (h0 : 0 ≤ x) (h : x % 2 = 0) (h1 : x < 256) (h2 : 0 ≤ y) (h3 : y < 2) : Go.bits .or .u8 x y = x + y :=
  bits_join .u8 8 (by decide) wraps_u8 1 x y h0 h h1 h2 h3 (by omega)
theorem u16_but1 (x : Int) (h0 : 0 ≤ x) (h1 : x < 65536) : Go.bits .andNot .u16 x 1 = x - x % 2 := by
  obtain ⟨a, rfl⟩ := Int.eq_ofNat_of_zero_le h0
  have ha : a < 65536 := by omega
  have e : Go.bits .andNot .u16 (a : Int) 1 = IntKind.u16.wrap (((BitVec.ofInt 16 (a : Int)) &&& ~~~(BitVec.ofInt 16 1)).toNat : Int) := rfl
  have e2 : (~~~(BitVec.ofInt 16 1)).toNat = 65534 := by decide
  have hx2 : (a &&& 65534) / 2 = a / 2 := by
    rw [Nat.and_div_two, show 65534 / 2 = 2 ^ 15 - 1 from by decide, Nat.and_two_pow_sub_one_eq_mod]
    exact Nat.mod_eq_of_lt (by omega)
  have hx0 : (a &&& 65534) % 2 = 0 := by
    have := Nat.and_mod_two_pow (a := a) (b := 65534) (n := 1)
    simpa using this
  have hx : a &&& 65534 = a - a % 2 := by omega
  rw [e, BitVec.toNat_and, e2, BitVec.ofInt_natCast, BitVec.toNat_ofNat, Nat.mod_eq_of_lt (show a < 2 ^ 16 from ha), hx, wrap_u16]
  omega

theorem wf16 {b : Int} (h : (Lit.int .u16 b).wf = true) : 0 ≤ b ∧ b < 65536 := by
  simp [Lit.wf, IntKind.min, IntKind.max, IntKind.signed, IntKind.bits] at h; omega
theorem wf8 {b : Int} (h : (Lit.int .u8 b).wf = true) : 0 ≤ b ∧ b < 256 := by
  simp [Lit.wf, IntKind.min, IntKind.max, IntKind.signed, IntKind.bits] at h; omega

end Go.Proofs.Ytpjkpmgelmjlnaa.BitMath
