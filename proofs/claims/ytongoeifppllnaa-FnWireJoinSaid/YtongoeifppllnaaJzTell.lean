/- Words on printed functions: from some number of rounds on the function answers, and P holds of its answer. Plain facts on picks. No program in sight. -/
import Derived.Test.YtongoeifppllnaaJzWMore
import Derived.Laws.BitsLemmas
import Derived.Lib.Strings
import Derived.Lib.IndexBytes
namespace Go.Proofs.Ytongoeifppllnaa.Tell
open Go Go.RowKit Go.Proofs.YtongoeifppllnaaW.PrintWords Go.Proofs.YtongoeifppllnaaW.PrintLast Go.Proofs.YtongoeifppllnaaW.PrintMore

/-- From some number of rounds on g answers, and P holds of the answer. -/
def Tells {α : Type} (g : Nat → Option α) (P : α → Prop) : Prop := ∃ r, Ev g r ∧ P r
theorem Tells.ev {α : Type} {g : Nat → Option α} {P : α → Prop} {r : α} (h : Ev g r) (hp : P r) : Tells g P := ⟨r, h, hp⟩
theorem Tells.now {α : Type} {P : α → Prop} {r : α} (hp : P r) : Tells (fun _ => some r) P := ⟨r, Ev.now r, hp⟩
theorem Tells.bind {α β : Type} {g : Nat → Option α} {f : Nat → α → Option β} {P : α → Prop} {Q : β → Prop} (h : Tells g P) (k : ∀ a, P a → Tells (fun n => f n a) Q) : Tells (fun n => (g n).bind (f n)) Q := by
  obtain ⟨a, ha, hp⟩ := h
  obtain ⟨r, hr, hq⟩ := k a hp
  exact ⟨r, Ev.bind ha hr, hq⟩
theorem Tells.step {α : Type} {g f : Nat → Option α} {P : α → Prop} (h : ∀ k, g (k + 1) = f k) (k : Tells f P) : Tells g P := by
  obtain ⟨r, hr, hq⟩ := k
  exact ⟨r, Ev.step h hr, hq⟩
theorem Tells.congr {α : Type} {g f : Nat → Option α} {P : α → Prop} (h : ∀ k, g k = f k) (k : Tells f P) : Tells g P := by
  obtain ⟨r, hr, hq⟩ := k
  exact ⟨r, Ev.congr h hr, hq⟩
theorem Tells.mono {α : Type} {g : Nat → Option α} {P Q : α → Prop} (h : Tells g P) (k : ∀ a, P a → Q a) : Tells g Q := by
  obtain ⟨r, hr, hq⟩ := h
  exact ⟨r, hr, k r hq⟩
theorem Tells.rounds {α : Type} {g : Nat → Option α} {r : α} (h : Tells g (· = r)) : ∃ k, g k = some r := by
  obtain ⟨r', hr, rfl⟩ := h
  exact Ev.rounds hr

/-- Bytes. -/
def Bytes (l : List Int) : Prop := ∀ x ∈ l, 0 ≤ x ∧ x ≤ 255
theorem bytes_of_wf {l : List Int} (h : ∀ x ∈ l, (Lit.int .u8 x).wf = true) : Bytes l := fun x hx => by
  have := h x hx
  simp [Lit.wf, IntKind.min, IntKind.max, IntKind.signed, IntKind.bits] at this
  omega
theorem rd_byte {l : List Int} (h : Bytes l) (i : Int) : 0 ≤ rd l i ∧ rd l i ≤ 255 := by
  unfold rd
  by_cases hi : i.toNat < l.length
  · rw [List.getD_eq_getElem?_getD, List.getElem?_eq_getElem hi]
    exact h _ (List.getElem_mem hi)
  · rw [List.getD_eq_getElem?_getD, List.getElem?_eq_none (by omega)]
    exact ⟨by decide, by decide⟩
theorem bytes_take {l : List Int} (h : Bytes l) (n : Nat) : Bytes (l.take n) := fun x hx => h x (List.mem_of_mem_take hx)

theorem wrap_i64_in {n : Int} (h0 : -9223372036854775808 ≤ n) (h1 : n < 9223372036854775808) : IntKind.i64.wrap n = n := by
  rw [IntKind.wrap_i64]; omega
/-- What is not below 0 in both stays so where they differ bit by bit. -/
theorem xor_nonneg (x y : Int) (hx0 : 0 ≤ x) (hx : x < 4611686018427387904) (hy0 : 0 ≤ y) (hy : y < 4611686018427387904) : 0 ≤ Go.bits .xor .i64 x y := by
  obtain ⟨a, rfl⟩ := Int.eq_ofNat_of_zero_le hx0
  obtain ⟨b, rfl⟩ := Int.eq_ofNat_of_zero_le hy0
  have ha : a < 2 ^ 62 := by omega
  have hb : b < 2 ^ 62 := by omega
  have e : Go.bits .xor .i64 (a : Int) (b : Int) = IntKind.i64.wrap (((BitVec.ofInt 64 (a : Int)) ^^^ (BitVec.ofInt 64 (b : Int))).toNat : Int) := rfl
  have hx := Nat.xor_lt_two_pow ha hb
  rw [e, BitVec.toNat_xor, BitVec.ofInt_natCast, BitVec.ofInt_natCast, BitVec.toNat_ofNat, BitVec.toNat_ofNat, Nat.mod_eq_of_lt (by omega), Nat.mod_eq_of_lt (by omega)]
  generalize a ^^^ b = z at hx
  rw [wrap_i64_in (by omega) (by omega)]
  omega
theorem tmod_range (x n : Int) (hx : 0 ≤ x) (hn : 0 < n) : 0 ≤ Int.tmod x n ∧ Int.tmod x n < n := by
  rw [Int.tmod_eq_emod_of_nonneg hx]
  exact ⟨Int.emod_nonneg _ (by omega), Int.emod_lt_of_pos _ hn⟩
theorem wrap64_in {n : Int} (h0 : -9223372036854775808 ≤ n) (h1 : n < 9223372036854775808) : wrap64 n = n := by unfold wrap64; omega

/-! ### Loops over the places of a list -/
theorem getD_lt {α : Type} (l : List α) (z : α) (i : Nat) (h : i < l.length) : l.getD i z = l[i] := by simp [List.getD_eq_getElem?_getD, h]

/-! ### Texts -/
end Go.Proofs.Ytongoeifppllnaa.Tell
