/- What the printed functions of stacks and forks tell, in terms of the list of a stack's bits: for the law FnBitBack. -/
import Derived.Test.YtpjkpmgelmjlnaaKx10
import Derived.Test.YtpjkpmgelmjlnaaKx11
import Derived.Test.YtpjkpmgelmjlnaaKx12
import Derived.Test.YtpjkpmgelmjlnaaKx13
import Derived.Test.YtpjkpmgelmjlnaaKx2
import Derived.Test.YtpjkpmgelmjlnaaKx3
import Derived.Test.YtpjkpmgelmjlnaaKx4
import Derived.Test.YtpjkpmgelmjlnaaKx5
import Derived.Test.YtpjkpmgelmjlnaaKx6
import Derived.Test.YtpjkpmgelmjlnaaKx7
import Derived.Test.YtpjkpmgelmjlnaaKx8
import Derived.Test.YtpjkpmgelmjlnaaKx9
import Derived.Test.YtpjkpmgelmjlnaaBitMath
import Derived.Test.YtpjkpmgelmjlnaaTell
namespace Go.Proofs.Ytpjkpmgelmjlnaa.BFnBitBack
open Go Go.RowKit Go.Proofs.Ytpjkpmgelmjlnaa.BitMath Go.Proofs.Ytpjkpmgelmjlnaa.Tell Go.Proofs.Ytpjkpmgelmjlnaa.K Go.Proofs.YtpjkpmgelmjlnaaW.PrintWords Go.Proofs.YtpjkpmgelmjlnaaW.PrintLast Go.Proofs.YtpjkpmgelmjlnaaW.PrintMore
set_option linter.unusedVariables false
set_option linter.unusedSimpArgs false

theorem in_eq (a l h : Int) : impl_in.f a l h = some (decide (l ≤ a ∧ a ≤ h)) := by
  unfold impl_in.f
  by_cases c : l ≤ a
  · rw [if_pos c]; simp [c]
  · rw [if_neg c]; simp [c]

theorem impl_BitOk_eq (b n : Int) (h0 : 0 ≤ b) (h1 : b < 65536) : impl_BitOk.f b n = some (ok 16 b n) := by
  unfold impl_BitOk.f
  rw [in_eq, Option.bind_some]
  by_cases c : 0 ≤ n ∧ n ≤ 16
  · rw [if_pos (decide_eq_true c), if_pos c.1]
    obtain ⟨n, rfl⟩ := Int.eq_ofNat_of_zero_le c.1
    obtain ⟨b, rfl⟩ := Int.eq_ofNat_of_zero_le h0
    have hn : n ≤ 16 := by omega
    have hw : IntKind.u64.wrap (b : Int) = b := by rw [wrap_u64]; exact Int.emod_eq_of_lt (by omega) (by omega)
    unfold shr ok
    have hm : min (Int.toNat (n : Int)) IntKind.u64.bits = n := by rw [Int.toNat_natCast]; exact Nat.min_eq_left (by show n ≤ 64; omega)
    rw [hw, hm, Int.toNat_natCast]
    have e : ((b : Int) / 2 ^ n == 0) = decide (b < 2 ^ n) := by
      rw [Bool.eq_iff_iff]; simp only [beq_iff_eq, decide_eq_true_eq]
      rw [show ((b : Int) / 2 ^ n) = ((b / 2 ^ n : Nat) : Int) by simp]
      have := Nat.div_eq_zero_iff (a := b) (b := 2 ^ n)
      have hp := Nat.two_pow_pos n
      omega
    rw [e]
    congr 1
    rw [Bool.eq_iff_iff]; simp only [decide_eq_true_eq]
    constructor
    · intro h; exact ⟨by omega, by omega, by exact_mod_cast h⟩
    · intro h; exact_mod_cast h.2.2
  · rw [if_neg (by simp [c])]
    unfold ok
    rw [decide_eq_false (fun h => c ⟨h.1, h.2.1⟩)]

theorem impl_BitStack_taken_eq (b n : Int) (h0 : 0 ≤ b) (h1 : b < 65536) : impl_BitStack_taken.f b n = some ((val (lst 16 b n) : Int), ((lst 16 b n).length : Int)) := by
  unfold impl_BitStack_taken.f
  rw [impl_BitOk_eq b n h0 h1, Option.bind_some]
  cases c : ok 16 b n
  · rw [if_neg (by decide), lst_of_not c]; rfl
  · rw [if_pos rfl, (lst_of_ok h0 c).1, (lst_of_ok h0 c).2]

theorem bit_eq (c : Bool) : impl_bit.f c = some ((c.toNat : Nat) : Int) := by cases c <;> rfl

theorem impl_BitPush_eq (b n : Int) (c : Bool) (h0 : 0 ≤ b) (h1 : b < 65536) : impl_BitPush.f b n c = some (stkB 16 (lst 16 b n ++ [c]), stkN 16 (lst 16 b n ++ [c])) := by
  unfold impl_BitPush.f
  rw [impl_BitStack_taken_eq b n h0 h1, Option.bind_some, bit_eq, Option.bind_some]
  generalize hL : lst 16 b n = L
  have hl : L.length ≤ 16 := by rw [← hL]; exact lst_length_le _ _ _
  have hv := val16 hl
  obtain ⟨e1, e2⟩ := stk_push c hl
  have e1 : stkB 16 (L ++ [c]) = (2 * val L + c.toNat) % 65536 := e1
  have hc : c.toNat < 2 := by cases c <;> decide
  congr 1; congr 1
  · rw [e1]; rw [wrap_u16, wrap_u16]
    generalize val L = v at *
    rw [u16_or1 _ _ (by omega) (by omega) (by omega) (by omega) (by omega)]
    omega
  · rw [e2]; unfold mn wrap64
    dsimp only
    split <;> omega

theorem impl_BitList_loop (b n : Nat) (hb : b < 65536) (hn : n ≤ 16) (d : Nat) : ∀ i : Nat, n - i = d → i ≤ n →
    Ev (fun k => impl_BitList.l0 k (bl (b / 2 ^ (n - i)) i ++ List.replicate (n - i) false) (n : Int) (i : Int) (b : Int) (n : Int)) (bl b n) := by
  induction d with
  | zero =>
    intro i hd hi
    obtain rfl : i = n := by omega
    refine Ev.step (f := fun _ => some (bl b i)) (fun k => ?_) (Ev.now _)
    simp only [impl_BitList.l0]
    rw [if_neg (by omega)]
    simp
  | succ d ih =>
    intro i hd hi
    refine Ev.step (fun k => ?_) (ih (i + 1) (by omega) (by omega))
    simp only [impl_BitList.l0]
    have hw : wrap64 (wrap64 ((n : Int) - 1) - (i : Int)) = ((n - 1 - i : Nat) : Int) := by unfold wrap64; omega
    have hw2 : wrap64 ((i : Int) + 1) = ((i + 1 : Nat) : Int) := by unfold wrap64; omega
    have hlen : (bl (b / 2 ^ (n - i)) i ++ List.replicate (n - i) false).length = n := by rw [List.length_append, bl_length, List.length_replicate]; omega
    rw [if_pos (by omega), hw, if_pos (by omega), if_pos (by omega), if_pos (by rw [hlen]; omega), hw2, Int.toNat_natCast]
    congr 1
    obtain ⟨m, hm⟩ : ∃ m, n - i = m + 1 := ⟨n - i - 1, by omega⟩
    have hm' : n - (i + 1) = m := by omega
    have hm2 : n - 1 - i = m := by omega
    rw [hm, hm', hm2]
    have hs : (Go.bits .and .u16 (shr .u16 (b : Int) (m : Int)) 1 == 1) = (b / 2 ^ m % 2 == 1) := by
      have e : shr .u16 (b : Int) (m : Int) = ((b / 2 ^ m : Nat) : Int) := by
        unfold shr
        have : min (Int.toNat (m : Int)) IntKind.u16.bits = m := by rw [Int.toNat_natCast]; exact Nat.min_eq_left (by show m ≤ 16; omega)
        rw [this]; simp
      have hlt : b / 2 ^ m < 65536 := Nat.lt_of_le_of_lt (Nat.div_le_self _ _) hb
      rw [e]
      generalize b / 2 ^ m = q at hlt
      rw [u16_and1 _ (by omega) (by omega), Bool.eq_iff_iff]; simp only [beq_iff_eq]; omega
    rw [hs, List.replicate_succ, List.set_append_right _ _ (by rw [bl_length]; exact Nat.le_refl _), bl_length, Nat.sub_self, List.set_cons_zero, bl]
    rw [Nat.div_div_eq_div_mul, ← Nat.pow_succ]
    simp
theorem impl_BitList_ev (b n : Int) (h0 : 0 ≤ b) (h1 : b < 65536) : Ev (fun k => impl_BitList.f k b n) (lst 16 b n) := by
  unfold impl_BitList.f
  simp only [impl_BitStack_taken_eq b n h0 h1, Option.bind_some]
  generalize hL : lst 16 b n = L
  have hl : L.length ≤ 16 := by rw [← hL]; exact lst_length_le _ _ _
  have hv := val16 hl
  clear hL
  refine Ev.congr (fun k => ?_) (f := fun k => impl_BitList.l0 k (bl (val L / 2 ^ (L.length - 0)) 0 ++ List.replicate (L.length - 0) false) (L.length : Int) ((0 : Nat) : Int) (val L : Int) (L.length : Int)) ?_
  · rw [if_pos (by omega), if_pos (by omega)]
    simp [bl]
  · have := impl_BitList_loop (val L) L.length hv hl (L.length) 0 (by omega) (by omega)
    rw [bl_val] at this
    exact this

theorem spec_BitOk_loop (b : Int) (n : Nat) (hn : n ≤ 16) (d : Nat) : ∀ i : Nat, n - i = d → i ≤ n →
    Ev (fun k => spec_BitOk.l0 k (2 ^ i) (i : Int) b (n : Int)) (decide (wrap64 b < 2 ^ n)) := by
  induction d with
  | zero =>
    intro i hd hi
    obtain rfl : i = n := by omega
    refine Ev.step (f := fun _ => some _) (fun k => ?_) (Ev.now _)
    simp only [spec_BitOk.l0]
    rw [if_neg (by omega)]
  | succ d ih =>
    intro i hd hi
    refine Ev.step (fun k => ?_) (ih (i + 1) (by omega) (by omega))
    simp only [spec_BitOk.l0]
    have hp' : ((2 : Int) ^ i) ≤ 65536 := ipow16 (by omega)
    have hp0 : (0 : Int) < 2 ^ i := Int.pow_pos (by decide)
    have hw2 : wrap64 ((i : Int) + 1) = ((i + 1 : Nat) : Int) := by unfold wrap64; omega
    have hw : wrap64 ((2 : Int) ^ i * 2) = 2 ^ (i + 1) := by rw [Int.pow_succ]; unfold wrap64; omega
    rw [if_pos (by omega), hw2, hw]
theorem spec_BitOk_ev (b n : Int) (h0 : 0 ≤ b) (h1 : b < 65536) : Ev (fun k => spec_BitOk.f k b n) (ok 16 b n) := by
  unfold spec_BitOk.f
  by_cases c : n < 0
  · refine Ev.step (f := fun _ => some false) (fun k => ?_) ?_
    · rw [if_pos c]; simp only [spec_BitOk.j0]; rfl
    · have : ok 16 b n = false := by unfold ok; exact decide_eq_false (by omega)
      rw [this]; exact Ev.now _
  · by_cases c2 : n > 16
    · refine Ev.step (f := fun _ => some false) (fun k => ?_) ?_
      · rw [if_neg c, decide_eq_true c2]; simp only [spec_BitOk.j0]; rfl
      · have : ok 16 b n = false := by unfold ok; exact decide_eq_false (by omega)
        rw [this]; exact Ev.now _
    · obtain ⟨n, rfl⟩ := Int.eq_ofNat_of_zero_le (show 0 ≤ n by omega)
      refine Ev.step (f := fun k => spec_BitOk.l0 k (2 ^ 0) ((0 : Nat) : Int) b (n : Int)) (fun k => ?_) ?_
      · rw [if_neg c, decide_eq_false c2]; simp only [spec_BitOk.j0]; rfl
      · have h := spec_BitOk_loop b n (by omega) n 0 (by omega) (by omega)
        have hw : wrap64 b = b := by unfold wrap64; omega
        rw [hw] at h
        have e : ok 16 b (n : Int) = decide (b < 2 ^ n) := by
          unfold ok
          rw [Int.toNat_natCast]
          by_cases hlt : b < 2 ^ n
          · rw [decide_eq_true hlt]; exact decide_eq_true ⟨by omega, by omega, hlt⟩
          · rw [decide_eq_false hlt]; exact decide_eq_false (fun h => hlt h.2.2)
        rw [e]; exact h

theorem spec_l1Power_loop (n : Nat) (hn : n ≤ 15) (d : Nat) : ∀ i : Nat, n - i = d → i ≤ n →
    Ev (fun k => spec_l1Power.l0 k (n : Int) (2 ^ i) (i : Int)) (2 ^ n) := by
  induction d with
  | zero =>
    intro i hd hi
    obtain rfl : i = n := by omega
    refine Ev.step (f := fun _ => some _) (fun k => ?_) (Ev.now _)
    simp only [spec_l1Power.l0]
    rw [if_neg (by omega)]
  | succ d ih =>
    intro i hd hi
    refine Ev.step (fun k => ?_) (ih (i + 1) (by omega) (by omega))
    simp only [spec_l1Power.l0]
    have hp' : ((2 : Int) ^ (i + 1)) ≤ 32768 := ipow15 (by omega)
    have hp0 : (0 : Int) < 2 ^ i := Int.pow_pos (by decide)
    rw [Int.pow_succ] at hp'
    have hw2 : wrap64 ((i : Int) + 1) = ((i + 1 : Nat) : Int) := by unfold wrap64; omega
    have hw : IntKind.u16.wrap ((2 : Int) ^ i * 2) = 2 ^ (i + 1) := by rw [Int.pow_succ, wrap_u16]; exact Int.emod_eq_of_lt (by omega) (by omega)
    rw [if_pos (by omega), hw2, hw]
theorem spec_l1Power_ev (n : Nat) (hn : n ≤ 15) : Ev (fun k => spec_l1Power.f k (n : Int)) (2 ^ n) := spec_l1Power_loop n hn n 0 (by omega) (by omega)

theorem spec_BitList_loop (b n : Nat) (hb : b < 65536) (hn : n ≤ 16) (d : Nat) : d ≤ n →
    Ev (fun k => spec_BitList.l0 k (bl (b / 2 ^ d) (n - d)) ((d : Int) - 1) (b : Int) (n : Int)) (bl b n) := by
  induction d with
  | zero =>
    intro hd
    refine Ev.step (f := fun _ => some _) (fun k => ?_) (Ev.now _)
    simp only [spec_BitList.l0]
    rw [if_neg (by omega)]
    simp
  | succ d ih =>
    intro hd
    have hp := spec_l1Power_ev d (by omega)
    refine Ev.step (f := fun k => (spec_l1Power.f k (d : Int)).bind fun t121 => (if t121 = 0 then (none) else (if (bl (b / 2 ^ (d + 1)) (n - (d + 1))).length < 140737488355328 then (spec_BitList.l0 k ((bl (b / 2 ^ (d + 1)) (n - (d + 1))) ++ [((Int.tmod (IntKind.u16.wrap (Int.tdiv (b : Int) t121)) 2) == 1)]) (wrap64 ((d : Int) - 1)) (b : Int) (n : Int)) else (none)))) (fun k => ?_) ?_
    · simp only [spec_BitList.l0]
      rw [show (((d + 1 : Nat) : Int) - 1) = (d : Int) by omega, if_pos (by omega)]
    · refine Ev.bind hp ?_
      refine Ev.congr (fun k => ?_) (ih (by omega))
      have hp0 : (0 : Int) < 2 ^ d := Int.pow_pos (by decide)
      rw [if_neg (by omega), if_pos (by rw [bl_length]; omega)]
      have hw : wrap64 ((d : Int) - 1) = (d : Int) - 1 := by unfold wrap64; omega
      rw [hw]
      congr 1
      obtain ⟨m, hm⟩ : ∃ m, n - d = m + 1 := ⟨n - d - 1, by omega⟩
      have hm2 : n - (d + 1) = m := by omega
      have hlt : b / 2 ^ d < 65536 := Nat.lt_of_le_of_lt (Nat.div_le_self _ _) hb
      have e : Int.tdiv (b : Int) (2 ^ d) = ((b / 2 ^ d : Nat) : Int) := by
        rw [show ((2 : Int) ^ d) = ((2 ^ d : Nat) : Int) by simp]; exact Int.ofNat_tdiv b (2 ^ d) |>.symm
      rw [hm, hm2, bl, Nat.div_div_eq_div_mul, ← Nat.pow_succ, e, wrap_u16]
      generalize b / 2 ^ d = q at hlt
      rw [Int.emod_eq_of_lt (by omega) (by omega)]
      congr 2
      rw [Bool.eq_iff_iff]; simp only [beq_iff_eq]
      rw [Int.tmod_eq_emod_of_nonneg (by omega)]; omega
theorem spec_BitList_ev (b n : Int) (h0 : 0 ≤ b) (h1 : b < 65536) : Ev (fun k => spec_BitList.f k b n) (lst 16 b n) := by
  unfold spec_BitList.f
  simp only [Option.bind_some]
  refine Ev.bind (spec_BitOk_ev b n h0 h1) ?_
  cases c : ok 16 b n
  · rw [lst_of_not c]; exact Ev.now _
  · unfold lst
    rw [if_pos c]
    have c' := of_decide_eq_true c
    obtain ⟨n, rfl⟩ := Int.eq_ofNat_of_zero_le c'.1
    obtain ⟨b, rfl⟩ := Int.eq_ofNat_of_zero_le h0
    rw [Int.toNat_natCast, Int.toNat_natCast]
    have h := spec_BitList_loop b n (by omega) (by omega) n (Nat.le_refl _)
    rw [Nat.sub_self] at h
    refine Ev.congr (fun k => ?_) h
    have hw : wrap64 ((n : Int) - 1) = (n : Int) - 1 := by unfold wrap64; omega
    rw [if_pos rfl, hw]; rfl

theorem spec_l1Stack_loop (l : List Bool) (hl : l.length ≤ 1099511627776) (d : Nat) : ∀ m : Nat, 16 - m = d → m ≤ 16 → m ≤ l.length →
    Ev (fun k => spec_l1Stack.l0 k l (2 ^ m % 65536) ((l.length : Int) - 1 - m) (val (l.drop (l.length - m)) : Int) (m : Int)) (stkB 16 l, stkN 16 l) := by
  induction d with
  | zero =>
    intro m hd hm hml
    obtain rfl : m = 16 := by omega
    refine Ev.step (f := fun k => spec_l1Stack.j1 k l (2 ^ 16 % 65536) ((l.length : Int) - 1 - (16 : Nat)) false (val (l.drop (l.length - 16)) : Int) ((16 : Nat) : Int)) (fun k => ?_) ?_
    · simp only [spec_l1Stack.l0]
      split <;> rfl
    · refine Ev.step (f := fun _ => some _) (fun k => ?_) (Ev.now _)
      simp only [spec_l1Stack.j1, stkB, stkN]
      rw [Nat.min_eq_left hml]; rfl
  | succ d ih =>
    intro m hd hm hml
    by_cases c : m < l.length
    · refine Ev.step (f := fun k => spec_l1Stack.j1 k l (2 ^ m % 65536) ((l.length : Int) - 1 - m) true (val (l.drop (l.length - m)) : Int) (m : Int)) (fun k => ?_) ?_
      · simp only [spec_l1Stack.l0]
        rw [if_pos (by omega), decide_eq_true (by omega)]
      · refine Ev.step (fun k => ?_) (ih (m + 1) (by omega) (by omega) (by omega))
        simp only [spec_l1Stack.j1]
        rw [if_pos (by decide), if_pos (by omega), if_pos (by omega)]
        have hi : ((l.length : Int) - 1 - m).toNat = l.length - (m + 1) := by omega
        have hlt : l.length - (m + 1) < l.length := by omega
        have hr : rdOf false l ((l.length : Int) - 1 - m) = l[l.length - (m + 1)] := by
          unfold rdOf; rw [hi]; simp [List.getD_eq_getElem?_getD, hlt]
        have hdr : l.drop (l.length - (m + 1)) = l[l.length - (m + 1)] :: l.drop (l.length - m) := by
          rw [List.drop_eq_getElem_cons hlt, show l.length - (m + 1) + 1 = l.length - m by omega]
        have hdl : (l.drop (l.length - m)).length = m := by simp; omega
        have hv := val_lt (l.drop (l.length - m))
        rw [hdl] at hv
        have hp : 2 ^ (m + 1) ≤ 65536 := pow16 (by omega)
        rw [Nat.pow_succ] at hp
        have hpe : (2 ^ m % 65536 : Int) = ((2 ^ m : Nat) : Int) := by
          rw [show ((2 : Int) ^ m) = ((2 ^ m : Nat) : Int) by simp]; omega
        have w1 : wrap64 ((l.length : Int) - 1 - m - 1) = (l.length : Int) - 1 - ((m + 1 : Nat) : Int) := by unfold wrap64; omega
        have w2 : wrap64 ((m : Int) + 1) = ((m + 1 : Nat) : Int) := by unfold wrap64; omega
        have w3 : IntKind.u16.wrap ((2 ^ m % 65536 : Int) * 2) = 2 ^ (m + 1) % 65536 := by
          rw [wrap_u16, hpe, show ((2 : Int) ^ (m + 1)) = ((2 ^ m * 2 : Nat) : Int) by simp [Int.pow_succ]]; omega
        rw [hr, hdr, val_cons, hdl, w1, w2, w3, hpe]
        cases l[l.length - (m + 1)]
        · rw [if_neg (by decide)]; simp
        · rw [if_pos rfl]
          have w4 : IntKind.u16.wrap ((val (l.drop (l.length - m)) : Int) + ((2 ^ m : Nat) : Int)) = ((true.toNat * 2 ^ m + val (l.drop (l.length - m)) : Nat) : Int) := by
            have : true.toNat = 1 := rfl
            rw [this, Nat.one_mul, wrap_u16]
            omega
          rw [w4]
    · obtain rfl : m = l.length := by omega
      refine Ev.step (f := fun k => spec_l1Stack.j1 k l (2 ^ l.length % 65536) ((l.length : Int) - 1 - l.length) false (val (l.drop (l.length - l.length)) : Int) (l.length : Int)) (fun k => ?_) ?_
      · simp only [spec_l1Stack.l0]
        rw [if_neg (by omega)]
      · refine Ev.step (f := fun _ => some _) (fun k => ?_) (Ev.now _)
        simp only [spec_l1Stack.j1, stkB, stkN]
        rw [Nat.min_eq_right hm, Nat.sub_self, Nat.sub_eq_zero_of_le hm]; rfl
theorem spec_l1Stack_ev (l : List Bool) (hl : l.length ≤ 1099511627776) : Ev (fun k => spec_l1Stack.f k l) (stkB 16 l, stkN 16 l) := by
  have h := spec_l1Stack_loop l hl 16 0 (by omega) (by omega) (by omega)
  refine Ev.congr (fun k => ?_) h
  unfold spec_l1Stack.f
  have w1 : wrap64 ((l.length : Int) - 1) = (l.length : Int) - 1 - ((0 : Nat) : Int) := by unfold wrap64; omega
  rw [w1]; simp [val_nil]

/-- The Bools of d bytes from i on, behind others; none if one is neither 0 nor 1. -/
def rdB (s : ByteArray) : Nat → Nat → List Bool → Option (List Bool)
  | 0, _, acc => some acc
  | d + 1, i, acc => if bt s (i : Int) = 48 ∨ bt s (i : Int) = 49 then rdB s d (i + 1) (acc ++ [bt s (i : Int) == 49]) else none
def res : Option (List Bool) → Int × Int × Bool
  | some l => (stkB 16 l, stkN 16 l, true)
  | none => (0, 0, false)
theorem rdB_step {s : ByteArray} {d i : Nat} {acc : List Bool} (c : bt s (i : Int) = 48 ∨ bt s (i : Int) = 49) : rdB s d (i + 1) (acc ++ [bt s (i : Int) == 49]) = rdB s (d + 1) i acc := by
  simp only [rdB]; rw [if_pos c]
theorem spec_BitRead_loop (s : ByteArray) (hs : s.size ≤ 17) (d : Nat) : ∀ (i : Nat) (acc : List Bool), s.size - i = d → acc.length = i - 1 → acc.length ≤ 17 → 1 ≤ i →
    Ev (fun k => spec_BitRead.l0 k s acc (i : Int)) (res (rdB s d i acc)) := by
  induction d with
  | zero =>
    intro i acc hd ha ha2 hi
    refine Ev.step (f := fun k => (spec_l1Stack.f k acc).bind fun bt311 => (some (bt311.1, bt311.2, true))) (fun k => ?_) ?_
    · simp only [spec_BitRead.l0]; rw [if_neg (by omega)]
    · by_cases c : acc.length ≤ 1099511627776
      · exact Ev.bind (spec_l1Stack_ev acc c) (Ev.now _)
      · exact (c (by omega)).elim
  | succ d ih =>
    intro i acc hd ha ha2 hi
    have w : wrap64 ((i : Int) + 1) = ((i + 1 : Nat) : Int) := by unfold wrap64; omega
    by_cases c : bt s (i : Int) = 48 ∨ bt s (i : Int) = 49
    · refine Ev.step (fun k => ?_) (rdB_step c ▸ ih (i + 1) (acc ++ [bt s (i : Int) == 49]) (by omega) (by simp; omega) (by simp; omega) (by omega))
      simp only [spec_BitRead.l0]
      rw [if_pos (by omega), if_pos (by omega), w]
      rcases c with c | c
      · rw [if_pos c, if_pos (by omega)]
      · rw [if_neg (by omega), if_pos c, if_pos (by omega)]
    · have e : rdB s (d + 1) i acc = none := by simp only [rdB]; rw [if_neg c]
      rw [e]
      refine Ev.step (f := fun _ => some _) (fun k => ?_) (Ev.now _)
      simp only [spec_BitRead.l0]
      rw [if_pos (by omega), if_pos (by omega), if_neg (fun h => c (Or.inl h)), if_neg (fun h => c (Or.inr h))]
      rfl
/-- What a text is read as. -/
def readOf (s : ByteArray) : Option (List Bool) := if 0 < s.size ∧ bt s 0 = 124 ∧ s.size ≤ 17 then rdB s (s.size - 1) 1 [] else none
theorem spec_BitRead_ev (s : ByteArray) (hs : s.size ≤ 1099511627776) : Ev (fun k => spec_BitRead.f k s) (res (readOf s)) := by
  have bad : Ev (fun k => spec_BitRead.j0 k s true) (0, 0, false) := by
    refine Ev.step (f := fun _ => some _) (fun k => ?_) (Ev.now _)
    simp only [spec_BitRead.j0]; rfl
  unfold spec_BitRead.f
  by_cases c0 : s.size = 0
  · have e : s.toList = [] := by rw [Lib.toList_data]; exact List.length_eq_zero_iff.mp (by rw [← size_data]; exact c0)
    have e2 : readOf s = none := by unfold readOf; rw [if_neg (by omega)]
    simp only [if_pos e, e2]
    exact bad
  · have e : ¬ s.toList = [] := by
      rw [Lib.toList_data]; intro h
      have := congrArg List.length h
      rw [← size_data] at this
      exact c0 this
    simp only [if_neg e, if_pos (show 0 < (s.size : Int) by omega)]
    by_cases c1 : bt s 0 = 124
    · simp only [if_pos c1]
      by_cases c2 : s.size ≤ 17
      · have e2 : readOf s = rdB s (s.size - 1) 1 [] := by unfold readOf; rw [if_pos ⟨by omega, c1, c2⟩]
        rw [e2]
        refine Ev.step (fun k => ?_) (spec_BitRead_loop s c2 (s.size - 1) 1 [] (by omega) rfl (by simp) (by omega))
        simp only [spec_BitRead.j0]
        rw [if_neg (by simp; omega)]; rfl
      · have e2 : readOf s = none := by unfold readOf; rw [if_neg (by omega)]
        rw [e2, decide_eq_true (show (s.size : Int) > 17 by omega)]
        exact bad
    · have e2 : readOf s = none := by unfold readOf; rw [if_neg (fun h => c1 h.2.1)]
      simp only [if_neg c1, e2]
      exact bad

theorem cut_bar (s : ByteArray) : strings_CutPrefix.f s (⟨#[124]⟩ : ByteArray) = some (if 0 < s.size ∧ bt s 0 = 124 then (s.extract 1 s.size, true) else (s, false)) := by
  have h1 : ((⟨#[124]⟩ : ByteArray).size : Int) = 1 := rfl
  have h2 : (⟨#[124]⟩ : ByteArray).toList = [124] := by rw [Lib.toList_data]
  have hp : stringslite_HasPrefix.f s (⟨#[124]⟩ : ByteArray) = some (decide (0 < s.size ∧ bt s 0 = 124)) := by
    unfold stringslite_HasPrefix.f
    rw [h1, h2]
    by_cases c : (s.size : Int) ≥ 1
    · rw [if_pos c, if_pos (by decide), if_pos c]
      congr 1
      rw [Lib.extract_toList, bt_getD]
      have hl := size_data s
      generalize s.data.toList = L at hl
      match L with
      | [] => have h0 : s.size = 0 := hl; omega
      | x :: L =>
        rw [Bool.eq_iff_iff]
        simp only [Int.toNat_one, Nat.sub_zero, List.drop_zero, List.take_succ_cons, List.take_zero, beq_iff_eq, List.cons.injEq, and_true, decide_eq_true_eq, Int.toNat_zero, List.getD_cons_zero]
        constructor
        · rintro rfl; exact ⟨by omega, rfl⟩
        · rintro ⟨_, h⟩
          have : x.toNat = 124 := by omega
          exact UInt8.toNat_inj.mp this
    · rw [if_neg c, decide_eq_false (by omega)]
  unfold strings_CutPrefix.f stringslite_CutPrefix.f
  rw [hp, Option.bind_some]
  by_cases c : 0 < s.size ∧ bt s 0 = 124
  · rw [if_pos (decide_eq_true c), if_pos c, h1, if_pos (by decide), if_pos (by omega)]; rfl
  · rw [if_neg (by simp only [decide_eq_true_eq]; exact c), if_neg c]; rfl

theorem impl_BitRead_loop (s t : ByteArray) (ht : t = s.extract 1 s.size) (hs : s.size ≤ 17) (h0 : 0 < s.size) (d : Nat) : ∀ (i : Nat) (acc : List Bool), t.size - i = d → acc.length = i → i ≤ t.size →
    Ev (fun k => impl_BitRead.l0 k t (t.size : Int) (i : Int) (val acc : Int) (acc.length : Int)) (res (rdB s d (i + 1) acc)) := by
  have hts : t.size = s.size - 1 := by rw [ht, size_tail]
  have hbt : ∀ i : Nat, bt t (i : Int) = bt s ((i + 1 : Nat) : Int) := fun i => by rw [ht, bt_tail, Nat.add_comm]
  induction d with
  | zero =>
    intro i acc hd ha hi
    refine Ev.step (f := fun _ => some _) (fun k => ?_) (Ev.now _)
    simp only [impl_BitRead.l0]
    rw [if_neg (by omega)]
    have := stk_short (m := 16) (l := acc) (by omega)
    simp only [rdB, res, this.1, this.2]
  | succ d ih =>
    intro i acc hd ha hi
    have w : wrap64 ((i : Int) + 1) = ((i + 1 : Nat) : Int) := by unfold wrap64; omega
    by_cases c : bt s ((i + 1 : Nat) : Int) = 48 ∨ bt s ((i + 1 : Nat) : Int) = 49
    · refine Ev.step (fun k => ?_) (rdB_step c ▸ ih (i + 1) (acc ++ [bt s ((i + 1 : Nat) : Int) == 49]) (by omega) (by simp; omega) (by omega))
      simp only [impl_BitRead.l0]
      have hv := val16 (l := acc) (by omega)
      have hp : impl_BitPush.f (val acc : Int) (acc.length : Int) (bt s ((i + 1 : Nat) : Int) == 49) = some ((val (acc ++ [bt s ((i + 1 : Nat) : Int) == 49]) : Int), ((acc ++ [bt s ((i + 1 : Nat) : Int) == 49]).length : Int)) := by
        have hk := stk_short (m := 16) (l := acc ++ [bt s ((i + 1 : Nat) : Int) == 49]) (by simp; omega)
        rw [impl_BitPush_eq _ _ _ (by omega) (by omega), lst_of_list (by omega), hk.1, hk.2]
      rw [if_pos (by omega), if_pos (by omega), if_pos (by omega), w, hbt, hp, Option.bind_some]
      rcases c with c | c
      · rw [if_pos c]
      · rw [if_neg (by omega), if_pos c]
    · have e : rdB s (d + 1) (i + 1) acc = none := by simp only [rdB]; rw [if_neg c]
      rw [e]
      refine Ev.step (f := fun _ => some _) (fun k => ?_) (Ev.now _)
      simp only [impl_BitRead.l0]
      rw [if_pos (by omega), if_pos (by omega), if_pos (by omega), hbt, if_neg (fun h => c (Or.inl h)), if_neg (fun h => c (Or.inr h))]
      rfl
theorem impl_BitRead_ev (s : ByteArray) : Ev (fun k => impl_BitRead.f k s) (res (readOf s)) := by
  have bad : ∀ t : ByteArray, Ev (fun k => impl_BitRead.j0 k t true) (0, 0, false) := by
    intro t
    refine Ev.step (f := fun _ => some _) (fun k => ?_) (Ev.now _)
    simp only [impl_BitRead.j0]; rfl
  unfold impl_BitRead.f
  simp only [cut_bar, Option.bind_some]
  by_cases c : 0 < s.size ∧ bt s 0 = 124
  · simp only [if_pos c, if_true]
    have hts := size_tail s 1
    by_cases c2 : s.size ≤ 17
    · have e2 : readOf s = rdB s (s.size - 1) 1 [] := by unfold readOf; rw [if_pos ⟨c.1, c.2, c2⟩]
      rw [e2]
      have hl := impl_BitRead_loop s _ rfl c2 c.1 ((s.extract 1 s.size).size) 0 [] (by omega) rfl (by omega)
      rw [hts] at hl
      refine Ev.step (fun k => ?_) hl
      simp only [impl_BitRead.j0]
      rw [if_neg (by simp; omega), hts]; rfl
    · have e2 : readOf s = none := by unfold readOf; rw [if_neg (by omega)]
      rw [e2, decide_eq_true (show ((s.extract 1 s.size).size : Int) > 16 by omega)]
      exact bad _
  · have e2 : readOf s = none := by unfold readOf; rw [if_neg (fun h => c ⟨h.1, h.2.1⟩)]
    simp only [if_neg c, e2, Bool.false_eq_true, if_false]
    exact bad _

theorem bytes_push (a : List UInt8) (c : UInt8) : (⟨a.toArray⟩ : ByteArray) ++ (⟨#[c]⟩ : ByteArray) = ⟨(a ++ [c]).toArray⟩ := by
  apply ByteArray.ext
  simp
theorem spec_BitText_loop (L : List Bool) (hL : L.length ≤ 16) (d : Nat) : ∀ i : Nat, L.length - i = d → i ≤ L.length →
    Ev (fun k => spec_BitText.l0 k (⟨(124 :: (L.take i).map bitChar).toArray⟩ : ByteArray) L (i : Int)) (⟨(124 :: L.map bitChar).toArray⟩ : ByteArray) := by
  induction d with
  | zero =>
    intro i hd hi
    obtain rfl : i = L.length := by omega
    refine Ev.step (f := fun _ => some (⟨(124 :: L.map bitChar).toArray⟩ : ByteArray)) (fun k => ?_) (Ev.now _)
    simp only [spec_BitText.l0]
    rw [if_neg (by omega), List.take_length]
  | succ d ih =>
    intro i hd hi
    refine Ev.step (fun k => ?_) (ih (i + 1) (by omega) (by omega))
    simp only [spec_BitText.l0]
    have w : wrap64 ((i : Int) + 1) = ((i + 1 : Nat) : Int) := by unfold wrap64; omega
    have hlt : i < L.length := by omega
    have hrd : rdOf false L (i : Int) = L[i] := by unfold rdOf; simp [List.getD_eq_getElem?_getD, hlt]
    have hsz : (⟨(124 :: (L.take i).map bitChar).toArray⟩ : ByteArray).size + 1 ≤ 9223372036854775807 := by
      show (124 :: (L.take i).map bitChar).toArray.size + 1 ≤ _
      simp; omega
    have ht : (124 :: (L.take i).map bitChar) ++ [bitChar L[i]] = 124 :: (L.take (i + 1)).map bitChar := by
      rw [List.take_succ_eq_append_getElem hlt, List.map_append]; rfl
    rw [if_pos (by omega), if_pos (by omega), hrd, if_pos hsz, if_pos hsz, w, bytes_push, bytes_push, ← ht]
    cases L[i] <;> rfl
theorem spec_BitText_ev (b n : Int) (h0 : 0 ≤ b) (h1 : b < 65536) : Ev (fun k => spec_BitText.f k b n) (if ok 16 b n = true then (⟨(124 :: (lst 16 b n).map bitChar).toArray⟩ : ByteArray) else ⟨#[]⟩) := by
  unfold spec_BitText.f
  refine Ev.bind (spec_BitOk_ev b n h0 h1) ?_
  by_cases c : ok 16 b n = true
  · simp only [if_pos c]
    refine Ev.bind (spec_BitList_ev b n h0 h1) ?_
    have := spec_BitText_loop (lst 16 b n) (lst_length_le _ _ _) (lst 16 b n).length 0 (by omega) (by omega)
    simpa using this
  · simp only [if_neg c]; exact Ev.now _

theorem impl_BitText_ev (b n : Int) (h0 : 0 ≤ b) (h1 : b < 65536) : Ev (fun k => impl_BitText.f k b n) (if ok 16 b n = true then (⟨(124 :: (lst 16 b n).map bitChar).toArray⟩ : ByteArray) else ⟨#[]⟩) := by
  unfold impl_BitText.f
  simp only [impl_BitOk_eq b n h0 h1, Option.bind_some]
  by_cases c : ok 16 b n = true
  · simp only [if_pos c]
    refine Ev.bind (impl_BitList_ev b n h0 h1) ?_
    have := lst_length_le 16 b n
    simp only [if_pos (show (lst 16 b n).length ≤ 1000000 by omega)]
    exact Ev.now _
  · simp only [if_neg c]; exact Ev.now _

theorem open_tells (l : List Int) (hl : Bytes l) (hn : l.length ≤ 1048576) : ∃ b : List Int, spec_l26Open.f l = some (b, 0) ∧ Bytes b ∧ b.length ≤ 2000 := by
  unfold spec_l26Open.f
  by_cases c : (l.length : Int) > 2000
  · refine ⟨l.take 2000, ?_, bytes_take hl _, by simp; omega⟩
    rw [if_pos c, if_pos (by omega)]
  · exact ⟨l, by rw [if_neg c], hl, by omega⟩

theorem pick_tells {b : List Int} (hb : Bytes b) (hl : b.length ≤ 2000) {p n : Int} (hp0 : 0 ≤ p) (hp : p ≤ 1000000000) (hn : 1 ≤ n) (hn2 : n ≤ 1000000000) :
    Tells (fun k => spec_l26Rd_pick.f k b p n) (fun r => 0 ≤ r.1 ∧ r.1 < n ∧ r.2 = p + 1) := by
  have w1 : wrap64 (p + 1) = p + 1 := wrap64_in (by omega) (by omega)
  have w2 : wrap64 (p + 1 - 1) = p := by unfold wrap64; omega
  refine Tells.step (f := fun _ => ?f) (fun k => ?_) ?_
  case f => exact spec_l26Rd_pick.j0 1 n ((b.length : Int) == 0) b (p + 1)
  · unfold spec_l26Rd_pick.f
    rw [if_neg (by omega), w1]
    simp only [spec_l26Rd_pick.j0]
  · simp only [spec_l26Rd_pick.j0]
    by_cases c0 : (b.length : Int) = 0
    · rw [if_pos (by simpa using c0)]
      exact Tells.now ⟨by omega, by omega, rfl⟩
    · rw [if_neg (by simpa using c0), w2]
      have hlen : 0 < (b.length : Int) := by omega
      by_cases c1 : p < (b.length : Int)
      · rw [if_pos c1, if_pos hp0, if_neg (by omega)]
        have hr := rd_byte hb p
        rw [wrap64_in (by omega) (by omega)]
        have ht := tmod_range (rd b p) n hr.1 (by omega)
        exact Tells.now ⟨ht.1, ht.2, rfl⟩
      · rw [if_neg c1, if_neg c0]
        have w3 : wrap64 (wrap64 (p * 7) + 3) = p * 7 + 3 := by rw [wrap64_in (n := p * 7) (by omega) (by omega), wrap64_in (by omega) (by omega)]
        have h1 := tmod_range p b.length hp0 hlen
        have h2 := tmod_range (p * 7 + 3) b.length (by omega) hlen
        rw [w3, if_pos h1.1, if_pos h1.2, if_pos h2.1, if_pos h2.2, if_neg (by omega)]
        have r1 := rd_byte hb (Int.tmod p (b.length : Int))
        have r2 := rd_byte hb (Int.tmod (p * 7 + 3) (b.length : Int))
        have hd0 : 0 ≤ Int.tdiv p (b.length : Int) := Int.tdiv_nonneg hp0 (by omega)
        have hd1 : Int.tdiv p (b.length : Int) ≤ p := by
          rw [Int.tdiv_eq_ediv_of_nonneg hp0]; exact Int.ediv_le_self _ hp0
        generalize rd b (Int.tmod p (b.length : Int)) = x1 at r1
        generalize rd b (Int.tmod (p * 7 + 3) (b.length : Int)) = x2 at r2
        generalize Int.tdiv p (b.length : Int) = x3 at hd0 hd1
        have e1 : wrap64 (wrap64 x1 * 131) = x1 * 131 := by rw [wrap64_in (n := x1) (by omega) (by omega), wrap64_in (by omega) (by omega)]
        have e2 : wrap64 (wrap64 x2 * 1117) = x2 * 1117 := by rw [wrap64_in (n := x2) (by omega) (by omega), wrap64_in (by omega) (by omega)]
        have e3 : wrap64 (p * 29) = p * 29 := wrap64_in (by omega) (by omega)
        have e4 : wrap64 (wrap64 x3 * 53) = x3 * 53 := by rw [wrap64_in (n := x3) (by omega) (by omega), wrap64_in (by omega) (by omega)]
        have e5 : wrap64 (x1 * 131 + x2 * 1117) = x1 * 131 + x2 * 1117 := wrap64_in (by omega) (by omega)
        have e6 : wrap64 (x1 * 131 + x2 * 1117 + p * 29) = x1 * 131 + x2 * 1117 + p * 29 := wrap64_in (by omega) (by omega)
        have e7 : wrap64 (x1 * 131 + x2 * 1117 + p * 29 + x3 * 53) = x1 * 131 + x2 * 1117 + p * 29 + x3 * 53 := wrap64_in (by omega) (by omega)
        simp only [e1, e2, e3, e4, e5, e6, e7]
        have hy0 : 0 ≤ x1 * 131 + x2 * 1117 + p * 29 + x3 * 53 := by omega
        have hy1 : x1 * 131 + x2 * 1117 + p * 29 + x3 * 53 < 4611686018427387904 := by omega
        generalize x1 * 131 + x2 * 1117 + p * 29 + x3 * 53 = y at hy0 hy1
        have e8 : wrap64 (Int.tdiv y 64) = y / 64 := by rw [Int.tdiv_eq_ediv_of_nonneg hy0]; exact wrap64_in (by omega) (by omega)
        rw [e8]
        have hx := xor_nonneg y (y / 64) hy0 hy1 (by omega) (by omega)
        have ht := tmod_range _ n hx (by omega)
        exact Tells.now ⟨ht.1, ht.2, rfl⟩

theorem num_tells {b : List Int} (hb : Bytes b) (hl : b.length ≤ 2000) {p : Int} (hp0 : 0 ≤ p) (hp : p ≤ 1000000000) (xs : List Int) (h1 : 1 ≤ xs.length) (h2 : xs.length ≤ 1000) :
    Tells (fun k => spec_l26Rd_num.f k b p xs) (fun r => r.1 ∈ xs ∧ r.2 = p + 1) := by
  unfold spec_l26Rd_num.f
  refine Tells.bind (pick_tells hb hl hp0 hp (n := (xs.length : Int)) (by omega) (by omega)) ?_
  rintro ⟨v, q⟩ ⟨h3, h4, h5⟩
  dsimp only at h3 h4 h5 ⊢
  rw [if_pos h3, if_pos h4]
  refine Tells.now ⟨?_, h5⟩
  unfold rd
  have hi : v.toNat < xs.length := by omega
  dsimp only
  rw [List.getD_eq_getElem?_getD, List.getElem?_eq_getElem hi]
  exact List.getElem_mem hi

theorem l1Draw_loop {b : List Int} (hb : Bytes b) (hl : b.length ≤ 2000) (n : Nat) (hn : n ≤ 17) (d : Nat) : ∀ (i : Nat) (list : List Bool) (p : Int), n - i = d → list.length ≤ 20 → i ≤ n → list.length = i → 0 ≤ p → p + d ≤ 1000000 →
    Tells (fun k => spec_l1Draw.l0 k list (n : Int) (i : Int) b p) (fun r => 0 ≤ r.1 ∧ r.1 < 65536 ∧ 0 ≤ r.2.2 ∧ r.2.2 ≤ p + d + 3) := by
  induction d with
  | zero =>
    intro i list p hd hll hi hli hp0 hp
    refine Tells.step (f := fun k => (spec_l1Stack.f k list).bind fun bt447 => ((spec_l26Rd_pick.f k b p 20).bind fun bt450 => (if bt450.1 = 0 then ((spec_l26Rd_num.f k b bt450.2 (([(-1), 0, 17, 16, 1, (-9223372036854775807), 9223372036854775807] : List Int))).bind fun bt455 => (some (bt447.1, bt455.1, bt455.2))) else (if bt450.1 = 1 then ((spec_l26Rd_pick.f k b bt450.2 256).bind fun bt457 => ((spec_l26Rd_pick.f k b bt457.2 256).bind fun bt459 => (some (IntKind.u16.wrap (wrap64 ((wrap64 (bt457.1 * 256)) + bt459.1)), bt447.2, bt459.2)))) else (some (bt447.1, bt447.2, bt450.2)))))) (fun k => ?_) ?_
    · simp only [spec_l1Draw.l0]
      rw [if_neg (by omega)]
    · refine Tells.bindEv (spec_l1Stack_ev list (by omega)) ?_
      have hs0 : 0 ≤ stkB 16 list := by unfold stkB; omega
      have hs1 : stkB 16 list < 65536 := by
        unfold stkB
        have := val16 (l := list.drop (list.length - 16)) (by simp; omega)
        omega
      refine Tells.bind (pick_tells hb hl hp0 (by omega) (by omega) (by omega)) ?_
      rintro ⟨v, q⟩ ⟨h3, h4, h5⟩
      dsimp only at h3 h4 h5 ⊢
      subst h5
      by_cases c0 : v = 0
      · simp only [if_pos c0]
        refine Tells.bind (num_tells hb hl (by omega) (by omega) _ (by decide) (by decide)) ?_
        rintro ⟨v, q⟩ ⟨h3, h4⟩
        dsimp only at h3 h4 ⊢
        exact Tells.now ⟨hs0, hs1, by dsimp only; omega, by dsimp only; omega⟩
      · by_cases c1 : v = 1
        · simp only [if_neg c0, if_pos c1]
          refine Tells.bind (pick_tells hb hl (by omega) (by omega) (by omega) (by omega)) ?_
          rintro ⟨v, q⟩ ⟨h3, h4, h5⟩
          dsimp only at h3 h4 h5 ⊢
          subst h5
          refine Tells.bind (pick_tells hb hl (by omega) (by omega) (by omega) (by omega)) ?_
          rintro ⟨u, q⟩ ⟨h6, h7, h8⟩
          dsimp only at h6 h7 h8 ⊢
          subst h8
          refine Tells.now ⟨?_, ?_, by dsimp only; omega, by dsimp only; omega⟩
          all_goals (dsimp only; rw [wrap_u16]; omega)
        · simp only [if_neg c0, if_neg c1]
          exact Tells.now ⟨hs0, hs1, by dsimp only; omega, by dsimp only; omega⟩
  | succ d ih =>
    intro i list p hd hll hi hli hp0 hp
    refine Tells.step (f := fun k => (spec_l26Rd_pick.f k b p 2).bind fun bt442 => (if list.length < 140737488355328 then (spec_l1Draw.l0 k (list ++ [(bt442.1 == 1)]) (n : Int) (wrap64 ((i : Int) + 1)) b bt442.2) else (none))) (fun k => ?_) ?_
    · simp only [spec_l1Draw.l0]
      rw [if_pos (by omega)]
    · refine Tells.bind (pick_tells hb hl hp0 (by omega) (by omega) (by omega)) ?_
      rintro ⟨v, q⟩ ⟨h3, h4, h5⟩
      dsimp only at h3 h4 h5 ⊢
      subst h5
      have w : wrap64 ((i : Int) + 1) = ((i + 1 : Nat) : Int) := by unfold wrap64; omega
      simp only [if_pos (show list.length < 140737488355328 by omega), w]
      exact (ih (i + 1) _ (p + 1) (by omega) (by simp; omega) (by omega) (by simp; omega) (by omega) (by omega)).mono (fun r hr => by omega)
theorem l1Draw_tells {b : List Int} (hb : Bytes b) (hl : b.length ≤ 2000) {p : Int} (hp0 : 0 ≤ p) (hp : p ≤ 100000) :
    Tells (fun k => spec_l1Draw.f k b p) (fun r => 0 ≤ r.1 ∧ r.1 < 65536 ∧ 0 ≤ r.2.2 ∧ r.2.2 ≤ p + 100) := by
  unfold spec_l1Draw.f
  simp only [Option.bind_some]
  refine Tells.bind (pick_tells hb hl hp0 (by omega) (by omega) (by omega)) ?_
  rintro ⟨v, q⟩ ⟨h3, h4, h5⟩
  dsimp only at h3 h4 h5 ⊢
  subst h5
  refine Tells.bind (pick_tells hb hl (by omega) (by omega) (by omega) (by omega)) ?_
  rintro ⟨u, q⟩ ⟨h6, h7, h8⟩
  dsimp only at h6 h7 h8 ⊢
  subst h8
  by_cases c0 : u = 0
  · simp only [if_pos c0]
    refine Tells.bind (num_tells hb hl (by omega) (by omega) _ (by decide) (by decide)) ?_
    rintro ⟨x, q⟩ ⟨h3, h4⟩
    dsimp only at h3 h4 ⊢
    subst h4
    obtain ⟨m, rfl, hm⟩ : ∃ m : Nat, x = (m : Int) ∧ m ≤ 17 := ⟨x.toNat, by simp at h3; omega, by simp at h3; omega⟩
    refine Tells.step (fun k => ?_) ((l1Draw_loop hb hl m hm m 0 [] (p + 1 + 1 + 1) (by omega) (by simp) (by omega) rfl (by omega) (by omega)).mono (fun r hr => ?_))
    · simp only [spec_l1Draw.j0]; rfl
    · omega
  · simp only [if_neg c0]
    obtain ⟨m, rfl, hm⟩ : ∃ m : Nat, v = (m : Int) ∧ m ≤ 17 := ⟨v.toNat, by omega, by omega⟩
    refine Tells.step (fun k => ?_) ((l1Draw_loop hb hl m hm m 0 [] (p + 1 + 1) (by omega) (by simp) (by omega) rfl (by omega) (by omega)).mono (fun r hr => ?_))
    · simp only [spec_l1Draw.j0]; rfl
    · omega

theorem DrawBitText_tells (l : List Int) (hl : Bytes l) (hn : l.length ≤ 1048576) : Tells (fun k => spec_DrawBitText.f k l) (fun r => 0 ≤ r.1 ∧ r.1 < 65536) := by
  obtain ⟨b, he, hb, hbl⟩ := open_tells l hl hn
  unfold spec_DrawBitText.f
  simp only [he, Option.bind_some]
  refine Tells.bind (l1Draw_tells hb hbl (by omega) (by omega)) ?_
  rintro ⟨x, y, z⟩ ⟨h1, h2, h3, h4⟩
  exact Tells.now ⟨h1, h2⟩

theorem of_tells {b : List Int} (hb : Bytes b) (hl : b.length ≤ 2000) {p : Int} (hp0 : 0 ≤ p) (hp : p ≤ 1000000000) (xs : List ByteArray) (h1 : 1 ≤ xs.length) (h2 : xs.length ≤ 1000) (hx : ∀ x ∈ xs, x.size ≤ 100) :
    Tells (fun k => spec_l26Rd_of.f k b p xs) (fun r => r.1.size ≤ 100) := by
  unfold spec_l26Rd_of.f
  refine Tells.bind (pick_tells hb hl hp0 hp (n := (xs.length : Int)) (by omega) (by omega)) ?_
  rintro ⟨u, q⟩ h
  obtain ⟨h6, h7, h8⟩ := h
  dsimp only at h6 h7 ⊢
  simp only [if_pos h6, if_pos h7]
  refine Tells.now ?_
  show (rdOf ByteArray.empty xs u).size ≤ 100
  unfold rdOf
  have : u.toNat < xs.length := by omega
  rw [List.getD_eq_getElem?_getD, List.getElem?_eq_getElem this]
  exact hx _ (List.getElem_mem this)

theorem DrawBitRead_tells (l : List Int) (hl : Bytes l) (hn : l.length ≤ 1048576) : Tells (fun k => spec_DrawBitRead.f k l) (fun r => r.size ≤ 1000) := by
  obtain ⟨b, he, hb, hbl⟩ := open_tells l hl hn
  unfold spec_DrawBitRead.f
  simp only [he, Option.bind_some]
  refine Tells.bind (l1Draw_tells hb hbl (by omega) (by omega)) ?_
  rintro ⟨x, y, z⟩ ⟨h1, h2, h3, h4⟩
  dsimp only at h1 h2 h3 h4 ⊢
  refine Tells.bindEv (spec_BitText_ev x y h1 h2) ?_
  have hL := lst_length_le 16 x y
  have hs : ((if ok 16 x y = true then (⟨(124 :: (lst 16 x y).map bitChar).toArray⟩ : ByteArray) else ⟨#[]⟩) : ByteArray).size ≤ 17 := by
    split
    · show (124 :: (lst 16 x y).map bitChar).toArray.size ≤ 17
      simp; omega
    · decide
  generalize (if ok 16 x y = true then (⟨(124 :: (lst 16 x y).map bitChar).toArray⟩ : ByteArray) else ⟨#[]⟩) = t at hs
  refine Tells.bind (pick_tells hb hbl (p := z) h3 (by omega) (n := 8) (by omega) (by omega)) ?_
  rintro ⟨u, q⟩ h
  obtain ⟨h6, h7, h8⟩ := h
  dsimp only at h6 h7 h8 ⊢
  subst h8
  by_cases c0 : u = 0
  · simp only [if_pos c0]
    refine Tells.bind (of_tells hb hbl (by omega) (by omega) _ (by decide) (by decide) (by decide)) ?_
    rintro ⟨s, v⟩ hs2
    exact Tells.now (by dsimp only at hs2 ⊢; omega)
  · simp only [if_neg c0]
    by_cases c1 : u = 1
    · simp only [if_pos c1]
      refine Tells.bind (of_tells hb hbl (by omega) (by omega) _ (by decide) (by decide) (by decide)) ?_
      rintro ⟨s, v⟩ hs2
      dsimp only at hs2 ⊢
      simp only [if_pos (show t.size + s.size ≤ 9223372036854775807 by omega)]
      exact Tells.now (by rw [ByteArray.size_append]; omega)
    · simp only [if_neg c1]; exact Tells.now (by omega)

def txt (L : List Bool) : ByteArray := ⟨(124 :: L.map bitChar).toArray⟩
theorem bt_txt (L : List Bool) (j : Nat) (h : j < L.length) : bt (txt L) ((j + 1 : Nat) : Int) = ((bitChar L[j]).toNat : Int) := by
  rw [bt_getD, Int.toNat_natCast]
  have e : (txt L).data.toList = 124 :: L.map bitChar := by simp [txt]
  rw [e, List.getD_cons_succ, List.getD_eq_getElem?_getD, List.getElem?_map, List.getElem?_eq_getElem h]
  rfl
theorem rdB_txt (L : List Bool) (d : Nat) : ∀ (j : Nat) (acc : List Bool), L.length - j = d → j ≤ L.length → rdB (txt L) d (j + 1) acc = some (acc ++ L.drop j) := by
  induction d with
  | zero =>
    intro j acc hd hj
    have : j = L.length := by omega
    subst this
    simp [rdB]
  | succ d ih =>
    intro j acc hd hj
    have hlt : j < L.length := by omega
    have hb := bt_txt L j hlt
    have hc : (bt (txt L) ((j + 1 : Nat) : Int) == 49) = L[j] := by rw [hb]; cases L[j] <;> rfl
    rw [← rdB_step (s := txt L) (d := d) (i := j + 1) (acc := acc) (by rw [hb]; cases L[j] <;> simp [bitChar]), ih (j + 1) _ (by omega) (by omega), hc, List.drop_eq_getElem_cons hlt, List.append_assoc]
    rfl
theorem txt_size (L : List Bool) : (txt L).size = L.length + 1 := by
  show (124 :: L.map bitChar).toArray.size = _
  simp
theorem bt_txt0 (L : List Bool) : bt (txt L) 0 = 124 := by
  have h : bt (txt L) ((0 : Nat) : Int) = 124 := by
    rw [bt_getD, Int.toNat_natCast]
    have e : (txt L).data.toList = 124 :: L.map bitChar := by simp [txt]
    rw [e]
    rfl
  exact h
theorem readOf_txt (L : List Bool) (h : L.length ≤ 16) : readOf (txt L) = some L := by
  unfold readOf
  have hs := txt_size L
  rw [if_pos ⟨by omega, bt_txt0 L, by omega⟩, show (txt L).size - 1 = L.length by omega, show (1 : Nat) = 0 + 1 from rfl, rdB_txt L L.length 0 [] (by omega) (by omega)]
  simp
theorem rdB_some (s : ByteArray) (d : Nat) : ∀ (i : Nat) (acc L : List Bool), rdB s d i acc = some L → ∃ M : List Bool, L = acc ++ M ∧ M.length = d ∧ ∀ (j : Nat) (h : j < M.length), bt s ((i + j : Nat) : Int) = ((bitChar M[j]).toNat : Int) := by
  induction d with
  | zero =>
    intro i acc L h
    simp only [rdB, Option.some.injEq] at h
    exact ⟨[], by simp [h], rfl, fun j h => absurd h (by simp)⟩
  | succ d ih =>
    intro i acc L h
    simp only [rdB] at h
    split at h
    · rename_i c
      obtain ⟨M, hL, hM, hj⟩ := ih _ _ _ h
      refine ⟨(bt s (i : Int) == 49) :: M, by rw [hL]; simp, by simp [hM], ?_⟩
      intro j hlt
      cases j with
      | zero =>
        rcases c with c | c
        · simp [c, bitChar]
        · simp [c, bitChar]
      | succ j =>
        have := hj j (by simpa using hlt)
        rw [show i + 1 + j = i + (j + 1) by omega] at this
        simpa using this
    · cases h
theorem readOf_some {s : ByteArray} {L : List Bool} (h : readOf s = some L) : L.length ≤ 16 ∧ s = txt L := by
  unfold readOf at h
  split at h
  · rename_i c
    obtain ⟨c0, c1, c2⟩ := c
    obtain ⟨M, hL, hM, hj⟩ := rdB_some s _ _ _ _ h
    simp only [List.nil_append] at hL
    subst hL
    refine ⟨by omega, ?_⟩
    apply text_ext
    have e : (txt L).data.toList = 124 :: L.map bitChar := by simp [txt]
    rw [e]
    have hsz := size_data s
    apply List.ext_getElem
    · simp; omega
    · intro i h1 h2
      have hb : ∀ (hi : i < s.data.toList.length), bt s ((i : Nat) : Int) = ((s.data.toList[i]).toNat : Int) := by
        intro hi
        rw [bt_getD, Int.toNat_natCast, List.getD_eq_getElem?_getD, List.getElem?_eq_getElem hi]
        rfl
      have hb := hb h1
      cases i with
      | zero =>
        have c1' : bt s ((0 : Nat) : Int) = 124 := c1
        rw [c1'] at hb
        apply UInt8.toNat_inj.mp
        simp only [List.getElem_cons_zero]
        have : (s.data.toList[0]).toNat = 124 := by omega
        rw [this]; rfl
      | succ j =>
        have hjl : j < L.length := by simpa using h2
        have := hj j hjl
        rw [show 1 + j = j + 1 by omega, hb] at this
        apply UInt8.toNat_inj.mp
        simp only [List.getElem_cons_succ, List.getElem_map]
        omega
  · cases h
theorem FnBitBack : laws_FnBitBack.Pure := by
  intro l0 l1 hm0 hs0 hw0 hm1 hs1 hw1
  refine Tells.rounds ?_
  have done0 : Tells (fun k => laws_FnBitBack.j0 k l0 l1 true) (· = true) := by
    refine Tells.step (f := fun _ => some true) (fun k => ?_) (Tells.now rfl)
    simp only [laws_FnBitBack.j0, if_true]
  unfold laws_FnBitBack.f
  by_cases c : (l0.length : Int) > 1048576
  · simp only [if_pos c]; exact done0
  · simp only [if_neg c]
    by_cases c2 : (l1.length : Int) > 1048576
    · rw [decide_eq_true c2]; exact done0
    · rw [decide_eq_false c2]
      have last : Tells (fun k => laws_FnBitBack.j1 k l1 false) (· = true) := by
        refine Tells.step (f := fun k => (spec_DrawBitRead.f k l1).bind fun t246 => ((impl_BitRead.f k t246).bind fun bt247 => ((spec_BitRead.f k t246).bind fun bt251 => (if (bt247.1 == bt251.1 && (bt247.2.1 == bt251.2.1)) = true then (if (bt247.2.2 == bt251.2.2) = true then (if bt247.2.2 = true then ((impl_BitOk.f bt247.1 bt247.2.1).bind fun t255 => (if t255 = true then ((impl_BitText.f k bt247.1 bt247.2.1).bind fun t256 => (some (t256.toList == t246.toList))) else (some false))) else (some true)) else (some false)) else (some false))))) (fun k => ?_) ?_
        · simp only [laws_FnBitBack.j1, Bool.false_eq_true, if_false]
        · refine Tells.bind (DrawBitRead_tells l1 (bytes_of_wf hw1) (by omega)) ?_
          intro s hs
          refine Tells.bindEv (impl_BitRead_ev s) ?_
          refine Tells.bindEv (spec_BitRead_ev s (by omega)) ?_
          simp only [beq_self_eq_true, Bool.and_self, if_true]
          cases h : readOf s with
          | none => exact Tells.now rfl
          | some L =>
            obtain ⟨hL, hsx⟩ := readOf_some h
            obtain ⟨e1, e2⟩ := stk_short hL
            have hv := val16 hL
            simp only [res, if_true, e1, e2]
            rw [impl_BitOk_eq _ _ (by omega) (by omega), ok_of_list hL]
            simp only [Option.bind_some, if_true]
            refine Tells.bindEv (impl_BitText_ev _ _ (by omega) (by omega)) ?_
            rw [ok_of_list hL, lst_of_list hL, if_pos rfl]
            refine Tells.now ?_
            rw [hsx]
            exact beq_self_eq_true _
      refine Tells.step (f := fun k => (spec_DrawBitText.f k l0).bind fun bt236 => ((impl_BitText.f k bt236.1 bt236.2).bind fun t239 => ((impl_BitRead.f k t239).bind fun bt240 => ((spec_BitText.f k bt236.1 bt236.2).bind fun t244 => (if t239.toList = t244.toList then ((spec_BitOk.f k bt236.1 bt236.2).bind fun t245 => (if (bt240.2.2 != t245) = true then (laws_FnBitBack.j1 k l1 true) else (if bt240.2.2 = true then (if (!(bt240.1 == bt236.1) || (!(bt240.2.1 == bt236.2))) = true then (laws_FnBitBack.j1 k l1 true) else (laws_FnBitBack.j1 k l1 false)) else (laws_FnBitBack.j1 k l1 (!(bt240.1 == 0) || (!(bt240.2.1 == 0))))))) else (laws_FnBitBack.j1 k l1 true)))))) (fun k => ?_) ?_
      · simp only [laws_FnBitBack.j0, Bool.false_eq_true, if_false]
      · refine Tells.bind (DrawBitText_tells l0 (bytes_of_wf hw0) (by omega)) ?_
        rintro ⟨b, n⟩ ⟨h0, h1⟩
        dsimp only at h0 h1 ⊢
        refine Tells.bindEv (impl_BitText_ev b n h0 h1) ?_
        refine Tells.bindEv (impl_BitRead_ev _) ?_
        refine Tells.bindEv (spec_BitText_ev b n h0 h1) ?_
        simp only [if_true]
        refine Tells.bindEv (spec_BitOk_ev b n h0 h1) ?_
        cases hok : ok 16 b n with
        | true =>
          have hL := lst_length_le 16 b n
          obtain ⟨r1, r2⟩ := lst_of_ok h0 hok
          have e := readOf_txt (lst 16 b n) hL
          unfold txt at e
          simp only [if_true]
          rw [e]
          obtain ⟨e1, e2⟩ := stk_short hL
          simp only [res, e1, e2, r1, r2, bne_self_eq_false, Bool.false_eq_true, if_false, if_true, beq_self_eq_true, Bool.not_true, Bool.or_self]
          exact last
        | false =>
          have e : readOf ⟨#[]⟩ = none := by unfold readOf; rw [if_neg (by intro h; exact absurd h.1 (by decide))]
          simp only [Bool.false_eq_true, if_false]
          rw [e]
          simp only [res, bne_self_eq_false, Bool.false_eq_true, if_false, beq_self_eq_true, Bool.not_true, Bool.or_self]
          exact last

end Go.Proofs.Ytpjkpmgelmjlnaa.BFnBitBack
