/- What the printed functions of stacks and forks tell, in terms of the list of a stack's bits: for the law FnExactBitText. -/
import Derived.Test.YtpjkpmgelmjlnaaJx1
import Derived.Test.YtpjkpmgelmjlnaaJx2
import Derived.Test.YtpjkpmgelmjlnaaJx3
import Derived.Test.YtpjkpmgelmjlnaaJx4
import Derived.Test.YtpjkpmgelmjlnaaJx5
import Derived.Test.YtpjkpmgelmjlnaaBitMath
import Derived.Test.YtpjkpmgelmjlnaaTell
namespace Go.Proofs.Ytpjkpmgelmjlnaa.BFnExactBitText
open Go Go.RowKit Go.Proofs.Ytpjkpmgelmjlnaa.BitMath Go.Proofs.Ytpjkpmgelmjlnaa.Tell Go.Proofs.Ytpjkpmgelmjlnaa.J Go.Proofs.YtpjkpmgelmjlnaaW.PrintWords Go.Proofs.YtpjkpmgelmjlnaaW.PrintLast Go.Proofs.YtpjkpmgelmjlnaaW.PrintMore
set_option linter.unusedVariables false
set_option linter.unusedSimpArgs false

theorem in_eq (a l h : Int) : impl_in.f a l h = some (decide (l ≤ a ∧ a ≤ h)) := by
  unfold impl_in.f
  by_cases c : l ≤ a
  · rw [if_pos c]; simp [c]
  · rw [if_neg c]; simp [c]

theorem impl_BitOk_eq (b n : Int) (h0 : 0 ≤ b) (h1 : b < 65536) : impl_BitOk.f b n = some (ok 16 b n) := by
  unfold impl_BitOk.f
  rw [in_eq, Option.bind_some]
  by_cases c : 0 ≤ n ∧ n ≤ 16
  · rw [if_pos (decide_eq_true c), if_pos c.1]
    obtain ⟨n, rfl⟩ := Int.eq_ofNat_of_zero_le c.1
    obtain ⟨b, rfl⟩ := Int.eq_ofNat_of_zero_le h0
    have hn : n ≤ 16 := by omega
    have hw : IntKind.u64.wrap (b : Int) = b := by rw [wrap_u64]; exact Int.emod_eq_of_lt (by omega) (by omega)
    unfold shr ok
    have hm : min (Int.toNat (n : Int)) IntKind.u64.bits = n := by rw [Int.toNat_natCast]; exact Nat.min_eq_left (by show n ≤ 64; omega)
    rw [hw, hm, Int.toNat_natCast]
    have e : ((b : Int) / 2 ^ n == 0) = decide (b < 2 ^ n) := by
      rw [Bool.eq_iff_iff]; simp only [beq_iff_eq, decide_eq_true_eq]
      rw [show ((b : Int) / 2 ^ n) = ((b / 2 ^ n : Nat) : Int) by simp]
      have := Nat.div_eq_zero_iff (a := b) (b := 2 ^ n)
      have hp := Nat.two_pow_pos n
      omega
    rw [e]
    congr 1
    rw [Bool.eq_iff_iff]; simp only [decide_eq_true_eq]
    constructor
    · intro h; exact ⟨by omega, by omega, by exact_mod_cast h⟩
    · intro h; exact_mod_cast h.2.2
  · rw [if_neg (by simp [c])]
    unfold ok
    rw [decide_eq_false (fun h => c ⟨h.1, h.2.1⟩)]

theorem impl_BitStack_taken_eq (b n : Int) (h0 : 0 ≤ b) (h1 : b < 65536) : impl_BitStack_taken.f b n = some ((val (lst 16 b n) : Int), ((lst 16 b n).length : Int)) := by
  unfold impl_BitStack_taken.f
  rw [impl_BitOk_eq b n h0 h1, Option.bind_some]
  cases c : ok 16 b n
  · rw [if_neg (by decide), lst_of_not c]; rfl
  · rw [if_pos rfl, (lst_of_ok h0 c).1, (lst_of_ok h0 c).2]

theorem bit_eq (c : Bool) : impl_bit.f c = some ((c.toNat : Nat) : Int) := by cases c <;> rfl

theorem impl_BitList_loop (b n : Nat) (hb : b < 65536) (hn : n ≤ 16) (d : Nat) : ∀ i : Nat, n - i = d → i ≤ n →
    Ev (fun k => impl_BitList.l0 k (bl (b / 2 ^ (n - i)) i ++ List.replicate (n - i) false) (n : Int) (i : Int) (b : Int) (n : Int)) (bl b n) := by
  induction d with
  | zero =>
    intro i hd hi
    obtain rfl : i = n := by omega
    refine Ev.step (f := fun _ => some (bl b i)) (fun k => ?_) (Ev.now _)
    simp only [impl_BitList.l0]
    rw [if_neg (by omega)]
    simp
  | succ d ih =>
    intro i hd hi
    refine Ev.step (fun k => ?_) (ih (i + 1) (by omega) (by omega))
    simp only [impl_BitList.l0]
    have hw : wrap64 (wrap64 ((n : Int) - 1) - (i : Int)) = ((n - 1 - i : Nat) : Int) := by unfold wrap64; omega
    have hw2 : wrap64 ((i : Int) + 1) = ((i + 1 : Nat) : Int) := by unfold wrap64; omega
    have hlen : (bl (b / 2 ^ (n - i)) i ++ List.replicate (n - i) false).length = n := by rw [List.length_append, bl_length, List.length_replicate]; omega
    rw [if_pos (by omega), hw, if_pos (by omega), if_pos (by omega), if_pos (by rw [hlen]; omega), hw2, Int.toNat_natCast]
    congr 1
    obtain ⟨m, hm⟩ : ∃ m, n - i = m + 1 := ⟨n - i - 1, by omega⟩
    have hm' : n - (i + 1) = m := by omega
    have hm2 : n - 1 - i = m := by omega
    rw [hm, hm', hm2]
    have hs : (Go.bits .and .u16 (shr .u16 (b : Int) (m : Int)) 1 == 1) = (b / 2 ^ m % 2 == 1) := by
      have e : shr .u16 (b : Int) (m : Int) = ((b / 2 ^ m : Nat) : Int) := by
        unfold shr
        have : min (Int.toNat (m : Int)) IntKind.u16.bits = m := by rw [Int.toNat_natCast]; exact Nat.min_eq_left (by show m ≤ 16; omega)
        rw [this]; simp
      have hlt : b / 2 ^ m < 65536 := Nat.lt_of_le_of_lt (Nat.div_le_self _ _) hb
      rw [e]
      generalize b / 2 ^ m = q at hlt
      rw [u16_and1 _ (by omega) (by omega), Bool.eq_iff_iff]; simp only [beq_iff_eq]; omega
    rw [hs, List.replicate_succ, List.set_append_right _ _ (by rw [bl_length]; exact Nat.le_refl _), bl_length, Nat.sub_self, List.set_cons_zero, bl]
    rw [Nat.div_div_eq_div_mul, ← Nat.pow_succ]
    simp
theorem impl_BitList_ev (b n : Int) (h0 : 0 ≤ b) (h1 : b < 65536) : Ev (fun k => impl_BitList.f k b n) (lst 16 b n) := by
  unfold impl_BitList.f
  simp only [impl_BitStack_taken_eq b n h0 h1, Option.bind_some]
  generalize hL : lst 16 b n = L
  have hl : L.length ≤ 16 := by rw [← hL]; exact lst_length_le _ _ _
  have hv := val16 hl
  clear hL
  refine Ev.congr (fun k => ?_) (f := fun k => impl_BitList.l0 k (bl (val L / 2 ^ (L.length - 0)) 0 ++ List.replicate (L.length - 0) false) (L.length : Int) ((0 : Nat) : Int) (val L : Int) (L.length : Int)) ?_
  · rw [if_pos (by omega), if_pos (by omega)]
    simp [bl]
  · have := impl_BitList_loop (val L) L.length hv hl (L.length) 0 (by omega) (by omega)
    rw [bl_val] at this
    exact this

theorem spec_BitOk_loop (b : Int) (n : Nat) (hn : n ≤ 16) (d : Nat) : ∀ i : Nat, n - i = d → i ≤ n →
    Ev (fun k => spec_BitOk.l0 k (2 ^ i) (i : Int) b (n : Int)) (decide (wrap64 b < 2 ^ n)) := by
  induction d with
  | zero =>
    intro i hd hi
    obtain rfl : i = n := by omega
    refine Ev.step (f := fun _ => some _) (fun k => ?_) (Ev.now _)
    simp only [spec_BitOk.l0]
    rw [if_neg (by omega)]
  | succ d ih =>
    intro i hd hi
    refine Ev.step (fun k => ?_) (ih (i + 1) (by omega) (by omega))
    simp only [spec_BitOk.l0]
    have hp' : ((2 : Int) ^ i) ≤ 65536 := ipow16 (by omega)
    have hp0 : (0 : Int) < 2 ^ i := Int.pow_pos (by decide)
    have hw2 : wrap64 ((i : Int) + 1) = ((i + 1 : Nat) : Int) := by unfold wrap64; omega
    have hw : wrap64 ((2 : Int) ^ i * 2) = 2 ^ (i + 1) := by rw [Int.pow_succ]; unfold wrap64; omega
    rw [if_pos (by omega), hw2, hw]
theorem spec_BitOk_ev (b n : Int) (h0 : 0 ≤ b) (h1 : b < 65536) : Ev (fun k => spec_BitOk.f k b n) (ok 16 b n) := by
  unfold spec_BitOk.f
  by_cases c : n < 0
  · refine Ev.step (f := fun _ => some false) (fun k => ?_) ?_
    · rw [if_pos c]; simp only [spec_BitOk.j0]; rfl
    · have : ok 16 b n = false := by unfold ok; exact decide_eq_false (by omega)
      rw [this]; exact Ev.now _
  · by_cases c2 : n > 16
    · refine Ev.step (f := fun _ => some false) (fun k => ?_) ?_
      · rw [if_neg c, decide_eq_true c2]; simp only [spec_BitOk.j0]; rfl
      · have : ok 16 b n = false := by unfold ok; exact decide_eq_false (by omega)
        rw [this]; exact Ev.now _
    · obtain ⟨n, rfl⟩ := Int.eq_ofNat_of_zero_le (show 0 ≤ n by omega)
      refine Ev.step (f := fun k => spec_BitOk.l0 k (2 ^ 0) ((0 : Nat) : Int) b (n : Int)) (fun k => ?_) ?_
      · rw [if_neg c, decide_eq_false c2]; simp only [spec_BitOk.j0]; rfl
      · have h := spec_BitOk_loop b n (by omega) n 0 (by omega) (by omega)
        have hw : wrap64 b = b := by unfold wrap64; omega
        rw [hw] at h
        have e : ok 16 b (n : Int) = decide (b < 2 ^ n) := by
          unfold ok
          rw [Int.toNat_natCast]
          by_cases hlt : b < 2 ^ n
          · rw [decide_eq_true hlt]; exact decide_eq_true ⟨by omega, by omega, hlt⟩
          · rw [decide_eq_false hlt]; exact decide_eq_false (fun h => hlt h.2.2)
        rw [e]; exact h

theorem spec_l1Power_loop (n : Nat) (hn : n ≤ 15) (d : Nat) : ∀ i : Nat, n - i = d → i ≤ n →
    Ev (fun k => spec_l1Power.l0 k (n : Int) (2 ^ i) (i : Int)) (2 ^ n) := by
  induction d with
  | zero =>
    intro i hd hi
    obtain rfl : i = n := by omega
    refine Ev.step (f := fun _ => some _) (fun k => ?_) (Ev.now _)
    simp only [spec_l1Power.l0]
    rw [if_neg (by omega)]
  | succ d ih =>
    intro i hd hi
    refine Ev.step (fun k => ?_) (ih (i + 1) (by omega) (by omega))
    simp only [spec_l1Power.l0]
    have hp' : ((2 : Int) ^ (i + 1)) ≤ 32768 := ipow15 (by omega)
    have hp0 : (0 : Int) < 2 ^ i := Int.pow_pos (by decide)
    rw [Int.pow_succ] at hp'
    have hw2 : wrap64 ((i : Int) + 1) = ((i + 1 : Nat) : Int) := by unfold wrap64; omega
    have hw : IntKind.u16.wrap ((2 : Int) ^ i * 2) = 2 ^ (i + 1) := by rw [Int.pow_succ, wrap_u16]; exact Int.emod_eq_of_lt (by omega) (by omega)
    rw [if_pos (by omega), hw2, hw]
theorem spec_l1Power_ev (n : Nat) (hn : n ≤ 15) : Ev (fun k => spec_l1Power.f k (n : Int)) (2 ^ n) := spec_l1Power_loop n hn n 0 (by omega) (by omega)

theorem spec_BitList_loop (b n : Nat) (hb : b < 65536) (hn : n ≤ 16) (d : Nat) : d ≤ n →
    Ev (fun k => spec_BitList.l0 k (bl (b / 2 ^ d) (n - d)) ((d : Int) - 1) (b : Int) (n : Int)) (bl b n) := by
  induction d with
  | zero =>
    intro hd
    refine Ev.step (f := fun _ => some _) (fun k => ?_) (Ev.now _)
    simp only [spec_BitList.l0]
    rw [if_neg (by omega)]
    simp
  | succ d ih =>
    intro hd
    have hp := spec_l1Power_ev d (by omega)
    refine Ev.step (f := fun k => (spec_l1Power.f k (d : Int)).bind fun t121 => (if t121 = 0 then (none) else (if (bl (b / 2 ^ (d + 1)) (n - (d + 1))).length < 140737488355328 then (spec_BitList.l0 k ((bl (b / 2 ^ (d + 1)) (n - (d + 1))) ++ [((Int.tmod (IntKind.u16.wrap (Int.tdiv (b : Int) t121)) 2) == 1)]) (wrap64 ((d : Int) - 1)) (b : Int) (n : Int)) else (none)))) (fun k => ?_) ?_
    · simp only [spec_BitList.l0]
      rw [show (((d + 1 : Nat) : Int) - 1) = (d : Int) by omega, if_pos (by omega)]
    · refine Ev.bind hp ?_
      refine Ev.congr (fun k => ?_) (ih (by omega))
      have hp0 : (0 : Int) < 2 ^ d := Int.pow_pos (by decide)
      rw [if_neg (by omega), if_pos (by rw [bl_length]; omega)]
      have hw : wrap64 ((d : Int) - 1) = (d : Int) - 1 := by unfold wrap64; omega
      rw [hw]
      congr 1
      obtain ⟨m, hm⟩ : ∃ m, n - d = m + 1 := ⟨n - d - 1, by omega⟩
      have hm2 : n - (d + 1) = m := by omega
      have hlt : b / 2 ^ d < 65536 := Nat.lt_of_le_of_lt (Nat.div_le_self _ _) hb
      have e : Int.tdiv (b : Int) (2 ^ d) = ((b / 2 ^ d : Nat) : Int) := by
        rw [show ((2 : Int) ^ d) = ((2 ^ d : Nat) : Int) by simp]; exact Int.ofNat_tdiv b (2 ^ d) |>.symm
      rw [hm, hm2, bl, Nat.div_div_eq_div_mul, ← Nat.pow_succ, e, wrap_u16]
      generalize b / 2 ^ d = q at hlt
      rw [Int.emod_eq_of_lt (by omega) (by omega)]
      congr 2
      rw [Bool.eq_iff_iff]; simp only [beq_iff_eq]
      rw [Int.tmod_eq_emod_of_nonneg (by omega)]; omega
theorem spec_BitList_ev (b n : Int) (h0 : 0 ≤ b) (h1 : b < 65536) : Ev (fun k => spec_BitList.f k b n) (lst 16 b n) := by
  unfold spec_BitList.f
  simp only [Option.bind_some]
  refine Ev.bind (spec_BitOk_ev b n h0 h1) ?_
  cases c : ok 16 b n
  · rw [lst_of_not c]; exact Ev.now _
  · unfold lst
    rw [if_pos c]
    have c' := of_decide_eq_true c
    obtain ⟨n, rfl⟩ := Int.eq_ofNat_of_zero_le c'.1
    obtain ⟨b, rfl⟩ := Int.eq_ofNat_of_zero_le h0
    rw [Int.toNat_natCast, Int.toNat_natCast]
    have h := spec_BitList_loop b n (by omega) (by omega) n (Nat.le_refl _)
    rw [Nat.sub_self] at h
    refine Ev.congr (fun k => ?_) h
    have hw : wrap64 ((n : Int) - 1) = (n : Int) - 1 := by unfold wrap64; omega
    rw [if_pos rfl, hw]; rfl

theorem toBitStack_eq (b n : Int) : laws_toBitStack.f b n = some (b, n) := rfl

theorem bytes_push (a : List UInt8) (c : UInt8) : (⟨a.toArray⟩ : ByteArray) ++ (⟨#[c]⟩ : ByteArray) = ⟨(a ++ [c]).toArray⟩ := by
  apply ByteArray.ext
  simp
theorem spec_BitText_loop (L : List Bool) (hL : L.length ≤ 16) (d : Nat) : ∀ i : Nat, L.length - i = d → i ≤ L.length →
    Ev (fun k => spec_BitText.l0 k (⟨(124 :: (L.take i).map bitChar).toArray⟩ : ByteArray) L (i : Int)) (⟨(124 :: L.map bitChar).toArray⟩ : ByteArray) := by
  induction d with
  | zero =>
    intro i hd hi
    obtain rfl : i = L.length := by omega
    refine Ev.step (f := fun _ => some (⟨(124 :: L.map bitChar).toArray⟩ : ByteArray)) (fun k => ?_) (Ev.now _)
    simp only [spec_BitText.l0]
    rw [if_neg (by omega), List.take_length]
  | succ d ih =>
    intro i hd hi
    refine Ev.step (fun k => ?_) (ih (i + 1) (by omega) (by omega))
    simp only [spec_BitText.l0]
    have w : wrap64 ((i : Int) + 1) = ((i + 1 : Nat) : Int) := by unfold wrap64; omega
    have hlt : i < L.length := by omega
    have hrd : rdOf false L (i : Int) = L[i] := by unfold rdOf; simp [List.getD_eq_getElem?_getD, hlt]
    have hsz : (⟨(124 :: (L.take i).map bitChar).toArray⟩ : ByteArray).size + 1 ≤ 9223372036854775807 := by
      show (124 :: (L.take i).map bitChar).toArray.size + 1 ≤ _
      simp; omega
    have ht : (124 :: (L.take i).map bitChar) ++ [bitChar L[i]] = 124 :: (L.take (i + 1)).map bitChar := by
      rw [List.take_succ_eq_append_getElem hlt, List.map_append]; rfl
    rw [if_pos (by omega), if_pos (by omega), hrd, if_pos hsz, if_pos hsz, w, bytes_push, bytes_push, ← ht]
    cases L[i] <;> rfl
theorem spec_BitText_ev (b n : Int) (h0 : 0 ≤ b) (h1 : b < 65536) : Ev (fun k => spec_BitText.f k b n) (if ok 16 b n = true then (⟨(124 :: (lst 16 b n).map bitChar).toArray⟩ : ByteArray) else ⟨#[]⟩) := by
  unfold spec_BitText.f
  refine Ev.bind (spec_BitOk_ev b n h0 h1) ?_
  by_cases c : ok 16 b n = true
  · simp only [if_pos c]
    refine Ev.bind (spec_BitList_ev b n h0 h1) ?_
    have := spec_BitText_loop (lst 16 b n) (lst_length_le _ _ _) (lst 16 b n).length 0 (by omega) (by omega)
    simpa using this
  · simp only [if_neg c]; exact Ev.now _

theorem impl_BitText_ev (b n : Int) (h0 : 0 ≤ b) (h1 : b < 65536) : Ev (fun k => impl_BitText.f k b n) (if ok 16 b n = true then (⟨(124 :: (lst 16 b n).map bitChar).toArray⟩ : ByteArray) else ⟨#[]⟩) := by
  unfold impl_BitText.f
  simp only [impl_BitOk_eq b n h0 h1, Option.bind_some]
  by_cases c : ok 16 b n = true
  · simp only [if_pos c]
    refine Ev.bind (impl_BitList_ev b n h0 h1) ?_
    have := lst_length_le 16 b n
    simp only [if_pos (show (lst 16 b n).length ≤ 1000000 by omega)]
    exact Ev.now _
  · simp only [if_neg c]; exact Ev.now _

theorem holds (b n : Int) (w0 : (Lit.int .u16 b).wf = true) (_w1 : (Lit.int .i64 n).wf = true) : ∃ k, laws_FnExactBitText.f k b n = some true := by
  obtain ⟨h0, h1⟩ := wf16 w0
  refine Tells.rounds ?_
  unfold laws_FnExactBitText.f
  simp only [toBitStack_eq, Option.bind_some]
  refine Tells.bindEv (spec_BitText_ev b n h0 h1) ?_
  refine Tells.bindEv (impl_BitText_ev b n h0 h1) ?_
  simp only [if_true]
  exact Tells.now rfl

end Go.Proofs.Ytpjkpmgelmjlnaa.BFnExactBitText
