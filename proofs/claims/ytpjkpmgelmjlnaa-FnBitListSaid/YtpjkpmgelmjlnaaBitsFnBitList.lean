/- What the printed functions of stacks and forks tell, in terms of the list of a stack's bits: for the law FnBitList. -/
import Derived.Test.YtpjkpmgelmjlnaaHx2
import Derived.Test.YtpjkpmgelmjlnaaHx3
import Derived.Test.YtpjkpmgelmjlnaaHx4
import Derived.Test.YtpjkpmgelmjlnaaHx5
import Derived.Test.YtpjkpmgelmjlnaaHx6
import Derived.Test.YtpjkpmgelmjlnaaHx7
import Derived.Test.YtpjkpmgelmjlnaaHx8
import Derived.Test.YtpjkpmgelmjlnaaHx9
import Derived.Test.YtpjkpmgelmjlnaaBitMath
import Derived.Test.YtpjkpmgelmjlnaaTell
namespace Go.Proofs.Ytpjkpmgelmjlnaa.BFnBitList
open Go Go.RowKit Go.Proofs.Ytpjkpmgelmjlnaa.BitMath Go.Proofs.Ytpjkpmgelmjlnaa.Tell Go.Proofs.Ytpjkpmgelmjlnaa.H Go.Proofs.YtpjkpmgelmjlnaaW.PrintWords Go.Proofs.YtpjkpmgelmjlnaaW.PrintLast Go.Proofs.YtpjkpmgelmjlnaaW.PrintMore
set_option linter.unusedVariables false
set_option linter.unusedSimpArgs false

theorem in_eq (a l h : Int) : impl_in.f a l h = some (decide (l ≤ a ∧ a ≤ h)) := by
  unfold impl_in.f
  by_cases c : l ≤ a
  · rw [if_pos c]; simp [c]
  · rw [if_neg c]; simp [c]

theorem impl_BitOk_eq (b n : Int) (h0 : 0 ≤ b) (h1 : b < 65536) : impl_BitOk.f b n = some (ok 16 b n) := by
  unfold impl_BitOk.f
  rw [in_eq, Option.bind_some]
  by_cases c : 0 ≤ n ∧ n ≤ 16
  · rw [if_pos (decide_eq_true c), if_pos c.1]
    obtain ⟨n, rfl⟩ := Int.eq_ofNat_of_zero_le c.1
    obtain ⟨b, rfl⟩ := Int.eq_ofNat_of_zero_le h0
    have hn : n ≤ 16 := by omega
    have hw : IntKind.u64.wrap (b : Int) = b := by rw [wrap_u64]; exact Int.emod_eq_of_lt (by omega) (by omega)
    unfold shr ok
    have hm : min (Int.toNat (n : Int)) IntKind.u64.bits = n := by rw [Int.toNat_natCast]; exact Nat.min_eq_left (by show n ≤ 64; omega)
    rw [hw, hm, Int.toNat_natCast]
    have e : ((b : Int) / 2 ^ n == 0) = decide (b < 2 ^ n) := by
      rw [Bool.eq_iff_iff]; simp only [beq_iff_eq, decide_eq_true_eq]
      rw [show ((b : Int) / 2 ^ n) = ((b / 2 ^ n : Nat) : Int) by simp]
      have := Nat.div_eq_zero_iff (a := b) (b := 2 ^ n)
      have hp := Nat.two_pow_pos n
      omega
    rw [e]
    congr 1
    rw [Bool.eq_iff_iff]; simp only [decide_eq_true_eq]
    constructor
    · intro h; exact ⟨by omega, by omega, by exact_mod_cast h⟩
    · intro h; exact_mod_cast h.2.2
  · rw [if_neg (by simp [c])]
    unfold ok
    rw [decide_eq_false (fun h => c ⟨h.1, h.2.1⟩)]

theorem impl_BitStack_taken_eq (b n : Int) (h0 : 0 ≤ b) (h1 : b < 65536) : impl_BitStack_taken.f b n = some ((val (lst 16 b n) : Int), ((lst 16 b n).length : Int)) := by
  unfold impl_BitStack_taken.f
  rw [impl_BitOk_eq b n h0 h1, Option.bind_some]
  cases c : ok 16 b n
  · rw [if_neg (by decide), lst_of_not c]; rfl
  · rw [if_pos rfl, (lst_of_ok h0 c).1, (lst_of_ok h0 c).2]

theorem bit_eq (c : Bool) : impl_bit.f c = some ((c.toNat : Nat) : Int) := by cases c <;> rfl

theorem impl_BitPush_eq (b n : Int) (c : Bool) (h0 : 0 ≤ b) (h1 : b < 65536) : impl_BitPush.f b n c = some (stkB 16 (lst 16 b n ++ [c]), stkN 16 (lst 16 b n ++ [c])) := by
  unfold impl_BitPush.f
  rw [impl_BitStack_taken_eq b n h0 h1, Option.bind_some, bit_eq, Option.bind_some]
  generalize hL : lst 16 b n = L
  have hl : L.length ≤ 16 := by rw [← hL]; exact lst_length_le _ _ _
  have hv := val16 hl
  obtain ⟨e1, e2⟩ := stk_push c hl
  have e1 : stkB 16 (L ++ [c]) = (2 * val L + c.toNat) % 65536 := e1
  have hc : c.toNat < 2 := by cases c <;> decide
  congr 1; congr 1
  · rw [e1]; rw [wrap_u16, wrap_u16]
    generalize val L = v at *
    rw [u16_or1 _ _ (by omega) (by omega) (by omega) (by omega) (by omega)]
    omega
  · rw [e2]; unfold mn wrap64
    dsimp only
    split <;> omega

theorem impl_BitPop_eq (b n : Int) (h0 : 0 ≤ b) (h1 : b < 65536) : impl_BitPop.f b n = some ((val (lst 16 b n).dropLast : Int), ((lst 16 b n).dropLast.length : Int), (lst 16 b n).getLastD false) := by
  unfold impl_BitPop.f
  rw [impl_BitStack_taken_eq b n h0 h1, Option.bind_some]
  generalize hL : lst 16 b n = L
  have hl : L.length ≤ 16 := by rw [← hL]; exact lst_length_le _ _ _
  have hv := val16 hl
  clear hL
  induction L using snoc_cases with
  | h0 => rfl
  | h1 L c ih =>
    dsimp only
    rw [if_neg (by simp; omega), u16_and1 _ (by omega) (by omega)]
    rw [val_snoc] at *
    simp only [List.dropLast_concat, List.length_append, List.length_cons, List.length_nil] at *
    have hc : c.toNat < 2 := by cases c <;> decide
    have hg : (L ++ [c]).getLastD false = c := by simp [List.getLastD_eq_getLast?]
    rw [hg]
    congr 1; congr 1
    · omega
    congr 1
    · unfold wrap64; omega
    · rw [Bool.eq_iff_iff]; simp only [beq_iff_eq]
      cases c <;> simp <;> omega

theorem impl_BitList_loop (b n : Nat) (hb : b < 65536) (hn : n ≤ 16) (d : Nat) : ∀ i : Nat, n - i = d → i ≤ n →
    Ev (fun k => impl_BitList.l0 k (bl (b / 2 ^ (n - i)) i ++ List.replicate (n - i) false) (n : Int) (i : Int) (b : Int) (n : Int)) (bl b n) := by
  induction d with
  | zero =>
    intro i hd hi
    obtain rfl : i = n := by omega
    refine Ev.step (f := fun _ => some (bl b i)) (fun k => ?_) (Ev.now _)
    simp only [impl_BitList.l0]
    rw [if_neg (by omega)]
    simp
  | succ d ih =>
    intro i hd hi
    refine Ev.step (fun k => ?_) (ih (i + 1) (by omega) (by omega))
    simp only [impl_BitList.l0]
    have hw : wrap64 (wrap64 ((n : Int) - 1) - (i : Int)) = ((n - 1 - i : Nat) : Int) := by unfold wrap64; omega
    have hw2 : wrap64 ((i : Int) + 1) = ((i + 1 : Nat) : Int) := by unfold wrap64; omega
    have hlen : (bl (b / 2 ^ (n - i)) i ++ List.replicate (n - i) false).length = n := by rw [List.length_append, bl_length, List.length_replicate]; omega
    rw [if_pos (by omega), hw, if_pos (by omega), if_pos (by omega), if_pos (by rw [hlen]; omega), hw2, Int.toNat_natCast]
    congr 1
    obtain ⟨m, hm⟩ : ∃ m, n - i = m + 1 := ⟨n - i - 1, by omega⟩
    have hm' : n - (i + 1) = m := by omega
    have hm2 : n - 1 - i = m := by omega
    rw [hm, hm', hm2]
    have hs : (Go.bits .and .u16 (shr .u16 (b : Int) (m : Int)) 1 == 1) = (b / 2 ^ m % 2 == 1) := by
      have e : shr .u16 (b : Int) (m : Int) = ((b / 2 ^ m : Nat) : Int) := by
        unfold shr
        have : min (Int.toNat (m : Int)) IntKind.u16.bits = m := by rw [Int.toNat_natCast]; exact Nat.min_eq_left (by show m ≤ 16; omega)
        rw [this]; simp
      have hlt : b / 2 ^ m < 65536 := Nat.lt_of_le_of_lt (Nat.div_le_self _ _) hb
      rw [e]
      generalize b / 2 ^ m = q at hlt
      rw [u16_and1 _ (by omega) (by omega), Bool.eq_iff_iff]; simp only [beq_iff_eq]; omega
    rw [hs, List.replicate_succ, List.set_append_right _ _ (by rw [bl_length]; exact Nat.le_refl _), bl_length, Nat.sub_self, List.set_cons_zero, bl]
    rw [Nat.div_div_eq_div_mul, ← Nat.pow_succ]
    simp
theorem impl_BitList_ev (b n : Int) (h0 : 0 ≤ b) (h1 : b < 65536) : Ev (fun k => impl_BitList.f k b n) (lst 16 b n) := by
  unfold impl_BitList.f
  simp only [impl_BitStack_taken_eq b n h0 h1, Option.bind_some]
  generalize hL : lst 16 b n = L
  have hl : L.length ≤ 16 := by rw [← hL]; exact lst_length_le _ _ _
  have hv := val16 hl
  clear hL
  refine Ev.congr (fun k => ?_) (f := fun k => impl_BitList.l0 k (bl (val L / 2 ^ (L.length - 0)) 0 ++ List.replicate (L.length - 0) false) (L.length : Int) ((0 : Nat) : Int) (val L : Int) (L.length : Int)) ?_
  · rw [if_pos (by omega), if_pos (by omega)]
    simp [bl]
  · have := impl_BitList_loop (val L) L.length hv hl (L.length) 0 (by omega) (by omega)
    rw [bl_val] at this
    exact this

theorem spec_BitOk_loop (b : Int) (n : Nat) (hn : n ≤ 16) (d : Nat) : ∀ i : Nat, n - i = d → i ≤ n →
    Ev (fun k => spec_BitOk.l0 k (2 ^ i) (i : Int) b (n : Int)) (decide (wrap64 b < 2 ^ n)) := by
  induction d with
  | zero =>
    intro i hd hi
    obtain rfl : i = n := by omega
    refine Ev.step (f := fun _ => some _) (fun k => ?_) (Ev.now _)
    simp only [spec_BitOk.l0]
    rw [if_neg (by omega)]
  | succ d ih =>
    intro i hd hi
    refine Ev.step (fun k => ?_) (ih (i + 1) (by omega) (by omega))
    simp only [spec_BitOk.l0]
    have hp' : ((2 : Int) ^ i) ≤ 65536 := ipow16 (by omega)
    have hp0 : (0 : Int) < 2 ^ i := Int.pow_pos (by decide)
    have hw2 : wrap64 ((i : Int) + 1) = ((i + 1 : Nat) : Int) := by unfold wrap64; omega
    have hw : wrap64 ((2 : Int) ^ i * 2) = 2 ^ (i + 1) := by rw [Int.pow_succ]; unfold wrap64; omega
    rw [if_pos (by omega), hw2, hw]
theorem spec_BitOk_ev (b n : Int) (h0 : 0 ≤ b) (h1 : b < 65536) : Ev (fun k => spec_BitOk.f k b n) (ok 16 b n) := by
  unfold spec_BitOk.f
  by_cases c : n < 0
  · refine Ev.step (f := fun _ => some false) (fun k => ?_) ?_
    · rw [if_pos c]; simp only [spec_BitOk.j0]; rfl
    · have : ok 16 b n = false := by unfold ok; exact decide_eq_false (by omega)
      rw [this]; exact Ev.now _
  · by_cases c2 : n > 16
    · refine Ev.step (f := fun _ => some false) (fun k => ?_) ?_
      · rw [if_neg c, decide_eq_true c2]; simp only [spec_BitOk.j0]; rfl
      · have : ok 16 b n = false := by unfold ok; exact decide_eq_false (by omega)
        rw [this]; exact Ev.now _
    · obtain ⟨n, rfl⟩ := Int.eq_ofNat_of_zero_le (show 0 ≤ n by omega)
      refine Ev.step (f := fun k => spec_BitOk.l0 k (2 ^ 0) ((0 : Nat) : Int) b (n : Int)) (fun k => ?_) ?_
      · rw [if_neg c, decide_eq_false c2]; simp only [spec_BitOk.j0]; rfl
      · have h := spec_BitOk_loop b n (by omega) n 0 (by omega) (by omega)
        have hw : wrap64 b = b := by unfold wrap64; omega
        rw [hw] at h
        have e : ok 16 b (n : Int) = decide (b < 2 ^ n) := by
          unfold ok
          rw [Int.toNat_natCast]
          by_cases hlt : b < 2 ^ n
          · rw [decide_eq_true hlt]; exact decide_eq_true ⟨by omega, by omega, hlt⟩
          · rw [decide_eq_false hlt]; exact decide_eq_false (fun h => hlt h.2.2)
        rw [e]; exact h

theorem spec_l1Power_loop (n : Nat) (hn : n ≤ 15) (d : Nat) : ∀ i : Nat, n - i = d → i ≤ n →
    Ev (fun k => spec_l1Power.l0 k (n : Int) (2 ^ i) (i : Int)) (2 ^ n) := by
  induction d with
  | zero =>
    intro i hd hi
    obtain rfl : i = n := by omega
    refine Ev.step (f := fun _ => some _) (fun k => ?_) (Ev.now _)
    simp only [spec_l1Power.l0]
    rw [if_neg (by omega)]
  | succ d ih =>
    intro i hd hi
    refine Ev.step (fun k => ?_) (ih (i + 1) (by omega) (by omega))
    simp only [spec_l1Power.l0]
    have hp' : ((2 : Int) ^ (i + 1)) ≤ 32768 := ipow15 (by omega)
    have hp0 : (0 : Int) < 2 ^ i := Int.pow_pos (by decide)
    rw [Int.pow_succ] at hp'
    have hw2 : wrap64 ((i : Int) + 1) = ((i + 1 : Nat) : Int) := by unfold wrap64; omega
    have hw : IntKind.u16.wrap ((2 : Int) ^ i * 2) = 2 ^ (i + 1) := by rw [Int.pow_succ, wrap_u16]; exact Int.emod_eq_of_lt (by omega) (by omega)
    rw [if_pos (by omega), hw2, hw]
theorem spec_l1Power_ev (n : Nat) (hn : n ≤ 15) : Ev (fun k => spec_l1Power.f k (n : Int)) (2 ^ n) := spec_l1Power_loop n hn n 0 (by omega) (by omega)

theorem spec_BitList_loop (b n : Nat) (hb : b < 65536) (hn : n ≤ 16) (d : Nat) : d ≤ n →
    Ev (fun k => spec_BitList.l0 k (bl (b / 2 ^ d) (n - d)) ((d : Int) - 1) (b : Int) (n : Int)) (bl b n) := by
  induction d with
  | zero =>
    intro hd
    refine Ev.step (f := fun _ => some _) (fun k => ?_) (Ev.now _)
    simp only [spec_BitList.l0]
    rw [if_neg (by omega)]
    simp
  | succ d ih =>
    intro hd
    have hp := spec_l1Power_ev d (by omega)
    refine Ev.step (f := fun k => (spec_l1Power.f k (d : Int)).bind fun t121 => (if t121 = 0 then (none) else (if (bl (b / 2 ^ (d + 1)) (n - (d + 1))).length < 140737488355328 then (spec_BitList.l0 k ((bl (b / 2 ^ (d + 1)) (n - (d + 1))) ++ [((Int.tmod (IntKind.u16.wrap (Int.tdiv (b : Int) t121)) 2) == 1)]) (wrap64 ((d : Int) - 1)) (b : Int) (n : Int)) else (none)))) (fun k => ?_) ?_
    · simp only [spec_BitList.l0]
      rw [show (((d + 1 : Nat) : Int) - 1) = (d : Int) by omega, if_pos (by omega)]
    · refine Ev.bind hp ?_
      refine Ev.congr (fun k => ?_) (ih (by omega))
      have hp0 : (0 : Int) < 2 ^ d := Int.pow_pos (by decide)
      rw [if_neg (by omega), if_pos (by rw [bl_length]; omega)]
      have hw : wrap64 ((d : Int) - 1) = (d : Int) - 1 := by unfold wrap64; omega
      rw [hw]
      congr 1
      obtain ⟨m, hm⟩ : ∃ m, n - d = m + 1 := ⟨n - d - 1, by omega⟩
      have hm2 : n - (d + 1) = m := by omega
      have hlt : b / 2 ^ d < 65536 := Nat.lt_of_le_of_lt (Nat.div_le_self _ _) hb
      have e : Int.tdiv (b : Int) (2 ^ d) = ((b / 2 ^ d : Nat) : Int) := by
        rw [show ((2 : Int) ^ d) = ((2 ^ d : Nat) : Int) by simp]; exact Int.ofNat_tdiv b (2 ^ d) |>.symm
      rw [hm, hm2, bl, Nat.div_div_eq_div_mul, ← Nat.pow_succ, e, wrap_u16]
      generalize b / 2 ^ d = q at hlt
      rw [Int.emod_eq_of_lt (by omega) (by omega)]
      congr 2
      rw [Bool.eq_iff_iff]; simp only [beq_iff_eq]
      rw [Int.tmod_eq_emod_of_nonneg (by omega)]; omega
theorem spec_BitList_ev (b n : Int) (h0 : 0 ≤ b) (h1 : b < 65536) : Ev (fun k => spec_BitList.f k b n) (lst 16 b n) := by
  unfold spec_BitList.f
  simp only [Option.bind_some]
  refine Ev.bind (spec_BitOk_ev b n h0 h1) ?_
  cases c : ok 16 b n
  · rw [lst_of_not c]; exact Ev.now _
  · unfold lst
    rw [if_pos c]
    have c' := of_decide_eq_true c
    obtain ⟨n, rfl⟩ := Int.eq_ofNat_of_zero_le c'.1
    obtain ⟨b, rfl⟩ := Int.eq_ofNat_of_zero_le h0
    rw [Int.toNat_natCast, Int.toNat_natCast]
    have h := spec_BitList_loop b n (by omega) (by omega) n (Nat.le_refl _)
    rw [Nat.sub_self] at h
    refine Ev.congr (fun k => ?_) h
    have hw : wrap64 ((n : Int) - 1) = (n : Int) - 1 := by unfold wrap64; omega
    rw [if_pos rfl, hw]; rfl

theorem spec_l1Stack_loop (l : List Bool) (hl : l.length ≤ 1099511627776) (d : Nat) : ∀ m : Nat, 16 - m = d → m ≤ 16 → m ≤ l.length →
    Ev (fun k => spec_l1Stack.l0 k l (2 ^ m % 65536) ((l.length : Int) - 1 - m) (val (l.drop (l.length - m)) : Int) (m : Int)) (stkB 16 l, stkN 16 l) := by
  induction d with
  | zero =>
    intro m hd hm hml
    obtain rfl : m = 16 := by omega
    refine Ev.step (f := fun k => spec_l1Stack.j1 k l (2 ^ 16 % 65536) ((l.length : Int) - 1 - (16 : Nat)) false (val (l.drop (l.length - 16)) : Int) ((16 : Nat) : Int)) (fun k => ?_) ?_
    · simp only [spec_l1Stack.l0]
      split <;> rfl
    · refine Ev.step (f := fun _ => some _) (fun k => ?_) (Ev.now _)
      simp only [spec_l1Stack.j1, stkB, stkN]
      rw [Nat.min_eq_left hml]; rfl
  | succ d ih =>
    intro m hd hm hml
    by_cases c : m < l.length
    · refine Ev.step (f := fun k => spec_l1Stack.j1 k l (2 ^ m % 65536) ((l.length : Int) - 1 - m) true (val (l.drop (l.length - m)) : Int) (m : Int)) (fun k => ?_) ?_
      · simp only [spec_l1Stack.l0]
        rw [if_pos (by omega), decide_eq_true (by omega)]
      · refine Ev.step (fun k => ?_) (ih (m + 1) (by omega) (by omega) (by omega))
        simp only [spec_l1Stack.j1]
        rw [if_pos (by decide), if_pos (by omega), if_pos (by omega)]
        have hi : ((l.length : Int) - 1 - m).toNat = l.length - (m + 1) := by omega
        have hlt : l.length - (m + 1) < l.length := by omega
        have hr : rdOf false l ((l.length : Int) - 1 - m) = l[l.length - (m + 1)] := by
          unfold rdOf; rw [hi]; simp [List.getD_eq_getElem?_getD, hlt]
        have hdr : l.drop (l.length - (m + 1)) = l[l.length - (m + 1)] :: l.drop (l.length - m) := by
          rw [List.drop_eq_getElem_cons hlt, show l.length - (m + 1) + 1 = l.length - m by omega]
        have hdl : (l.drop (l.length - m)).length = m := by simp; omega
        have hv := val_lt (l.drop (l.length - m))
        rw [hdl] at hv
        have hp : 2 ^ (m + 1) ≤ 65536 := pow16 (by omega)
        rw [Nat.pow_succ] at hp
        have hpe : (2 ^ m % 65536 : Int) = ((2 ^ m : Nat) : Int) := by
          rw [show ((2 : Int) ^ m) = ((2 ^ m : Nat) : Int) by simp]; omega
        have w1 : wrap64 ((l.length : Int) - 1 - m - 1) = (l.length : Int) - 1 - ((m + 1 : Nat) : Int) := by unfold wrap64; omega
        have w2 : wrap64 ((m : Int) + 1) = ((m + 1 : Nat) : Int) := by unfold wrap64; omega
        have w3 : IntKind.u16.wrap ((2 ^ m % 65536 : Int) * 2) = 2 ^ (m + 1) % 65536 := by
          rw [wrap_u16, hpe, show ((2 : Int) ^ (m + 1)) = ((2 ^ m * 2 : Nat) : Int) by simp [Int.pow_succ]]; omega
        rw [hr, hdr, val_cons, hdl, w1, w2, w3, hpe]
        cases l[l.length - (m + 1)]
        · rw [if_neg (by decide)]; simp
        · rw [if_pos rfl]
          have w4 : IntKind.u16.wrap ((val (l.drop (l.length - m)) : Int) + ((2 ^ m : Nat) : Int)) = ((true.toNat * 2 ^ m + val (l.drop (l.length - m)) : Nat) : Int) := by
            have : true.toNat = 1 := rfl
            rw [this, Nat.one_mul, wrap_u16]
            omega
          rw [w4]
    · obtain rfl : m = l.length := by omega
      refine Ev.step (f := fun k => spec_l1Stack.j1 k l (2 ^ l.length % 65536) ((l.length : Int) - 1 - l.length) false (val (l.drop (l.length - l.length)) : Int) (l.length : Int)) (fun k => ?_) ?_
      · simp only [spec_l1Stack.l0]
        rw [if_neg (by omega)]
      · refine Ev.step (f := fun _ => some _) (fun k => ?_) (Ev.now _)
        simp only [spec_l1Stack.j1, stkB, stkN]
        rw [Nat.min_eq_right hm, Nat.sub_self, Nat.sub_eq_zero_of_le hm]; rfl
theorem spec_l1Stack_ev (l : List Bool) (hl : l.length ≤ 1099511627776) : Ev (fun k => spec_l1Stack.f k l) (stkB 16 l, stkN 16 l) := by
  have h := spec_l1Stack_loop l hl 16 0 (by omega) (by omega) (by omega)
  refine Ev.congr (fun k => ?_) h
  unfold spec_l1Stack.f
  have w1 : wrap64 ((l.length : Int) - 1) = (l.length : Int) - 1 - ((0 : Nat) : Int) := by unfold wrap64; omega
  rw [w1]; simp [val_nil]

theorem laws_wbSame_loop (l : List Bool) (hl : l.length ≤ 1099511627776) (d : Nat) : ∀ i : Nat, l.length - i = d → i ≤ l.length → Ev (fun k => laws_wbSame.l0 k l l (i : Int)) true := by
  induction d with
  | zero =>
    intro i hd hi
    refine Ev.step (f := fun _ => some true) (fun k => ?_) (Ev.now _)
    simp only [laws_wbSame.l0]
    rw [if_neg (by omega)]
  | succ d ih =>
    intro i hd hi
    refine Ev.step (fun k => ?_) (ih (i + 1) (by omega) (by omega))
    simp only [laws_wbSame.l0]
    have hw2 : wrap64 ((i : Int) + 1) = ((i + 1 : Nat) : Int) := by unfold wrap64; omega
    rw [if_pos (by omega), if_pos (by omega), if_pos (by omega), if_neg (by simp), hw2]
theorem laws_wbSame_self (l : List Bool) (hl : l.length ≤ 1099511627776) : Ev (fun k => laws_wbSame.f k l l) true := by
  unfold laws_wbSame.f
  simp only [if_true]
  exact laws_wbSame_loop l hl l.length 0 (by omega) (by omega)

theorem open_tells (l : List Int) (hl : Bytes l) (hn : l.length ≤ 1048576) : ∃ b : List Int, spec_l26Open.f l = some (b, 0) ∧ Bytes b ∧ b.length ≤ 2000 := by
  unfold spec_l26Open.f
  by_cases c : (l.length : Int) > 2000
  · refine ⟨l.take 2000, ?_, bytes_take hl _, by simp; omega⟩
    rw [if_pos c, if_pos (by omega)]
  · exact ⟨l, by rw [if_neg c], hl, by omega⟩

theorem pick_tells {b : List Int} (hb : Bytes b) (hl : b.length ≤ 2000) {p n : Int} (hp0 : 0 ≤ p) (hp : p ≤ 1000000000) (hn : 1 ≤ n) (hn2 : n ≤ 1000000000) :
    Tells (fun k => spec_l26Rd_pick.f k b p n) (fun r => 0 ≤ r.1 ∧ r.1 < n ∧ r.2 = p + 1) := by
  have w1 : wrap64 (p + 1) = p + 1 := wrap64_in (by omega) (by omega)
  have w2 : wrap64 (p + 1 - 1) = p := by unfold wrap64; omega
  refine Tells.step (f := fun _ => ?f) (fun k => ?_) ?_
  case f => exact spec_l26Rd_pick.j0 1 n ((b.length : Int) == 0) b (p + 1)
  · unfold spec_l26Rd_pick.f
    rw [if_neg (by omega), w1]
    simp only [spec_l26Rd_pick.j0]
  · simp only [spec_l26Rd_pick.j0]
    by_cases c0 : (b.length : Int) = 0
    · rw [if_pos (by simpa using c0)]
      exact Tells.now ⟨by omega, by omega, rfl⟩
    · rw [if_neg (by simpa using c0), w2]
      have hlen : 0 < (b.length : Int) := by omega
      by_cases c1 : p < (b.length : Int)
      · rw [if_pos c1, if_pos hp0, if_neg (by omega)]
        have hr := rd_byte hb p
        rw [wrap64_in (by omega) (by omega)]
        have ht := tmod_range (rd b p) n hr.1 (by omega)
        exact Tells.now ⟨ht.1, ht.2, rfl⟩
      · rw [if_neg c1, if_neg c0]
        have w3 : wrap64 (wrap64 (p * 7) + 3) = p * 7 + 3 := by rw [wrap64_in (n := p * 7) (by omega) (by omega), wrap64_in (by omega) (by omega)]
        have h1 := tmod_range p b.length hp0 hlen
        have h2 := tmod_range (p * 7 + 3) b.length (by omega) hlen
        rw [w3, if_pos h1.1, if_pos h1.2, if_pos h2.1, if_pos h2.2, if_neg (by omega)]
        have r1 := rd_byte hb (Int.tmod p (b.length : Int))
        have r2 := rd_byte hb (Int.tmod (p * 7 + 3) (b.length : Int))
        have hd0 : 0 ≤ Int.tdiv p (b.length : Int) := Int.tdiv_nonneg hp0 (by omega)
        have hd1 : Int.tdiv p (b.length : Int) ≤ p := by
          rw [Int.tdiv_eq_ediv_of_nonneg hp0]; exact Int.ediv_le_self _ hp0
        generalize rd b (Int.tmod p (b.length : Int)) = x1 at r1
        generalize rd b (Int.tmod (p * 7 + 3) (b.length : Int)) = x2 at r2
        generalize Int.tdiv p (b.length : Int) = x3 at hd0 hd1
        have e1 : wrap64 (wrap64 x1 * 131) = x1 * 131 := by rw [wrap64_in (n := x1) (by omega) (by omega), wrap64_in (by omega) (by omega)]
        have e2 : wrap64 (wrap64 x2 * 1117) = x2 * 1117 := by rw [wrap64_in (n := x2) (by omega) (by omega), wrap64_in (by omega) (by omega)]
        have e3 : wrap64 (p * 29) = p * 29 := wrap64_in (by omega) (by omega)
        have e4 : wrap64 (wrap64 x3 * 53) = x3 * 53 := by rw [wrap64_in (n := x3) (by omega) (by omega), wrap64_in (by omega) (by omega)]
        have e5 : wrap64 (x1 * 131 + x2 * 1117) = x1 * 131 + x2 * 1117 := wrap64_in (by omega) (by omega)
        have e6 : wrap64 (x1 * 131 + x2 * 1117 + p * 29) = x1 * 131 + x2 * 1117 + p * 29 := wrap64_in (by omega) (by omega)
        have e7 : wrap64 (x1 * 131 + x2 * 1117 + p * 29 + x3 * 53) = x1 * 131 + x2 * 1117 + p * 29 + x3 * 53 := wrap64_in (by omega) (by omega)
        simp only [e1, e2, e3, e4, e5, e6, e7]
        have hy0 : 0 ≤ x1 * 131 + x2 * 1117 + p * 29 + x3 * 53 := by omega
        have hy1 : x1 * 131 + x2 * 1117 + p * 29 + x3 * 53 < 4611686018427387904 := by omega
        generalize x1 * 131 + x2 * 1117 + p * 29 + x3 * 53 = y at hy0 hy1
        have e8 : wrap64 (Int.tdiv y 64) = y / 64 := by rw [Int.tdiv_eq_ediv_of_nonneg hy0]; exact wrap64_in (by omega) (by omega)
        rw [e8]
        have hx := xor_nonneg y (y / 64) hy0 hy1 (by omega) (by omega)
        have ht := tmod_range _ n hx (by omega)
        exact Tells.now ⟨ht.1, ht.2, rfl⟩

theorem num_tells {b : List Int} (hb : Bytes b) (hl : b.length ≤ 2000) {p : Int} (hp0 : 0 ≤ p) (hp : p ≤ 1000000000) (xs : List Int) (h1 : 1 ≤ xs.length) (h2 : xs.length ≤ 1000) :
    Tells (fun k => spec_l26Rd_num.f k b p xs) (fun r => r.1 ∈ xs ∧ r.2 = p + 1) := by
  unfold spec_l26Rd_num.f
  refine Tells.bind (pick_tells hb hl hp0 hp (n := (xs.length : Int)) (by omega) (by omega)) ?_
  rintro ⟨v, q⟩ ⟨h3, h4, h5⟩
  dsimp only at h3 h4 h5 ⊢
  rw [if_pos h3, if_pos h4]
  refine Tells.now ⟨?_, h5⟩
  unfold rd
  have hi : v.toNat < xs.length := by omega
  dsimp only
  rw [List.getD_eq_getElem?_getD, List.getElem?_eq_getElem hi]
  exact List.getElem_mem hi

theorem l1Draw_loop {b : List Int} (hb : Bytes b) (hl : b.length ≤ 2000) (n : Nat) (hn : n ≤ 17) (d : Nat) : ∀ (i : Nat) (list : List Bool) (p : Int), n - i = d → list.length ≤ 20 → i ≤ n → list.length = i → 0 ≤ p → p + d ≤ 1000000 →
    Tells (fun k => spec_l1Draw.l0 k list (n : Int) (i : Int) b p) (fun r => 0 ≤ r.1 ∧ r.1 < 65536 ∧ 0 ≤ r.2.2 ∧ r.2.2 ≤ p + d + 3) := by
  induction d with
  | zero =>
    intro i list p hd hll hi hli hp0 hp
    refine Tells.step (f := fun k => (spec_l1Stack.f k list).bind fun bt447 => ((spec_l26Rd_pick.f k b p 20).bind fun bt450 => (if bt450.1 = 0 then ((spec_l26Rd_num.f k b bt450.2 (([(-1), 0, 17, 16, 1, (-9223372036854775807), 9223372036854775807] : List Int))).bind fun bt455 => (some (bt447.1, bt455.1, bt455.2))) else (if bt450.1 = 1 then ((spec_l26Rd_pick.f k b bt450.2 256).bind fun bt457 => ((spec_l26Rd_pick.f k b bt457.2 256).bind fun bt459 => (some (IntKind.u16.wrap (wrap64 ((wrap64 (bt457.1 * 256)) + bt459.1)), bt447.2, bt459.2)))) else (some (bt447.1, bt447.2, bt450.2)))))) (fun k => ?_) ?_
    · simp only [spec_l1Draw.l0]
      rw [if_neg (by omega)]
    · refine Tells.bindEv (spec_l1Stack_ev list (by omega)) ?_
      have hs0 : 0 ≤ stkB 16 list := by unfold stkB; omega
      have hs1 : stkB 16 list < 65536 := by
        unfold stkB
        have := val16 (l := list.drop (list.length - 16)) (by simp; omega)
        omega
      refine Tells.bind (pick_tells hb hl hp0 (by omega) (by omega) (by omega)) ?_
      rintro ⟨v, q⟩ ⟨h3, h4, h5⟩
      dsimp only at h3 h4 h5 ⊢
      subst h5
      by_cases c0 : v = 0
      · simp only [if_pos c0]
        refine Tells.bind (num_tells hb hl (by omega) (by omega) _ (by decide) (by decide)) ?_
        rintro ⟨v, q⟩ ⟨h3, h4⟩
        dsimp only at h3 h4 ⊢
        exact Tells.now ⟨hs0, hs1, by dsimp only; omega, by dsimp only; omega⟩
      · by_cases c1 : v = 1
        · simp only [if_neg c0, if_pos c1]
          refine Tells.bind (pick_tells hb hl (by omega) (by omega) (by omega) (by omega)) ?_
          rintro ⟨v, q⟩ ⟨h3, h4, h5⟩
          dsimp only at h3 h4 h5 ⊢
          subst h5
          refine Tells.bind (pick_tells hb hl (by omega) (by omega) (by omega) (by omega)) ?_
          rintro ⟨u, q⟩ ⟨h6, h7, h8⟩
          dsimp only at h6 h7 h8 ⊢
          subst h8
          refine Tells.now ⟨?_, ?_, by dsimp only; omega, by dsimp only; omega⟩
          all_goals (dsimp only; rw [wrap_u16]; omega)
        · simp only [if_neg c0, if_neg c1]
          exact Tells.now ⟨hs0, hs1, by dsimp only; omega, by dsimp only; omega⟩
  | succ d ih =>
    intro i list p hd hll hi hli hp0 hp
    refine Tells.step (f := fun k => (spec_l26Rd_pick.f k b p 2).bind fun bt442 => (if list.length < 140737488355328 then (spec_l1Draw.l0 k (list ++ [(bt442.1 == 1)]) (n : Int) (wrap64 ((i : Int) + 1)) b bt442.2) else (none))) (fun k => ?_) ?_
    · simp only [spec_l1Draw.l0]
      rw [if_pos (by omega)]
    · refine Tells.bind (pick_tells hb hl hp0 (by omega) (by omega) (by omega)) ?_
      rintro ⟨v, q⟩ ⟨h3, h4, h5⟩
      dsimp only at h3 h4 h5 ⊢
      subst h5
      have w : wrap64 ((i : Int) + 1) = ((i + 1 : Nat) : Int) := by unfold wrap64; omega
      simp only [if_pos (show list.length < 140737488355328 by omega), w]
      exact (ih (i + 1) _ (p + 1) (by omega) (by simp; omega) (by omega) (by simp; omega) (by omega) (by omega)).mono (fun r hr => by omega)
theorem l1Draw_tells {b : List Int} (hb : Bytes b) (hl : b.length ≤ 2000) {p : Int} (hp0 : 0 ≤ p) (hp : p ≤ 100000) :
    Tells (fun k => spec_l1Draw.f k b p) (fun r => 0 ≤ r.1 ∧ r.1 < 65536 ∧ 0 ≤ r.2.2 ∧ r.2.2 ≤ p + 100) := by
  unfold spec_l1Draw.f
  simp only [Option.bind_some]
  refine Tells.bind (pick_tells hb hl hp0 (by omega) (by omega) (by omega)) ?_
  rintro ⟨v, q⟩ ⟨h3, h4, h5⟩
  dsimp only at h3 h4 h5 ⊢
  subst h5
  refine Tells.bind (pick_tells hb hl (by omega) (by omega) (by omega) (by omega)) ?_
  rintro ⟨u, q⟩ ⟨h6, h7, h8⟩
  dsimp only at h6 h7 h8 ⊢
  subst h8
  by_cases c0 : u = 0
  · simp only [if_pos c0]
    refine Tells.bind (num_tells hb hl (by omega) (by omega) _ (by decide) (by decide)) ?_
    rintro ⟨x, q⟩ ⟨h3, h4⟩
    dsimp only at h3 h4 ⊢
    subst h4
    obtain ⟨m, rfl, hm⟩ : ∃ m : Nat, x = (m : Int) ∧ m ≤ 17 := ⟨x.toNat, by simp at h3; omega, by simp at h3; omega⟩
    refine Tells.step (fun k => ?_) ((l1Draw_loop hb hl m hm m 0 [] (p + 1 + 1 + 1) (by omega) (by simp) (by omega) rfl (by omega) (by omega)).mono (fun r hr => ?_))
    · simp only [spec_l1Draw.j0]; rfl
    · omega
  · simp only [if_neg c0]
    obtain ⟨m, rfl, hm⟩ : ∃ m : Nat, v = (m : Int) ∧ m ≤ 17 := ⟨v.toNat, by omega, by omega⟩
    refine Tells.step (fun k => ?_) ((l1Draw_loop hb hl m hm m 0 [] (p + 1 + 1) (by omega) (by simp) (by omega) rfl (by omega) (by omega)).mono (fun r hr => ?_))
    · simp only [spec_l1Draw.j0]; rfl
    · omega

theorem DrawBitPush_tells (l : List Int) (hl : Bytes l) (hn : l.length ≤ 1048576) : Tells (fun k => spec_DrawBitPush.f k l) (fun r => 0 ≤ r.1 ∧ r.1 < 65536) := by
  obtain ⟨b, he, hb, hbl⟩ := open_tells l hl hn
  unfold spec_DrawBitPush.f
  simp only [he, Option.bind_some]
  refine Tells.bind (pick_tells hb hbl (by omega) (by omega) (by omega) (by omega)) ?_
  rintro ⟨u, q⟩ ⟨h6, h7, h8⟩
  dsimp only at h6 h7 h8 ⊢
  subst h8
  refine Tells.bind (l1Draw_tells hb hbl (by omega) (by omega)) ?_
  rintro ⟨x, y, z⟩ ⟨h1, h2, h3, h4⟩
  exact Tells.now ⟨h1, h2⟩

theorem FnBitList : laws_FnBitList.Pure := by
  intro l hm hs hw
  refine Tells.rounds ?_
  unfold laws_FnBitList.f
  by_cases c : (l.length : Int) > 1048576
  · simp only [if_pos c]; exact Tells.now rfl
  · simp only [if_neg c]
    refine Tells.bind (DrawBitPush_tells l (bytes_of_wf hw) (by omega)) ?_
    rintro ⟨b, n, x⟩ ⟨h0, h1⟩
    dsimp only at h0 h1 ⊢
    refine Tells.bindEv (impl_BitList_ev b n h0 h1) ?_
    refine Tells.bindEv (spec_BitList_ev b n h0 h1) ?_
    have hL := lst_length_le 16 b n
    refine Tells.bindEv (laws_wbSame_self _ (by omega)) ?_
    simp only [if_true, impl_BitPush_eq b n x h0 h1, Option.bind_some, if_pos (show (lst 16 b n).length < 140737488355328 by omega)]
    have hok : ok 16 b n = true → (val (lst 16 b n) : Int) = b ∧ ((lst 16 b n).length : Int) = n := lst_of_ok h0
    have hbo := spec_BitOk_ev b n h0 h1
    have hlen : ((lst 16 b n ++ [x]).length : Int) = (lst 16 b n).length + 1 := by simp
    have key : ∀ V : List Bool, V.length ≤ 15 → ((lst 16 b n).length ≠ 16 → V = lst 16 b n) → stkB 16 (lst 16 b n ++ [x]) = val (V ++ [x]) → stkN 16 (lst 16 b n ++ [x]) = (V ++ [x]).length →
        Tells (fun k => laws_FnBitList.j0 k x (V ++ [x]) ((lst 16 b n).length : Int) b n (stkB 16 (lst 16 b n ++ [x])) (stkN 16 (lst 16 b n ++ [x]))) (· = true) := by
      intro V hV hVL e1 e2
      have hW : (V ++ [x]).length ≤ 16 := by simp; omega
      have hv := val16 hW
      rw [e1, e2]
      have hl := lst_of_list hW
      have hpop := impl_BitPop_eq (val (V ++ [x]) : Int) ((V ++ [x]).length : Int) (by omega) (by omega)
      have hbok := impl_BitOk_eq (val (V ++ [x]) : Int) ((V ++ [x]).length : Int) (by omega) (by omega)
      have hbl := impl_BitList_ev (val (V ++ [x]) : Int) ((V ++ [x]).length : Int) (by omega) (by omega)
      rw [hl] at hpop hbl
      rw [ok_of_list hW] at hbok
      have hg : (V ++ [x]).getLastD false = x := by simp [List.getLastD_eq_getLast?]
      have hd : (V ++ [x]).dropLast = V := List.dropLast_concat
      rw [hg, hd] at hpop
      generalize hW' : V ++ [x] = W at *
      refine Tells.step (f := fun k => (impl_BitList.f k (val W : Int) (W.length : Int)).bind fun t209 => ((laws_wbSame.f k t209 W).bind fun t212 => (if t212 = true then (if ((lst 16 b n).length : Int) = 16 then (some true) else ((spec_BitOk.f k b n).bind fun t213 => (if t213 = true then (some ((val V : Int) == b && ((V.length : Int) == n))) else (some true)))) else (some false)))) (fun k => ?_) ?_
      · simp only [laws_FnBitList.j0, hpop, hbok, Option.bind_some, if_true, bne_self_eq_false, Bool.false_eq_true, if_false]
      · refine Tells.bindEv hbl ?_
        refine Tells.bindEv (laws_wbSame_self W (by omega)) ?_
        simp only [if_true]
        by_cases c16 : ((lst 16 b n).length : Int) = 16
        · simp only [if_pos c16]; exact Tells.now rfl
        · simp only [if_neg c16]
          refine Tells.bindEv hbo ?_
          by_cases co : ok 16 b n = true
          · simp only [if_pos co]
            obtain ⟨r1, r2⟩ := hok co
            rw [hVL (by omega), r1, r2]
            exact Tells.now (by simp)
          · simp only [if_neg co]; exact Tells.now rfl
    by_cases cl : ((lst 16 b n ++ [x]).length : Int) > 16
    · simp only [if_pos cl]
      obtain ⟨y, V, hyV⟩ : ∃ y V, lst 16 b n = y :: V := by
        cases h : lst 16 b n with
        | nil => rw [h] at cl; simp at cl
        | cons y V => exact ⟨y, V, rfl⟩
      have hc : (lst 16 b n).length = 16 := by omega
      have hVl : V.length = 15 := by rw [hyV] at hc; simpa using hc
      have e : (lst 16 b n ++ [x]).drop 1 = V ++ [x] := by rw [hyV]; rfl
      rw [e]
      refine key V (by omega) (fun h => absurd hc h) ?_ ?_
      · unfold stkB
        have : (lst 16 b n ++ [x]).length - 16 = 1 := by omega
        rw [this, e]
      · unfold stkN
        have : (V ++ [x]).length = 16 := by simp [hVl]
        rw [this]
        have : min 16 (lst 16 b n ++ [x]).length = 16 := by omega
        rw [this]
    · simp only [if_neg cl]
      have hs := stk_short (show (lst 16 b n ++ [x]).length ≤ 16 by omega)
      exact key (lst 16 b n) (by omega) (fun _ => rfl) hs.1 hs.2

end Go.Proofs.Ytpjkpmgelmjlnaa.BFnBitList
