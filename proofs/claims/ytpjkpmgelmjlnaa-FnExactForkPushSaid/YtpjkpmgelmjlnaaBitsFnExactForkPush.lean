/- What the printed functions of stacks and forks tell, in terms of the list of a stack's bits: for the law FnExactForkPush. -/
import Derived.Test.YtpjkpmgelmjlnaaFx11
import Derived.Test.YtpjkpmgelmjlnaaFx19
import Derived.Test.YtpjkpmgelmjlnaaFx3
import Derived.Test.YtpjkpmgelmjlnaaFx4
import Derived.Test.YtpjkpmgelmjlnaaFx5
import Derived.Test.YtpjkpmgelmjlnaaFx6
import Derived.Test.YtpjkpmgelmjlnaaFx7
import Derived.Test.YtpjkpmgelmjlnaaBitMath
namespace Go.Proofs.Ytpjkpmgelmjlnaa.BFnExactForkPush
open Go Go.RowKit Go.Proofs.Ytpjkpmgelmjlnaa.BitMath Go.Proofs.Ytpjkpmgelmjlnaa.F Go.Proofs.YtpjkpmgelmjlnaaW.PrintWords Go.Proofs.YtpjkpmgelmjlnaaW.PrintLast Go.Proofs.YtpjkpmgelmjlnaaW.PrintMore
set_option linter.unusedVariables false
set_option linter.unusedSimpArgs false

theorem in_eq (a l h : Int) : impl_in.f a l h = some (decide (l ≤ a ∧ a ≤ h)) := by
  unfold impl_in.f
  by_cases c : l ≤ a
  · rw [if_pos c]; simp [c]
  · rw [if_neg c]; simp [c]

theorem impl_ForkOk_eq (b n : Int) (h0 : 0 ≤ b) (h1 : b < 256) : impl_ForkOk.f b n = some (ok 8 b n) := by
  unfold impl_ForkOk.f
  rw [in_eq, Option.bind_some]
  by_cases c : 0 ≤ n ∧ n ≤ 8
  · rw [if_pos (decide_eq_true c), if_pos c.1]
    obtain ⟨n, rfl⟩ := Int.eq_ofNat_of_zero_le c.1
    obtain ⟨b, rfl⟩ := Int.eq_ofNat_of_zero_le h0
    have hn : n ≤ 8 := by omega
    have hw : IntKind.u64.wrap (b : Int) = b := by rw [wrap_u64]; exact Int.emod_eq_of_lt (by omega) (by omega)
    unfold shr ok
    have hm : min (Int.toNat (n : Int)) IntKind.u64.bits = n := by rw [Int.toNat_natCast]; exact Nat.min_eq_left (by show n ≤ 64; omega)
    rw [hw, hm, Int.toNat_natCast]
    have e : ((b : Int) / 2 ^ n == 0) = decide (b < 2 ^ n) := by
      rw [Bool.eq_iff_iff]; simp only [beq_iff_eq, decide_eq_true_eq]
      rw [show ((b : Int) / 2 ^ n) = ((b / 2 ^ n : Nat) : Int) by simp]
      have := Nat.div_eq_zero_iff (a := b) (b := 2 ^ n)
      have hp := Nat.two_pow_pos n
      omega
    rw [e]
    congr 1
    rw [Bool.eq_iff_iff]; simp only [decide_eq_true_eq]
    constructor
    · intro h; exact ⟨by omega, by omega, by exact_mod_cast h⟩
    · intro h; exact_mod_cast h.2.2
  · rw [if_neg (by simp [c])]
    unfold ok
    rw [decide_eq_false (fun h => c ⟨h.1, h.2.1⟩)]

theorem impl_BitFork_taken_eq (b n : Int) (h0 : 0 ≤ b) (h1 : b < 256) : impl_BitFork_taken.f b n = some ((val (lst 8 b n) : Int), ((lst 8 b n).length : Int)) := by
  unfold impl_BitFork_taken.f
  rw [impl_ForkOk_eq b n h0 h1, Option.bind_some]
  cases c : ok 8 b n
  · rw [if_neg (by decide), lst_of_not c]; rfl
  · rw [if_pos rfl, (lst_of_ok h0 c).1, (lst_of_ok h0 c).2]

theorem bit_eq (c : Bool) : impl_bit.f c = some ((c.toNat : Nat) : Int) := by cases c <;> rfl

theorem impl_ForkPush_eq (b n : Int) (c : Bool) (h0 : 0 ≤ b) (h1 : b < 256) : impl_ForkPush.f b n c = some (stkB 8 (lst 8 b n ++ [c]), stkN 8 (lst 8 b n ++ [c])) := by
  unfold impl_ForkPush.f
  rw [impl_BitFork_taken_eq b n h0 h1, Option.bind_some, bit_eq, Option.bind_some]
  generalize hL : lst 8 b n = L
  have hl : L.length ≤ 8 := by rw [← hL]; exact lst_length_le _ _ _
  have hv := val8 hl
  obtain ⟨e1, e2⟩ := stk_push c hl
  have e1 : stkB 8 (L ++ [c]) = (2 * val L + c.toNat) % 256 := e1
  have hc : c.toNat < 2 := by cases c <;> decide
  congr 1; congr 1
  · rw [e1]; 
    generalize val L = v at *
    rw [u8_or1 _ _ (by omega) (by omega) (by omega) (by omega) (by omega)]
    omega
  · rw [e2]; unfold mn wrap64
    dsimp only
    split <;> omega

theorem spec_BitOk_loop (b : Int) (n : Nat) (hn : n ≤ 16) (d : Nat) : ∀ i : Nat, n - i = d → i ≤ n →
    Ev (fun k => spec_BitOk.l0 k (2 ^ i) (i : Int) b (n : Int)) (decide (wrap64 b < 2 ^ n)) := by
  induction d with
  | zero =>
    intro i hd hi
    obtain rfl : i = n := by omega
    refine Ev.step (f := fun _ => some _) (fun k => ?_) (Ev.now _)
    simp only [spec_BitOk.l0]
    rw [if_neg (by omega)]
  | succ d ih =>
    intro i hd hi
    refine Ev.step (fun k => ?_) (ih (i + 1) (by omega) (by omega))
    simp only [spec_BitOk.l0]
    have hp' : ((2 : Int) ^ i) ≤ 65536 := ipow16 (by omega)
    have hp0 : (0 : Int) < 2 ^ i := Int.pow_pos (by decide)
    have hw2 : wrap64 ((i : Int) + 1) = ((i + 1 : Nat) : Int) := by unfold wrap64; omega
    have hw : wrap64 ((2 : Int) ^ i * 2) = 2 ^ (i + 1) := by rw [Int.pow_succ]; unfold wrap64; omega
    rw [if_pos (by omega), hw2, hw]
theorem spec_BitOk_ev (b n : Int) (h0 : 0 ≤ b) (h1 : b < 65536) : Ev (fun k => spec_BitOk.f k b n) (ok 16 b n) := by
  unfold spec_BitOk.f
  by_cases c : n < 0
  · refine Ev.step (f := fun _ => some false) (fun k => ?_) ?_
    · rw [if_pos c]; simp only [spec_BitOk.j0]; rfl
    · have : ok 16 b n = false := by unfold ok; exact decide_eq_false (by omega)
      rw [this]; exact Ev.now _
  · by_cases c2 : n > 16
    · refine Ev.step (f := fun _ => some false) (fun k => ?_) ?_
      · rw [if_neg c, decide_eq_true c2]; simp only [spec_BitOk.j0]; rfl
      · have : ok 16 b n = false := by unfold ok; exact decide_eq_false (by omega)
        rw [this]; exact Ev.now _
    · obtain ⟨n, rfl⟩ := Int.eq_ofNat_of_zero_le (show 0 ≤ n by omega)
      refine Ev.step (f := fun k => spec_BitOk.l0 k (2 ^ 0) ((0 : Nat) : Int) b (n : Int)) (fun k => ?_) ?_
      · rw [if_neg c, decide_eq_false c2]; simp only [spec_BitOk.j0]; rfl
      · have h := spec_BitOk_loop b n (by omega) n 0 (by omega) (by omega)
        have hw : wrap64 b = b := by unfold wrap64; omega
        rw [hw] at h
        have e : ok 16 b (n : Int) = decide (b < 2 ^ n) := by
          unfold ok
          rw [Int.toNat_natCast]
          by_cases hlt : b < 2 ^ n
          · rw [decide_eq_true hlt]; exact decide_eq_true ⟨by omega, by omega, hlt⟩
          · rw [decide_eq_false hlt]; exact decide_eq_false (fun h => hlt h.2.2)
        rw [e]; exact h

theorem spec_l1Power_loop (n : Nat) (hn : n ≤ 15) (d : Nat) : ∀ i : Nat, n - i = d → i ≤ n →
    Ev (fun k => spec_l1Power.l0 k (n : Int) (2 ^ i) (i : Int)) (2 ^ n) := by
  induction d with
  | zero =>
    intro i hd hi
    obtain rfl : i = n := by omega
    refine Ev.step (f := fun _ => some _) (fun k => ?_) (Ev.now _)
    simp only [spec_l1Power.l0]
    rw [if_neg (by omega)]
  | succ d ih =>
    intro i hd hi
    refine Ev.step (fun k => ?_) (ih (i + 1) (by omega) (by omega))
    simp only [spec_l1Power.l0]
    have hp' : ((2 : Int) ^ (i + 1)) ≤ 32768 := ipow15 (by omega)
    have hp0 : (0 : Int) < 2 ^ i := Int.pow_pos (by decide)
    rw [Int.pow_succ] at hp'
    have hw2 : wrap64 ((i : Int) + 1) = ((i + 1 : Nat) : Int) := by unfold wrap64; omega
    have hw : IntKind.u16.wrap ((2 : Int) ^ i * 2) = 2 ^ (i + 1) := by rw [Int.pow_succ, wrap_u16]; exact Int.emod_eq_of_lt (by omega) (by omega)
    rw [if_pos (by omega), hw2, hw]
theorem spec_l1Power_ev (n : Nat) (hn : n ≤ 15) : Ev (fun k => spec_l1Power.f k (n : Int)) (2 ^ n) := spec_l1Power_loop n hn n 0 (by omega) (by omega)

theorem spec_BitList_loop (b n : Nat) (hb : b < 65536) (hn : n ≤ 16) (d : Nat) : d ≤ n →
    Ev (fun k => spec_BitList.l0 k (bl (b / 2 ^ d) (n - d)) ((d : Int) - 1) (b : Int) (n : Int)) (bl b n) := by
  induction d with
  | zero =>
    intro hd
    refine Ev.step (f := fun _ => some _) (fun k => ?_) (Ev.now _)
    simp only [spec_BitList.l0]
    rw [if_neg (by omega)]
    simp
  | succ d ih =>
    intro hd
    have hp := spec_l1Power_ev d (by omega)
    refine Ev.step (f := fun k => (spec_l1Power.f k (d : Int)).bind fun t121 => (if t121 = 0 then (none) else (if (bl (b / 2 ^ (d + 1)) (n - (d + 1))).length < 140737488355328 then (spec_BitList.l0 k ((bl (b / 2 ^ (d + 1)) (n - (d + 1))) ++ [((Int.tmod (IntKind.u16.wrap (Int.tdiv (b : Int) t121)) 2) == 1)]) (wrap64 ((d : Int) - 1)) (b : Int) (n : Int)) else (none)))) (fun k => ?_) ?_
    · simp only [spec_BitList.l0]
      rw [show (((d + 1 : Nat) : Int) - 1) = (d : Int) by omega, if_pos (by omega)]
    · refine Ev.bind hp ?_
      refine Ev.congr (fun k => ?_) (ih (by omega))
      have hp0 : (0 : Int) < 2 ^ d := Int.pow_pos (by decide)
      rw [if_neg (by omega), if_pos (by rw [bl_length]; omega)]
      have hw : wrap64 ((d : Int) - 1) = (d : Int) - 1 := by unfold wrap64; omega
      rw [hw]
      congr 1
      obtain ⟨m, hm⟩ : ∃ m, n - d = m + 1 := ⟨n - d - 1, by omega⟩
      have hm2 : n - (d + 1) = m := by omega
      have hlt : b / 2 ^ d < 65536 := Nat.lt_of_le_of_lt (Nat.div_le_self _ _) hb
      have e : Int.tdiv (b : Int) (2 ^ d) = ((b / 2 ^ d : Nat) : Int) := by
        rw [show ((2 : Int) ^ d) = ((2 ^ d : Nat) : Int) by simp]; exact Int.ofNat_tdiv b (2 ^ d) |>.symm
      rw [hm, hm2, bl, Nat.div_div_eq_div_mul, ← Nat.pow_succ, e, wrap_u16]
      generalize b / 2 ^ d = q at hlt
      rw [Int.emod_eq_of_lt (by omega) (by omega)]
      congr 2
      rw [Bool.eq_iff_iff]; simp only [beq_iff_eq]
      rw [Int.tmod_eq_emod_of_nonneg (by omega)]; omega
theorem spec_BitList_ev (b n : Int) (h0 : 0 ≤ b) (h1 : b < 65536) : Ev (fun k => spec_BitList.f k b n) (lst 16 b n) := by
  unfold spec_BitList.f
  simp only [Option.bind_some]
  refine Ev.bind (spec_BitOk_ev b n h0 h1) ?_
  cases c : ok 16 b n
  · rw [lst_of_not c]; exact Ev.now _
  · unfold lst
    rw [if_pos c]
    have c' := of_decide_eq_true c
    obtain ⟨n, rfl⟩ := Int.eq_ofNat_of_zero_le c'.1
    obtain ⟨b, rfl⟩ := Int.eq_ofNat_of_zero_le h0
    rw [Int.toNat_natCast, Int.toNat_natCast]
    have h := spec_BitList_loop b n (by omega) (by omega) n (Nat.le_refl _)
    rw [Nat.sub_self] at h
    refine Ev.congr (fun k => ?_) h
    have hw : wrap64 ((n : Int) - 1) = (n : Int) - 1 := by unfold wrap64; omega
    rw [if_pos rfl, hw]; rfl

theorem spec_l1Stack_loop (l : List Bool) (hl : l.length ≤ 1099511627776) (d : Nat) : ∀ m : Nat, 16 - m = d → m ≤ 16 → m ≤ l.length →
    Ev (fun k => spec_l1Stack.l0 k l (2 ^ m % 65536) ((l.length : Int) - 1 - m) (val (l.drop (l.length - m)) : Int) (m : Int)) (stkB 16 l, stkN 16 l) := by
  induction d with
  | zero =>
    intro m hd hm hml
    obtain rfl : m = 16 := by omega
    refine Ev.step (f := fun k => spec_l1Stack.j1 k l (2 ^ 16 % 65536) ((l.length : Int) - 1 - (16 : Nat)) false (val (l.drop (l.length - 16)) : Int) ((16 : Nat) : Int)) (fun k => ?_) ?_
    · simp only [spec_l1Stack.l0]
      split <;> rfl
    · refine Ev.step (f := fun _ => some _) (fun k => ?_) (Ev.now _)
      simp only [spec_l1Stack.j1, stkB, stkN]
      rw [Nat.min_eq_left hml]; rfl
  | succ d ih =>
    intro m hd hm hml
    by_cases c : m < l.length
    · refine Ev.step (f := fun k => spec_l1Stack.j1 k l (2 ^ m % 65536) ((l.length : Int) - 1 - m) true (val (l.drop (l.length - m)) : Int) (m : Int)) (fun k => ?_) ?_
      · simp only [spec_l1Stack.l0]
        rw [if_pos (by omega), decide_eq_true (by omega)]
      · refine Ev.step (fun k => ?_) (ih (m + 1) (by omega) (by omega) (by omega))
        simp only [spec_l1Stack.j1]
        rw [if_pos (by decide), if_pos (by omega), if_pos (by omega)]
        have hi : ((l.length : Int) - 1 - m).toNat = l.length - (m + 1) := by omega
        have hlt : l.length - (m + 1) < l.length := by omega
        have hr : rdOf false l ((l.length : Int) - 1 - m) = l[l.length - (m + 1)] := by
          unfold rdOf; rw [hi]; simp [List.getD_eq_getElem?_getD, hlt]
        have hdr : l.drop (l.length - (m + 1)) = l[l.length - (m + 1)] :: l.drop (l.length - m) := by
          rw [List.drop_eq_getElem_cons hlt, show l.length - (m + 1) + 1 = l.length - m by omega]
        have hdl : (l.drop (l.length - m)).length = m := by simp; omega
        have hv := val_lt (l.drop (l.length - m))
        rw [hdl] at hv
        have hp : 2 ^ (m + 1) ≤ 65536 := pow16 (by omega)
        rw [Nat.pow_succ] at hp
        have hpe : (2 ^ m % 65536 : Int) = ((2 ^ m : Nat) : Int) := by
          rw [show ((2 : Int) ^ m) = ((2 ^ m : Nat) : Int) by simp]; omega
        have w1 : wrap64 ((l.length : Int) - 1 - m - 1) = (l.length : Int) - 1 - ((m + 1 : Nat) : Int) := by unfold wrap64; omega
        have w2 : wrap64 ((m : Int) + 1) = ((m + 1 : Nat) : Int) := by unfold wrap64; omega
        have w3 : IntKind.u16.wrap ((2 ^ m % 65536 : Int) * 2) = 2 ^ (m + 1) % 65536 := by
          rw [wrap_u16, hpe, show ((2 : Int) ^ (m + 1)) = ((2 ^ m * 2 : Nat) : Int) by simp [Int.pow_succ]]; omega
        rw [hr, hdr, val_cons, hdl, w1, w2, w3, hpe]
        cases l[l.length - (m + 1)]
        · rw [if_neg (by decide)]; simp
        · rw [if_pos rfl]
          have w4 : IntKind.u16.wrap ((val (l.drop (l.length - m)) : Int) + ((2 ^ m : Nat) : Int)) = ((true.toNat * 2 ^ m + val (l.drop (l.length - m)) : Nat) : Int) := by
            have : true.toNat = 1 := rfl
            rw [this, Nat.one_mul, wrap_u16]
            omega
          rw [w4]
    · obtain rfl : m = l.length := by omega
      refine Ev.step (f := fun k => spec_l1Stack.j1 k l (2 ^ l.length % 65536) ((l.length : Int) - 1 - l.length) false (val (l.drop (l.length - l.length)) : Int) (l.length : Int)) (fun k => ?_) ?_
      · simp only [spec_l1Stack.l0]
        rw [if_neg (by omega)]
      · refine Ev.step (f := fun _ => some _) (fun k => ?_) (Ev.now _)
        simp only [spec_l1Stack.j1, stkB, stkN]
        rw [Nat.min_eq_right hm, Nat.sub_self, Nat.sub_eq_zero_of_le hm]; rfl
theorem spec_l1Stack_ev (l : List Bool) (hl : l.length ≤ 1099511627776) : Ev (fun k => spec_l1Stack.f k l) (stkB 16 l, stkN 16 l) := by
  have h := spec_l1Stack_loop l hl 16 0 (by omega) (by omega) (by omega)
  refine Ev.congr (fun k => ?_) h
  unfold spec_l1Stack.f
  have w1 : wrap64 ((l.length : Int) - 1) = (l.length : Int) - 1 - ((0 : Nat) : Int) := by unfold wrap64; omega
  rw [w1]; simp [val_nil]

theorem spec_BitPush_ev (b n : Int) (c : Bool) (h0 : 0 ≤ b) (h1 : b < 65536) : Ev (fun k => spec_BitPush.f k b n c) (stkB 16 (lst 16 b n ++ [c]), stkN 16 (lst 16 b n ++ [c])) := by
  unfold spec_BitPush.f
  refine Ev.bind (spec_BitList_ev b n h0 h1) ?_
  have hl := lst_length_le 16 b n
  simp only [if_pos (show (lst 16 b n).length < 140737488355328 by omega)]
  exact Ev.bind (spec_l1Stack_ev _ (by simp; omega)) (Ev.now _)

theorem laws_eqBitFork_self (b n : Int) : laws_eqBitFork.f b n b n = some true := by
  unfold laws_eqBitFork.f; rw [if_pos rfl, if_pos rfl]

theorem toBitFork_eq (b n : Int) : laws_toBitFork.f b n = some (b, n) := rfl

theorem spec_ForkOk_ev (b n : Int) (h0 : 0 ≤ b) (h1 : b < 256) : Ev (fun k => spec_ForkOk.f k b n) (ok 8 b n) := by
  unfold spec_ForkOk.f
  by_cases c : n ≤ 8
  · have e : ok 8 b n = ok 16 b n := by
      unfold ok; rw [Bool.eq_iff_iff]; simp only [decide_eq_true_eq]; omega
    rw [e]
    have hw : IntKind.u16.wrap b = b := by rw [wrap_u16]; omega
    have hk : Ev (fun k => spec_BitOk.f k (IntKind.u16.wrap b) n) (ok 16 b n) := by rw [hw]; exact spec_BitOk_ev b n h0 (by omega)
    refine Ev.congr (fun k => ?_) (Ev.bind hk (f := fun _ t => some t) (Ev.now _))
    rw [if_pos c]
  · have e : ok 8 b n = false := by unfold ok; exact decide_eq_false (by omega)
    rw [e]
    refine Ev.congr (fun k => ?_) (Ev.now false)
    rw [if_neg c]

theorem spec_l1Wide_ev (b n : Int) (h0 : 0 ≤ b) (h1 : b < 256) : Ev (fun k => spec_l1Wide.f k b n) ((val (lst 8 b n) : Int), ((lst 8 b n).length : Int)) := by
  unfold spec_l1Wide.f
  refine Ev.bind (spec_ForkOk_ev b n h0 h1) ?_
  cases c : ok 8 b n
  · rw [lst_of_not c]; exact Ev.now _
  · have hw : IntKind.u16.wrap b = b := by rw [wrap_u16]; omega
    rw [(lst_of_ok h0 c).1, (lst_of_ok h0 c).2]
    refine Ev.congr (fun k => ?_) (Ev.now _)
    simp [hw]

theorem spec_l1Small_eq (l : List Bool) : spec_l1Small.f (stkB 16 l) (stkN 16 l) = some (stkB 8 l, stkN 8 l) := by
  have hb : 0 ≤ stkB 16 l := by unfold stkB; omega
  have e1 : stkB 16 l % 256 = stkB 8 l := by
    unfold stkB
    by_cases h : l.length ≤ 8
    · rw [Nat.sub_eq_zero_of_le h, Nat.sub_eq_zero_of_le (by omega), List.drop_zero]
      have := val8 h; omega
    · have h8 := val_drop l 8 (by omega)
      by_cases h2 : l.length ≤ 16
      · rw [h8, Nat.sub_eq_zero_of_le h2, List.drop_zero]; omega
      · have h16 := val_drop l 16 (by omega)
        rw [h8, h16]; omega
  have e2 : (if stkN 16 l > 8 then (8 : Int) else stkN 16 l) = stkN 8 l := by unfold stkN; split <;> omega
  have e3 : Int.tmod (stkB 16 l) 256 % 256 = stkB 8 l := by rw [Int.tmod_eq_emod_of_nonneg hb]; omega
  unfold spec_l1Small.f
  rw [e3, ← e2]
  split <;> rfl

theorem spec_ForkPush_ev (b n : Int) (c : Bool) (h0 : 0 ≤ b) (h1 : b < 256) : Ev (fun k => spec_ForkPush.f k b n c) (stkB 8 (lst 8 b n ++ [c]), stkN 8 (lst 8 b n ++ [c])) := by
  unfold spec_ForkPush.f
  refine Ev.bind (spec_l1Wide_ev b n h0 h1) ?_
  have hl := lst_length_le 8 b n
  have hv := val8 hl
  have hp := spec_BitPush_ev (val (lst 8 b n) : Int) ((lst 8 b n).length : Int) c (by omega) (by omega)
  rw [lst_of_list (by omega)] at hp
  refine Ev.bind hp ?_
  simp only [spec_l1Small_eq, Option.bind_some]
  exact Ev.now _

theorem holds (b n : Int) (c : Bool) (w0 : (Lit.int .u8 b).wf = true) (_w1 : (Lit.int .i64 n).wf = true) : ∃ k, laws_FnExactForkPush.f k b n c = some true := by
  obtain ⟨h0, h1⟩ := wf8 w0
  refine Ev.rounds ?_
  unfold laws_FnExactForkPush.f
  simp only [toBitFork_eq, Option.bind_some]
  refine Ev.bind (spec_ForkPush_ev b n c h0 h1) ?_
  simp only [impl_ForkPush_eq b n c h0 h1, Option.bind_some, laws_eqBitFork_self, if_true]
  exact Ev.now _

end Go.Proofs.Ytpjkpmgelmjlnaa.BFnExactForkPush
