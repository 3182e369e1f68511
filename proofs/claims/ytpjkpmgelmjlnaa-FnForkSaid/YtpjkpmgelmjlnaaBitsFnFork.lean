/- What the printed functions of stacks and forks tell, in terms of the list of a stack's bits: for the law FnFork. -/
import Derived.Test.YtpjkpmgelmjlnaaGx
import Derived.Test.YtpjkpmgelmjlnaaBitMath
import Derived.Test.YtpjkpmgelmjlnaaTell
namespace Go.Proofs.Ytpjkpmgelmjlnaa.BFnFork
open Go Go.RowKit Go.Proofs.Ytpjkpmgelmjlnaa.BitMath Go.Proofs.Ytpjkpmgelmjlnaa.Tell Go.Proofs.Ytpjkpmgelmjlnaa.G Go.Proofs.YtpjkpmgelmjlnaaW.PrintWords Go.Proofs.YtpjkpmgelmjlnaaW.PrintLast Go.Proofs.YtpjkpmgelmjlnaaW.PrintMore
set_option linter.unusedVariables false
set_option linter.unusedSimpArgs false

theorem in_eq (a l h : Int) : impl_in.f a l h = some (decide (l ≤ a ∧ a ≤ h)) := by
  unfold impl_in.f
  by_cases c : l ≤ a
  · rw [if_pos c]; simp [c]
  · rw [if_neg c]; simp [c]

theorem impl_ForkOk_eq (b n : Int) (h0 : 0 ≤ b) (h1 : b < 256) : impl_ForkOk.f b n = some (ok 8 b n) := by
  unfold impl_ForkOk.f
  rw [in_eq, Option.bind_some]
  by_cases c : 0 ≤ n ∧ n ≤ 8
  · rw [if_pos (decide_eq_true c), if_pos c.1]
    obtain ⟨n, rfl⟩ := Int.eq_ofNat_of_zero_le c.1
    obtain ⟨b, rfl⟩ := Int.eq_ofNat_of_zero_le h0
    have hn : n ≤ 8 := by omega
    have hw : IntKind.u64.wrap (b : Int) = b := by rw [wrap_u64]; exact Int.emod_eq_of_lt (by omega) (by omega)
    unfold shr ok
    have hm : min (Int.toNat (n : Int)) IntKind.u64.bits = n := by rw [Int.toNat_natCast]; exact Nat.min_eq_left (by show n ≤ 64; omega)
    rw [hw, hm, Int.toNat_natCast]
    have e : ((b : Int) / 2 ^ n == 0) = decide (b < 2 ^ n) := by
      rw [Bool.eq_iff_iff]; simp only [beq_iff_eq, decide_eq_true_eq]
      rw [show ((b : Int) / 2 ^ n) = ((b / 2 ^ n : Nat) : Int) by simp]
      have := Nat.div_eq_zero_iff (a := b) (b := 2 ^ n)
      have hp := Nat.two_pow_pos n
      omega
    rw [e]
    congr 1
    rw [Bool.eq_iff_iff]; simp only [decide_eq_true_eq]
    constructor
    · intro h; exact ⟨by omega, by omega, by exact_mod_cast h⟩
    · intro h; exact_mod_cast h.2.2
  · rw [if_neg (by simp [c])]
    unfold ok
    rw [decide_eq_false (fun h => c ⟨h.1, h.2.1⟩)]

theorem impl_BitFork_taken_eq (b n : Int) (h0 : 0 ≤ b) (h1 : b < 256) : impl_BitFork_taken.f b n = some ((val (lst 8 b n) : Int), ((lst 8 b n).length : Int)) := by
  unfold impl_BitFork_taken.f
  rw [impl_ForkOk_eq b n h0 h1, Option.bind_some]
  cases c : ok 8 b n
  · rw [if_neg (by decide), lst_of_not c]; rfl
  · rw [if_pos rfl, (lst_of_ok h0 c).1, (lst_of_ok h0 c).2]

theorem bit_eq (c : Bool) : impl_bit.f c = some ((c.toNat : Nat) : Int) := by cases c <;> rfl

theorem impl_ForkPush_eq (b n : Int) (c : Bool) (h0 : 0 ≤ b) (h1 : b < 256) : impl_ForkPush.f b n c = some (stkB 8 (lst 8 b n ++ [c]), stkN 8 (lst 8 b n ++ [c])) := by
  unfold impl_ForkPush.f
  rw [impl_BitFork_taken_eq b n h0 h1, Option.bind_some, bit_eq, Option.bind_some]
  generalize hL : lst 8 b n = L
  have hl : L.length ≤ 8 := by rw [← hL]; exact lst_length_le _ _ _
  have hv := val8 hl
  obtain ⟨e1, e2⟩ := stk_push c hl
  have e1 : stkB 8 (L ++ [c]) = (2 * val L + c.toNat) % 256 := e1
  have hc : c.toNat < 2 := by cases c <;> decide
  congr 1; congr 1
  · rw [e1]; 
    generalize val L = v at *
    rw [u8_or1 _ _ (by omega) (by omega) (by omega) (by omega) (by omega)]
    omega
  · rw [e2]; unfold mn wrap64
    dsimp only
    split <;> omega

theorem impl_ForkPop_eq (b n : Int) (h0 : 0 ≤ b) (h1 : b < 256) : impl_ForkPop.f b n = some ((val (lst 8 b n).dropLast : Int), ((lst 8 b n).dropLast.length : Int), (lst 8 b n).getLastD false) := by
  unfold impl_ForkPop.f
  rw [impl_BitFork_taken_eq b n h0 h1, Option.bind_some]
  generalize hL : lst 8 b n = L
  have hl : L.length ≤ 8 := by rw [← hL]; exact lst_length_le _ _ _
  have hv := val8 hl
  clear hL
  induction L using snoc_cases with
  | h0 => rfl
  | h1 L c ih =>
    dsimp only
    rw [if_neg (by simp; omega), u8_and1 _ (by omega) (by omega)]
    rw [val_snoc] at *
    simp only [List.dropLast_concat, List.length_append, List.length_cons, List.length_nil] at *
    have hc : c.toNat < 2 := by cases c <;> decide
    have hg : (L ++ [c]).getLastD false = c := by simp [List.getLastD_eq_getLast?]
    rw [hg]
    congr 1; congr 1
    · omega
    congr 1
    · unfold wrap64; omega
    · rw [Bool.eq_iff_iff]; simp only [beq_iff_eq]
      cases c <;> simp <;> omega

theorem impl_ForkTop_eq (b n : Int) (h0 : 0 ≤ b) (h1 : b < 256) : impl_ForkTop.f b n = some ((lst 8 b n).getLastD false) := by
  unfold impl_ForkTop.f
  rw [impl_BitFork_taken_eq b n h0 h1, Option.bind_some]
  generalize hL : lst 8 b n = L
  have hl : L.length ≤ 8 := by rw [← hL]; exact lst_length_le _ _ _
  have hv := val8 hl
  clear hL
  dsimp only
  rw [u8_and1 _ (by omega) (by omega)]
  induction L using snoc_cases with
  | h0 => rfl
  | h1 L c ih =>
    rw [val_snoc]
    have hc : c.toNat < 2 := by cases c <;> decide
    have hg : (L ++ [c]).getLastD false = c := by simp [List.getLastD_eq_getLast?]
    rw [hg]
    congr 1
    rw [Bool.eq_iff_iff]; simp only [beq_iff_eq]
    cases c <;> simp <;> omega

theorem spec_BitOk_loop (b : Int) (n : Nat) (hn : n ≤ 16) (d : Nat) : ∀ i : Nat, n - i = d → i ≤ n →
    Ev (fun k => spec_BitOk.l0 k (2 ^ i) (i : Int) b (n : Int)) (decide (wrap64 b < 2 ^ n)) := by
  induction d with
  | zero =>
    intro i hd hi
    obtain rfl : i = n := by omega
    refine Ev.step (f := fun _ => some _) (fun k => ?_) (Ev.now _)
    simp only [spec_BitOk.l0]
    rw [if_neg (by omega)]
  | succ d ih =>
    intro i hd hi
    refine Ev.step (fun k => ?_) (ih (i + 1) (by omega) (by omega))
    simp only [spec_BitOk.l0]
    have hp' : ((2 : Int) ^ i) ≤ 65536 := ipow16 (by omega)
    have hp0 : (0 : Int) < 2 ^ i := Int.pow_pos (by decide)
    have hw2 : wrap64 ((i : Int) + 1) = ((i + 1 : Nat) : Int) := by unfold wrap64; omega
    have hw : wrap64 ((2 : Int) ^ i * 2) = 2 ^ (i + 1) := by rw [Int.pow_succ]; unfold wrap64; omega
    rw [if_pos (by omega), hw2, hw]
theorem spec_BitOk_ev (b n : Int) (h0 : 0 ≤ b) (h1 : b < 65536) : Ev (fun k => spec_BitOk.f k b n) (ok 16 b n) := by
  unfold spec_BitOk.f
  by_cases c : n < 0
  · refine Ev.step (f := fun _ => some false) (fun k => ?_) ?_
    · rw [if_pos c]; simp only [spec_BitOk.j0]; rfl
    · have : ok 16 b n = false := by unfold ok; exact decide_eq_false (by omega)
      rw [this]; exact Ev.now _
  · by_cases c2 : n > 16
    · refine Ev.step (f := fun _ => some false) (fun k => ?_) ?_
      · rw [if_neg c, decide_eq_true c2]; simp only [spec_BitOk.j0]; rfl
      · have : ok 16 b n = false := by unfold ok; exact decide_eq_false (by omega)
        rw [this]; exact Ev.now _
    · obtain ⟨n, rfl⟩ := Int.eq_ofNat_of_zero_le (show 0 ≤ n by omega)
      refine Ev.step (f := fun k => spec_BitOk.l0 k (2 ^ 0) ((0 : Nat) : Int) b (n : Int)) (fun k => ?_) ?_
      · rw [if_neg c, decide_eq_false c2]; simp only [spec_BitOk.j0]; rfl
      · have h := spec_BitOk_loop b n (by omega) n 0 (by omega) (by omega)
        have hw : wrap64 b = b := by unfold wrap64; omega
        rw [hw] at h
        have e : ok 16 b (n : Int) = decide (b < 2 ^ n) := by
          unfold ok
          rw [Int.toNat_natCast]
          by_cases hlt : b < 2 ^ n
          · rw [decide_eq_true hlt]; exact decide_eq_true ⟨by omega, by omega, hlt⟩
          · rw [decide_eq_false hlt]; exact decide_eq_false (fun h => hlt h.2.2)
        rw [e]; exact h

theorem spec_l1Power_loop (n : Nat) (hn : n ≤ 15) (d : Nat) : ∀ i : Nat, n - i = d → i ≤ n →
    Ev (fun k => spec_l1Power.l0 k (n : Int) (2 ^ i) (i : Int)) (2 ^ n) := by
  induction d with
  | zero =>
    intro i hd hi
    obtain rfl : i = n := by omega
    refine Ev.step (f := fun _ => some _) (fun k => ?_) (Ev.now _)
    simp only [spec_l1Power.l0]
    rw [if_neg (by omega)]
  | succ d ih =>
    intro i hd hi
    refine Ev.step (fun k => ?_) (ih (i + 1) (by omega) (by omega))
    simp only [spec_l1Power.l0]
    have hp' : ((2 : Int) ^ (i + 1)) ≤ 32768 := ipow15 (by omega)
    have hp0 : (0 : Int) < 2 ^ i := Int.pow_pos (by decide)
    rw [Int.pow_succ] at hp'
    have hw2 : wrap64 ((i : Int) + 1) = ((i + 1 : Nat) : Int) := by unfold wrap64; omega
    have hw : IntKind.u16.wrap ((2 : Int) ^ i * 2) = 2 ^ (i + 1) := by rw [Int.pow_succ, wrap_u16]; exact Int.emod_eq_of_lt (by omega) (by omega)
    rw [if_pos (by omega), hw2, hw]
theorem spec_l1Power_ev (n : Nat) (hn : n ≤ 15) : Ev (fun k => spec_l1Power.f k (n : Int)) (2 ^ n) := spec_l1Power_loop n hn n 0 (by omega) (by omega)

theorem spec_BitList_loop (b n : Nat) (hb : b < 65536) (hn : n ≤ 16) (d : Nat) : d ≤ n →
    Ev (fun k => spec_BitList.l0 k (bl (b / 2 ^ d) (n - d)) ((d : Int) - 1) (b : Int) (n : Int)) (bl b n) := by
  induction d with
  | zero =>
    intro hd
    refine Ev.step (f := fun _ => some _) (fun k => ?_) (Ev.now _)
    simp only [spec_BitList.l0]
    rw [if_neg (by omega)]
    simp
  | succ d ih =>
    intro hd
    have hp := spec_l1Power_ev d (by omega)
    refine Ev.step (f := fun k => (spec_l1Power.f k (d : Int)).bind fun t121 => (if t121 = 0 then (none) else (if (bl (b / 2 ^ (d + 1)) (n - (d + 1))).length < 140737488355328 then (spec_BitList.l0 k ((bl (b / 2 ^ (d + 1)) (n - (d + 1))) ++ [((Int.tmod (IntKind.u16.wrap (Int.tdiv (b : Int) t121)) 2) == 1)]) (wrap64 ((d : Int) - 1)) (b : Int) (n : Int)) else (none)))) (fun k => ?_) ?_
    · simp only [spec_BitList.l0]
      rw [show (((d + 1 : Nat) : Int) - 1) = (d : Int) by omega, if_pos (by omega)]
    · refine Ev.bind hp ?_
      refine Ev.congr (fun k => ?_) (ih (by omega))
      have hp0 : (0 : Int) < 2 ^ d := Int.pow_pos (by decide)
      rw [if_neg (by omega), if_pos (by rw [bl_length]; omega)]
      have hw : wrap64 ((d : Int) - 1) = (d : Int) - 1 := by unfold wrap64; omega
      rw [hw]
      congr 1
      obtain ⟨m, hm⟩ : ∃ m, n - d = m + 1 := ⟨n - d - 1, by omega⟩
      have hm2 : n - (d + 1) = m := by omega
      have hlt : b / 2 ^ d < 65536 := Nat.lt_of_le_of_lt (Nat.div_le_self _ _) hb
      have e : Int.tdiv (b : Int) (2 ^ d) = ((b / 2 ^ d : Nat) : Int) := by
        rw [show ((2 : Int) ^ d) = ((2 ^ d : Nat) : Int) by simp]; exact Int.ofNat_tdiv b (2 ^ d) |>.symm
      rw [hm, hm2, bl, Nat.div_div_eq_div_mul, ← Nat.pow_succ, e, wrap_u16]
      generalize b / 2 ^ d = q at hlt
      rw [Int.emod_eq_of_lt (by omega) (by omega)]
      congr 2
      rw [Bool.eq_iff_iff]; simp only [beq_iff_eq]
      rw [Int.tmod_eq_emod_of_nonneg (by omega)]; omega
theorem spec_BitList_ev (b n : Int) (h0 : 0 ≤ b) (h1 : b < 65536) : Ev (fun k => spec_BitList.f k b n) (lst 16 b n) := by
  unfold spec_BitList.f
  simp only [Option.bind_some]
  refine Ev.bind (spec_BitOk_ev b n h0 h1) ?_
  cases c : ok 16 b n
  · rw [lst_of_not c]; exact Ev.now _
  · unfold lst
    rw [if_pos c]
    have c' := of_decide_eq_true c
    obtain ⟨n, rfl⟩ := Int.eq_ofNat_of_zero_le c'.1
    obtain ⟨b, rfl⟩ := Int.eq_ofNat_of_zero_le h0
    rw [Int.toNat_natCast, Int.toNat_natCast]
    have h := spec_BitList_loop b n (by omega) (by omega) n (Nat.le_refl _)
    rw [Nat.sub_self] at h
    refine Ev.congr (fun k => ?_) h
    have hw : wrap64 ((n : Int) - 1) = (n : Int) - 1 := by unfold wrap64; omega
    rw [if_pos rfl, hw]; rfl

theorem spec_l1Stack_loop (l : List Bool) (hl : l.length ≤ 1099511627776) (d : Nat) : ∀ m : Nat, 16 - m = d → m ≤ 16 → m ≤ l.length →
    Ev (fun k => spec_l1Stack.l0 k l (2 ^ m % 65536) ((l.length : Int) - 1 - m) (val (l.drop (l.length - m)) : Int) (m : Int)) (stkB 16 l, stkN 16 l) := by
  induction d with
  | zero =>
    intro m hd hm hml
    obtain rfl : m = 16 := by omega
    refine Ev.step (f := fun k => spec_l1Stack.j1 k l (2 ^ 16 % 65536) ((l.length : Int) - 1 - (16 : Nat)) false (val (l.drop (l.length - 16)) : Int) ((16 : Nat) : Int)) (fun k => ?_) ?_
    · simp only [spec_l1Stack.l0]
      split <;> rfl
    · refine Ev.step (f := fun _ => some _) (fun k => ?_) (Ev.now _)
      simp only [spec_l1Stack.j1, stkB, stkN]
      rw [Nat.min_eq_left hml]; rfl
  | succ d ih =>
    intro m hd hm hml
    by_cases c : m < l.length
    · refine Ev.step (f := fun k => spec_l1Stack.j1 k l (2 ^ m % 65536) ((l.length : Int) - 1 - m) true (val (l.drop (l.length - m)) : Int) (m : Int)) (fun k => ?_) ?_
      · simp only [spec_l1Stack.l0]
        rw [if_pos (by omega), decide_eq_true (by omega)]
      · refine Ev.step (fun k => ?_) (ih (m + 1) (by omega) (by omega) (by omega))
        simp only [spec_l1Stack.j1]
        rw [if_pos (by decide), if_pos (by omega), if_pos (by omega)]
        have hi : ((l.length : Int) - 1 - m).toNat = l.length - (m + 1) := by omega
        have hlt : l.length - (m + 1) < l.length := by omega
        have hr : rdOf false l ((l.length : Int) - 1 - m) = l[l.length - (m + 1)] := by
          unfold rdOf; rw [hi]; simp [List.getD_eq_getElem?_getD, hlt]
        have hdr : l.drop (l.length - (m + 1)) = l[l.length - (m + 1)] :: l.drop (l.length - m) := by
          rw [List.drop_eq_getElem_cons hlt, show l.length - (m + 1) + 1 = l.length - m by omega]
        have hdl : (l.drop (l.length - m)).length = m := by simp; omega
        have hv := val_lt (l.drop (l.length - m))
        rw [hdl] at hv
        have hp : 2 ^ (m + 1) ≤ 65536 := pow16 (by omega)
        rw [Nat.pow_succ] at hp
        have hpe : (2 ^ m % 65536 : Int) = ((2 ^ m : Nat) : Int) := by
          rw [show ((2 : Int) ^ m) = ((2 ^ m : Nat) : Int) by simp]; omega
        have w1 : wrap64 ((l.length : Int) - 1 - m - 1) = (l.length : Int) - 1 - ((m + 1 : Nat) : Int) := by unfold wrap64; omega
        have w2 : wrap64 ((m : Int) + 1) = ((m + 1 : Nat) : Int) := by unfold wrap64; omega
        have w3 : IntKind.u16.wrap ((2 ^ m % 65536 : Int) * 2) = 2 ^ (m + 1) % 65536 := by
          rw [wrap_u16, hpe, show ((2 : Int) ^ (m + 1)) = ((2 ^ m * 2 : Nat) : Int) by simp [Int.pow_succ]]; omega
        rw [hr, hdr, val_cons, hdl, w1, w2, w3, hpe]
        cases l[l.length - (m + 1)]
        · rw [if_neg (by decide)]; simp
        · rw [if_pos rfl]
          have w4 : IntKind.u16.wrap ((val (l.drop (l.length - m)) : Int) + ((2 ^ m : Nat) : Int)) = ((true.toNat * 2 ^ m + val (l.drop (l.length - m)) : Nat) : Int) := by
            have : true.toNat = 1 := rfl
            rw [this, Nat.one_mul, wrap_u16]
            omega
          rw [w4]
    · obtain rfl : m = l.length := by omega
      refine Ev.step (f := fun k => spec_l1Stack.j1 k l (2 ^ l.length % 65536) ((l.length : Int) - 1 - l.length) false (val (l.drop (l.length - l.length)) : Int) (l.length : Int)) (fun k => ?_) ?_
      · simp only [spec_l1Stack.l0]
        rw [if_neg (by omega)]
      · refine Ev.step (f := fun _ => some _) (fun k => ?_) (Ev.now _)
        simp only [spec_l1Stack.j1, stkB, stkN]
        rw [Nat.min_eq_right hm, Nat.sub_self, Nat.sub_eq_zero_of_le hm]; rfl
theorem spec_l1Stack_ev (l : List Bool) (hl : l.length ≤ 1099511627776) : Ev (fun k => spec_l1Stack.f k l) (stkB 16 l, stkN 16 l) := by
  have h := spec_l1Stack_loop l hl 16 0 (by omega) (by omega) (by omega)
  refine Ev.congr (fun k => ?_) h
  unfold spec_l1Stack.f
  have w1 : wrap64 ((l.length : Int) - 1) = (l.length : Int) - 1 - ((0 : Nat) : Int) := by unfold wrap64; omega
  rw [w1]; simp [val_nil]

theorem spec_BitPush_ev (b n : Int) (c : Bool) (h0 : 0 ≤ b) (h1 : b < 65536) : Ev (fun k => spec_BitPush.f k b n c) (stkB 16 (lst 16 b n ++ [c]), stkN 16 (lst 16 b n ++ [c])) := by
  unfold spec_BitPush.f
  refine Ev.bind (spec_BitList_ev b n h0 h1) ?_
  have hl := lst_length_le 16 b n
  simp only [if_pos (show (lst 16 b n).length < 140737488355328 by omega)]
  exact Ev.bind (spec_l1Stack_ev _ (by simp; omega)) (Ev.now _)

theorem spec_ForkOk_ev (b n : Int) (h0 : 0 ≤ b) (h1 : b < 256) : Ev (fun k => spec_ForkOk.f k b n) (ok 8 b n) := by
  unfold spec_ForkOk.f
  by_cases c : n ≤ 8
  · have e : ok 8 b n = ok 16 b n := by
      unfold ok; rw [Bool.eq_iff_iff]; simp only [decide_eq_true_eq]; omega
    rw [e]
    have hw : IntKind.u16.wrap b = b := by rw [wrap_u16]; omega
    have hk : Ev (fun k => spec_BitOk.f k (IntKind.u16.wrap b) n) (ok 16 b n) := by rw [hw]; exact spec_BitOk_ev b n h0 (by omega)
    refine Ev.congr (fun k => ?_) (Ev.bind hk (f := fun _ t => some t) (Ev.now _))
    rw [if_pos c]
  · have e : ok 8 b n = false := by unfold ok; exact decide_eq_false (by omega)
    rw [e]
    refine Ev.congr (fun k => ?_) (Ev.now false)
    rw [if_neg c]

theorem spec_l1Wide_ev (b n : Int) (h0 : 0 ≤ b) (h1 : b < 256) : Ev (fun k => spec_l1Wide.f k b n) ((val (lst 8 b n) : Int), ((lst 8 b n).length : Int)) := by
  unfold spec_l1Wide.f
  refine Ev.bind (spec_ForkOk_ev b n h0 h1) ?_
  cases c : ok 8 b n
  · rw [lst_of_not c]; exact Ev.now _
  · have hw : IntKind.u16.wrap b = b := by rw [wrap_u16]; omega
    rw [(lst_of_ok h0 c).1, (lst_of_ok h0 c).2]
    refine Ev.congr (fun k => ?_) (Ev.now _)
    simp [hw]

theorem spec_l1Small_eq (l : List Bool) : spec_l1Small.f (stkB 16 l) (stkN 16 l) = some (stkB 8 l, stkN 8 l) := by
  have hb : 0 ≤ stkB 16 l := by unfold stkB; omega
  have e1 : stkB 16 l % 256 = stkB 8 l := by
    unfold stkB
    by_cases h : l.length ≤ 8
    · rw [Nat.sub_eq_zero_of_le h, Nat.sub_eq_zero_of_le (by omega), List.drop_zero]
      have := val8 h; omega
    · have h8 := val_drop l 8 (by omega)
      by_cases h2 : l.length ≤ 16
      · rw [h8, Nat.sub_eq_zero_of_le h2, List.drop_zero]; omega
      · have h16 := val_drop l 16 (by omega)
        rw [h8, h16]; omega
  have e2 : (if stkN 16 l > 8 then (8 : Int) else stkN 16 l) = stkN 8 l := by unfold stkN; split <;> omega
  have e3 : Int.tmod (stkB 16 l) 256 % 256 = stkB 8 l := by rw [Int.tmod_eq_emod_of_nonneg hb]; omega
  unfold spec_l1Small.f
  rw [e3, ← e2]
  split <;> rfl

theorem spec_ForkPush_ev (b n : Int) (c : Bool) (h0 : 0 ≤ b) (h1 : b < 256) : Ev (fun k => spec_ForkPush.f k b n c) (stkB 8 (lst 8 b n ++ [c]), stkN 8 (lst 8 b n ++ [c])) := by
  unfold spec_ForkPush.f
  refine Ev.bind (spec_l1Wide_ev b n h0 h1) ?_
  have hl := lst_length_le 8 b n
  have hv := val8 hl
  have hp := spec_BitPush_ev (val (lst 8 b n) : Int) ((lst 8 b n).length : Int) c (by omega) (by omega)
  rw [lst_of_list (by omega)] at hp
  refine Ev.bind hp ?_
  simp only [spec_l1Small_eq, Option.bind_some]
  exact Ev.now _

theorem open_tells (l : List Int) (hl : Bytes l) (hn : l.length ≤ 1048576) : ∃ b : List Int, spec_l26Open.f l = some (b, 0) ∧ Bytes b ∧ b.length ≤ 2000 := by
  unfold spec_l26Open.f
  by_cases c : (l.length : Int) > 2000
  · refine ⟨l.take 2000, ?_, bytes_take hl _, by simp; omega⟩
    rw [if_pos c, if_pos (by omega)]
  · exact ⟨l, by rw [if_neg c], hl, by omega⟩

theorem pick_tells {b : List Int} (hb : Bytes b) (hl : b.length ≤ 2000) {p n : Int} (hp0 : 0 ≤ p) (hp : p ≤ 1000000000) (hn : 1 ≤ n) (hn2 : n ≤ 1000000000) :
    Tells (fun k => spec_l26Rd_pick.f k b p n) (fun r => 0 ≤ r.1 ∧ r.1 < n ∧ r.2 = p + 1) := by
  have w1 : wrap64 (p + 1) = p + 1 := wrap64_in (by omega) (by omega)
  have w2 : wrap64 (p + 1 - 1) = p := by unfold wrap64; omega
  refine Tells.step (f := fun _ => ?f) (fun k => ?_) ?_
  case f => exact spec_l26Rd_pick.j0 1 n ((b.length : Int) == 0) b (p + 1)
  · unfold spec_l26Rd_pick.f
    rw [if_neg (by omega), w1]
    simp only [spec_l26Rd_pick.j0]
  · simp only [spec_l26Rd_pick.j0]
    by_cases c0 : (b.length : Int) = 0
    · rw [if_pos (by simpa using c0)]
      exact Tells.now ⟨by omega, by omega, rfl⟩
    · rw [if_neg (by simpa using c0), w2]
      have hlen : 0 < (b.length : Int) := by omega
      by_cases c1 : p < (b.length : Int)
      · rw [if_pos c1, if_pos hp0, if_neg (by omega)]
        have hr := rd_byte hb p
        rw [wrap64_in (by omega) (by omega)]
        have ht := tmod_range (rd b p) n hr.1 (by omega)
        exact Tells.now ⟨ht.1, ht.2, rfl⟩
      · rw [if_neg c1, if_neg c0]
        have w3 : wrap64 (wrap64 (p * 7) + 3) = p * 7 + 3 := by rw [wrap64_in (n := p * 7) (by omega) (by omega), wrap64_in (by omega) (by omega)]
        have h1 := tmod_range p b.length hp0 hlen
        have h2 := tmod_range (p * 7 + 3) b.length (by omega) hlen
        rw [w3, if_pos h1.1, if_pos h1.2, if_pos h2.1, if_pos h2.2, if_neg (by omega)]
        have r1 := rd_byte hb (Int.tmod p (b.length : Int))
        have r2 := rd_byte hb (Int.tmod (p * 7 + 3) (b.length : Int))
        have hd0 : 0 ≤ Int.tdiv p (b.length : Int) := Int.tdiv_nonneg hp0 (by omega)
        have hd1 : Int.tdiv p (b.length : Int) ≤ p := by
          rw [Int.tdiv_eq_ediv_of_nonneg hp0]; exact Int.ediv_le_self _ hp0
        generalize rd b (Int.tmod p (b.length : Int)) = x1 at r1
        generalize rd b (Int.tmod (p * 7 + 3) (b.length : Int)) = x2 at r2
        generalize Int.tdiv p (b.length : Int) = x3 at hd0 hd1
        have e1 : wrap64 (wrap64 x1 * 131) = x1 * 131 := by rw [wrap64_in (n := x1) (by omega) (by omega), wrap64_in (by omega) (by omega)]
        have e2 : wrap64 (wrap64 x2 * 1117) = x2 * 1117 := by rw [wrap64_in (n := x2) (by omega) (by omega), wrap64_in (by omega) (by omega)]
        have e3 : wrap64 (p * 29) = p * 29 := wrap64_in (by omega) (by omega)
        have e4 : wrap64 (wrap64 x3 * 53) = x3 * 53 := by rw [wrap64_in (n := x3) (by omega) (by omega), wrap64_in (by omega) (by omega)]
        have e5 : wrap64 (x1 * 131 + x2 * 1117) = x1 * 131 + x2 * 1117 := wrap64_in (by omega) (by omega)
        have e6 : wrap64 (x1 * 131 + x2 * 1117 + p * 29) = x1 * 131 + x2 * 1117 + p * 29 := wrap64_in (by omega) (by omega)
        have e7 : wrap64 (x1 * 131 + x2 * 1117 + p * 29 + x3 * 53) = x1 * 131 + x2 * 1117 + p * 29 + x3 * 53 := wrap64_in (by omega) (by omega)
        simp only [e1, e2, e3, e4, e5, e6, e7]
        have hy0 : 0 ≤ x1 * 131 + x2 * 1117 + p * 29 + x3 * 53 := by omega
        have hy1 : x1 * 131 + x2 * 1117 + p * 29 + x3 * 53 < 4611686018427387904 := by omega
        generalize x1 * 131 + x2 * 1117 + p * 29 + x3 * 53 = y at hy0 hy1
        have e8 : wrap64 (Int.tdiv y 64) = y / 64 := by rw [Int.tdiv_eq_ediv_of_nonneg hy0]; exact wrap64_in (by omega) (by omega)
        rw [e8]
        have hx := xor_nonneg y (y / 64) hy0 hy1 (by omega) (by omega)
        have ht := tmod_range _ n hx (by omega)
        exact Tells.now ⟨ht.1, ht.2, rfl⟩

theorem num_tells {b : List Int} (hb : Bytes b) (hl : b.length ≤ 2000) {p : Int} (hp0 : 0 ≤ p) (hp : p ≤ 1000000000) (xs : List Int) (h1 : 1 ≤ xs.length) (h2 : xs.length ≤ 1000) :
    Tells (fun k => spec_l26Rd_num.f k b p xs) (fun r => r.1 ∈ xs ∧ r.2 = p + 1) := by
  unfold spec_l26Rd_num.f
  refine Tells.bind (pick_tells hb hl hp0 hp (n := (xs.length : Int)) (by omega) (by omega)) ?_
  rintro ⟨v, q⟩ ⟨h3, h4, h5⟩
  dsimp only at h3 h4 h5 ⊢
  rw [if_pos h3, if_pos h4]
  refine Tells.now ⟨?_, h5⟩
  unfold rd
  have hi : v.toNat < xs.length := by omega
  dsimp only
  rw [List.getD_eq_getElem?_getD, List.getElem?_eq_getElem hi]
  exact List.getElem_mem hi

theorem l1Draw_loop {b : List Int} (hb : Bytes b) (hl : b.length ≤ 2000) (n : Nat) (hn : n ≤ 17) (d : Nat) : ∀ (i : Nat) (list : List Bool) (p : Int), n - i = d → list.length ≤ 20 → i ≤ n → list.length = i → 0 ≤ p → p + d ≤ 1000000 →
    Tells (fun k => spec_l1Draw.l0 k list (n : Int) (i : Int) b p) (fun r => 0 ≤ r.1 ∧ r.1 < 65536 ∧ 0 ≤ r.2.2 ∧ r.2.2 ≤ p + d + 3) := by
  induction d with
  | zero =>
    intro i list p hd hll hi hli hp0 hp
    refine Tells.step (f := fun k => (spec_l1Stack.f k list).bind fun bt447 => ((spec_l26Rd_pick.f k b p 20).bind fun bt450 => (if bt450.1 = 0 then ((spec_l26Rd_num.f k b bt450.2 (([(-1), 0, 17, 16, 1, (-9223372036854775807), 9223372036854775807] : List Int))).bind fun bt455 => (some (bt447.1, bt455.1, bt455.2))) else (if bt450.1 = 1 then ((spec_l26Rd_pick.f k b bt450.2 256).bind fun bt457 => ((spec_l26Rd_pick.f k b bt457.2 256).bind fun bt459 => (some (IntKind.u16.wrap (wrap64 ((wrap64 (bt457.1 * 256)) + bt459.1)), bt447.2, bt459.2)))) else (some (bt447.1, bt447.2, bt450.2)))))) (fun k => ?_) ?_
    · simp only [spec_l1Draw.l0]
      rw [if_neg (by omega)]
    · refine Tells.bindEv (spec_l1Stack_ev list (by omega)) ?_
      have hs0 : 0 ≤ stkB 16 list := by unfold stkB; omega
      have hs1 : stkB 16 list < 65536 := by
        unfold stkB
        have := val16 (l := list.drop (list.length - 16)) (by simp; omega)
        omega
      refine Tells.bind (pick_tells hb hl hp0 (by omega) (by omega) (by omega)) ?_
      rintro ⟨v, q⟩ ⟨h3, h4, h5⟩
      dsimp only at h3 h4 h5 ⊢
      subst h5
      by_cases c0 : v = 0
      · simp only [if_pos c0]
        refine Tells.bind (num_tells hb hl (by omega) (by omega) _ (by decide) (by decide)) ?_
        rintro ⟨v, q⟩ ⟨h3, h4⟩
        dsimp only at h3 h4 ⊢
        exact Tells.now ⟨hs0, hs1, by dsimp only; omega, by dsimp only; omega⟩
      · by_cases c1 : v = 1
        · simp only [if_neg c0, if_pos c1]
          refine Tells.bind (pick_tells hb hl (by omega) (by omega) (by omega) (by omega)) ?_
          rintro ⟨v, q⟩ ⟨h3, h4, h5⟩
          dsimp only at h3 h4 h5 ⊢
          subst h5
          refine Tells.bind (pick_tells hb hl (by omega) (by omega) (by omega) (by omega)) ?_
          rintro ⟨u, q⟩ ⟨h6, h7, h8⟩
          dsimp only at h6 h7 h8 ⊢
          subst h8
          refine Tells.now ⟨?_, ?_, by dsimp only; omega, by dsimp only; omega⟩
          all_goals (dsimp only; rw [wrap_u16]; omega)
        · simp only [if_neg c0, if_neg c1]
          exact Tells.now ⟨hs0, hs1, by dsimp only; omega, by dsimp only; omega⟩
  | succ d ih =>
    intro i list p hd hll hi hli hp0 hp
    refine Tells.step (f := fun k => (spec_l26Rd_pick.f k b p 2).bind fun bt442 => (if list.length < 140737488355328 then (spec_l1Draw.l0 k (list ++ [(bt442.1 == 1)]) (n : Int) (wrap64 ((i : Int) + 1)) b bt442.2) else (none))) (fun k => ?_) ?_
    · simp only [spec_l1Draw.l0]
      rw [if_pos (by omega)]
    · refine Tells.bind (pick_tells hb hl hp0 (by omega) (by omega) (by omega)) ?_
      rintro ⟨v, q⟩ ⟨h3, h4, h5⟩
      dsimp only at h3 h4 h5 ⊢
      subst h5
      have w : wrap64 ((i : Int) + 1) = ((i + 1 : Nat) : Int) := by unfold wrap64; omega
      simp only [if_pos (show list.length < 140737488355328 by omega), w]
      exact (ih (i + 1) _ (p + 1) (by omega) (by simp; omega) (by omega) (by simp; omega) (by omega) (by omega)).mono (fun r hr => by omega)
theorem l1Draw_tells {b : List Int} (hb : Bytes b) (hl : b.length ≤ 2000) {p : Int} (hp0 : 0 ≤ p) (hp : p ≤ 100000) :
    Tells (fun k => spec_l1Draw.f k b p) (fun r => 0 ≤ r.1 ∧ r.1 < 65536 ∧ 0 ≤ r.2.2 ∧ r.2.2 ≤ p + 100) := by
  unfold spec_l1Draw.f
  simp only [Option.bind_some]
  refine Tells.bind (pick_tells hb hl hp0 (by omega) (by omega) (by omega)) ?_
  rintro ⟨v, q⟩ ⟨h3, h4, h5⟩
  dsimp only at h3 h4 h5 ⊢
  subst h5
  refine Tells.bind (pick_tells hb hl (by omega) (by omega) (by omega) (by omega)) ?_
  rintro ⟨u, q⟩ ⟨h6, h7, h8⟩
  dsimp only at h6 h7 h8 ⊢
  subst h8
  by_cases c0 : u = 0
  · simp only [if_pos c0]
    refine Tells.bind (num_tells hb hl (by omega) (by omega) _ (by decide) (by decide)) ?_
    rintro ⟨x, q⟩ ⟨h3, h4⟩
    dsimp only at h3 h4 ⊢
    subst h4
    obtain ⟨m, rfl, hm⟩ : ∃ m : Nat, x = (m : Int) ∧ m ≤ 17 := ⟨x.toNat, by simp at h3; omega, by simp at h3; omega⟩
    refine Tells.step (fun k => ?_) ((l1Draw_loop hb hl m hm m 0 [] (p + 1 + 1 + 1) (by omega) (by simp) (by omega) rfl (by omega) (by omega)).mono (fun r hr => ?_))
    · simp only [spec_l1Draw.j0]; rfl
    · omega
  · simp only [if_neg c0]
    obtain ⟨m, rfl, hm⟩ : ∃ m : Nat, v = (m : Int) ∧ m ≤ 17 := ⟨v.toNat, by omega, by omega⟩
    refine Tells.step (fun k => ?_) ((l1Draw_loop hb hl m hm m 0 [] (p + 1 + 1) (by omega) (by simp) (by omega) rfl (by omega) (by omega)).mono (fun r hr => ?_))
    · simp only [spec_l1Draw.j0]; rfl
    · omega

theorem l1DrawFork_tells {b : List Int} (hb : Bytes b) (hl : b.length ≤ 2000) {p : Int} (hp0 : 0 ≤ p) (hp : p ≤ 10000) :
    Tells (fun k => spec_l1DrawFork.f k b p) (fun r => 0 ≤ r.1 ∧ r.1 < 256 ∧ 0 ≤ r.2.2 ∧ r.2.2 ≤ p + 200) := by
  unfold spec_l1DrawFork.f
  refine Tells.bind (l1Draw_tells hb hl hp0 (by omega)) ?_
  rintro ⟨x, y, z⟩ ⟨h1, h2, h3, h4⟩
  dsimp only at h1 h2 h3 h4 ⊢
  obtain ⟨s, hs, hs0, hs1⟩ : ∃ s, spec_l1Small.f x y = some s ∧ 0 ≤ s.1 ∧ s.1 < 256 := by
    unfold spec_l1Small.f
    split
    · exact ⟨_, rfl, by dsimp only; omega, by dsimp only; omega⟩
    · exact ⟨_, rfl, by dsimp only; omega, by dsimp only; omega⟩
  simp only [hs, Option.bind_some]
  refine Tells.bind (pick_tells hb hl (by omega) (by omega) (by omega) (by omega)) ?_
  rintro ⟨v, q⟩ ⟨h5, h6, h7⟩
  dsimp only at h5 h6 h7 ⊢
  subst h7
  by_cases c0 : v = 0
  · simp only [if_pos c0]
    refine Tells.bind (num_tells hb hl (by omega) (by omega) _ (by decide) (by decide)) ?_
    rintro ⟨v, q⟩ ⟨h8, h9⟩
    dsimp only at h8 h9 ⊢
    exact Tells.now ⟨hs0, hs1, by dsimp only; omega, by dsimp only; omega⟩
  · by_cases c1 : v = 1
    · simp only [if_neg c0, if_pos c1]
      refine Tells.bind (pick_tells hb hl (by omega) (by omega) (by omega) (by omega)) ?_
      rintro ⟨v, q⟩ ⟨h8, h9, h10⟩
      dsimp only at h8 h9 h10 ⊢
      exact Tells.now ⟨by dsimp only; omega, by dsimp only; omega, by dsimp only; omega, by dsimp only; omega⟩
    · simp only [if_neg c0, if_neg c1]
      exact Tells.now ⟨hs0, hs1, by dsimp only; omega, by dsimp only; omega⟩

theorem DrawForkPush_tells (l : List Int) (hl : Bytes l) (hn : l.length ≤ 1048576) : Tells (fun k => spec_DrawForkPush.f k l) (fun r => 0 ≤ r.1 ∧ r.1 < 256) := by
  obtain ⟨b, he, hb, hbl⟩ := open_tells l hl hn
  unfold spec_DrawForkPush.f
  simp only [he, Option.bind_some]
  refine Tells.bind (pick_tells hb hbl (by omega) (by omega) (by omega) (by omega)) ?_
  rintro ⟨u, q⟩ ⟨h6, h7, h8⟩
  dsimp only at h6 h7 h8 ⊢
  subst h8
  refine Tells.bind (l1DrawFork_tells hb hbl (by omega) (by omega)) ?_
  rintro ⟨x, y, z⟩ ⟨h1, h2, h3, h4⟩
  exact Tells.now ⟨h1, h2⟩

theorem FnFork : laws_FnFork.Pure := by
  intro l hm hs hw
  refine Tells.rounds ?_
  unfold laws_FnFork.f
  by_cases c : (l.length : Int) > 1048576
  · simp only [if_pos c]; exact Tells.now rfl
  · simp only [if_neg c]
    refine Tells.bind (DrawForkPush_tells l (bytes_of_wf hw) (by omega)) ?_
    rintro ⟨b, n, x⟩ ⟨h0, h1⟩
    dsimp only at h0 h1 ⊢
    have hL := lst_length_le 8 b n
    have hpush := impl_ForkPush_eq b n x h0 h1
    have hspush := spec_ForkPush_ev b n x h0 h1
    obtain ⟨M, hM, hMl, hMd⟩ : ∃ M : List Bool, stkB 8 (lst 8 b n ++ [x]) = (val (M ++ [x]) : Int) ∧ stkN 8 (lst 8 b n ++ [x]) = ((M ++ [x]).length : Int) ∧ (M ++ [x]).length ≤ 8 ∧ ((lst 8 b n).length < 8 → M = lst 8 b n) ∧ ((lst 8 b n).length = 8 → M.length = 7) := by
      by_cases h8 : (lst 8 b n).length < 8
      · have := stk_short (m := 8) (l := lst 8 b n ++ [x]) (by simp; omega)
        exact ⟨lst 8 b n, this.1, this.2, by simp; omega, fun _ => rfl, fun h => by omega⟩
      · refine ⟨(lst 8 b n).drop 1, ?_, ?_, by simp; omega, fun h => by omega, fun h => by simp; omega⟩
        · unfold stkB
          have : (lst 8 b n ++ [x]).length - 8 = 1 := by simp; omega
          rw [this, List.drop_append_of_le_length (by omega)]
        · unfold stkN; simp; omega
    obtain ⟨hMl8, hM1, hM2⟩ := hMd
    rw [hM, hMl] at hpush hspush
    have hv := val8 hMl8
    have hpop : impl_ForkPop.f (val (M ++ [x]) : Int) ((M ++ [x]).length : Int) = some ((val M : Int), (M.length : Int), x) := by
      rw [impl_ForkPop_eq _ _ (by omega) (by omega), lst_of_list hMl8]
      simp [List.getLastD_eq_getLast?]
    have hok : impl_ForkOk.f (val (M ++ [x]) : Int) ((M ++ [x]).length : Int) = some true := by rw [impl_ForkOk_eq _ _ (by omega) (by omega), ok_of_list hMl8]
    have htop : impl_ForkTop.f (val (M ++ [x]) : Int) ((M ++ [x]).length : Int) = some x := by
      rw [impl_ForkTop_eq _ _ (by omega) (by omega), lst_of_list hMl8]
      simp [List.getLastD_eq_getLast?]
    simp only [hpush, hpop, hok, htop, Option.bind_some, bne_self_eq_false, Bool.false_eq_true, if_false, if_true]
    refine Tells.bindEv hspush ?_
    simp only [beq_self_eq_true, Bool.not_true, Bool.or_self]
    have hMll : ((M ++ [x]).length : Int) = M.length + 1 := by simp
    have w : wrap64 (n + 1) = n + 1 ∨ ok 8 b n = false := by
      cases e : ok 8 b n
      · exact Or.inr rfl
      · have := of_decide_eq_true e
        exact Or.inl (wrap64_in (by omega) (by omega))
    refine Tells.step (f := fun k => (spec_ForkOk.f k b n).bind fun t571 => (if t571 = true then (if n = 8 then (if ((M ++ [x]).length : Int) = 8 then (some true) else (if ((val M : Int) == b && ((M.length : Int) == n)) = true then (some (((M ++ [x]).length : Int) == (wrap64 (n + 1)))) else (some false))) else (if ((val M : Int) == b && ((M.length : Int) == n)) = true then (some (((M ++ [x]).length : Int) == (wrap64 (n + 1)))) else (some false))) else (if ((M ++ [x]).length : Int) = 1 then (some ((val M : Int) == 0 && ((M.length : Int) == 0))) else (some false)))) (fun k => ?_) ?_
    · simp only [laws_FnFork.j0]
      rw [if_neg (by decide)]
    · refine Tells.bindEv (spec_ForkOk_ev b n h0 h1) ?_
      cases e : ok 8 b n
      · have hl0 := lst_of_not e
        rw [hl0] at hM1
        have hM0 := hM1 (by simp)
        subst hM0
        simp only [Bool.false_eq_true, if_false]
        exact Tells.now (by simp [val])
      · have h2 := lst_of_ok h0 e
        simp only [if_true]
        by_cases h8 : (lst 8 b n).length = 8
        · have h7 := hM2 h8
          simp only [if_pos (show n = 8 by omega), if_pos (show ((M ++ [x]).length : Int) = 8 by omega)]
          exact Tells.now rfl
        · have hM0 := hM1 (by omega)
          rw [hM0] at hMll ⊢
          rcases w with w | w
          · simp only [if_neg (show ¬ n = 8 by omega), h2.1, h2.2, beq_self_eq_true, Bool.and_self, if_true, w, hMll]
            exact Tells.now (by simp)
          · rw [w] at e; cases e

end Go.Proofs.Ytpjkpmgelmjlnaa.BFnFork
