/- What the printed functions of stacks and forks tell, in terms of the list of a stack's bits: for the law FnBitPlay. -/
import Derived.Test.YtpjkpmgelmjlnaaFx10
import Derived.Test.YtpjkpmgelmjlnaaFx4
import Derived.Test.YtpjkpmgelmjlnaaFx5
import Derived.Test.YtpjkpmgelmjlnaaFx6
import Derived.Test.YtpjkpmgelmjlnaaFx7
import Derived.Test.YtpjkpmgelmjlnaaFx8
import Derived.Test.YtpjkpmgelmjlnaaFx9
import Derived.Test.YtpjkpmgelmjlnaaBitMath
import Derived.Test.YtpjkpmgelmjlnaaTell
namespace Go.Proofs.Ytpjkpmgelmjlnaa.BFnBitPlay
open Go Go.RowKit Go.Proofs.Ytpjkpmgelmjlnaa.BitMath Go.Proofs.Ytpjkpmgelmjlnaa.Tell Go.Proofs.Ytpjkpmgelmjlnaa.F Go.Proofs.YtpjkpmgelmjlnaaW.PrintWords Go.Proofs.YtpjkpmgelmjlnaaW.PrintLast Go.Proofs.YtpjkpmgelmjlnaaW.PrintMore
set_option linter.unusedVariables false
set_option linter.unusedSimpArgs false

theorem in_eq (a l h : Int) : impl_in.f a l h = some (decide (l ≤ a ∧ a ≤ h)) := by
  unfold impl_in.f
  by_cases c : l ≤ a
  · rw [if_pos c]; simp [c]
  · rw [if_neg c]; simp [c]

theorem impl_BitOk_eq (b n : Int) (h0 : 0 ≤ b) (h1 : b < 65536) : impl_BitOk.f b n = some (ok 16 b n) := by
  unfold impl_BitOk.f
  rw [in_eq, Option.bind_some]
  by_cases c : 0 ≤ n ∧ n ≤ 16
  · rw [if_pos (decide_eq_true c), if_pos c.1]
    obtain ⟨n, rfl⟩ := Int.eq_ofNat_of_zero_le c.1
    obtain ⟨b, rfl⟩ := Int.eq_ofNat_of_zero_le h0
    have hn : n ≤ 16 := by omega
    have hw : IntKind.u64.wrap (b : Int) = b := by rw [wrap_u64]; exact Int.emod_eq_of_lt (by omega) (by omega)
    unfold shr ok
    have hm : min (Int.toNat (n : Int)) IntKind.u64.bits = n := by rw [Int.toNat_natCast]; exact Nat.min_eq_left (by show n ≤ 64; omega)
    rw [hw, hm, Int.toNat_natCast]
    have e : ((b : Int) / 2 ^ n == 0) = decide (b < 2 ^ n) := by
      rw [Bool.eq_iff_iff]; simp only [beq_iff_eq, decide_eq_true_eq]
      rw [show ((b : Int) / 2 ^ n) = ((b / 2 ^ n : Nat) : Int) by simp]
      have := Nat.div_eq_zero_iff (a := b) (b := 2 ^ n)
      have hp := Nat.two_pow_pos n
      omega
    rw [e]
    congr 1
    rw [Bool.eq_iff_iff]; simp only [decide_eq_true_eq]
    constructor
    · intro h; exact ⟨by omega, by omega, by exact_mod_cast h⟩
    · intro h; exact_mod_cast h.2.2
  · rw [if_neg (by simp [c])]
    unfold ok
    rw [decide_eq_false (fun h => c ⟨h.1, h.2.1⟩)]

theorem impl_ForkOk_eq (b n : Int) (h0 : 0 ≤ b) (h1 : b < 256) : impl_ForkOk.f b n = some (ok 8 b n) := by
  unfold impl_ForkOk.f
  rw [in_eq, Option.bind_some]
  by_cases c : 0 ≤ n ∧ n ≤ 8
  · rw [if_pos (decide_eq_true c), if_pos c.1]
    obtain ⟨n, rfl⟩ := Int.eq_ofNat_of_zero_le c.1
    obtain ⟨b, rfl⟩ := Int.eq_ofNat_of_zero_le h0
    have hn : n ≤ 8 := by omega
    have hw : IntKind.u64.wrap (b : Int) = b := by rw [wrap_u64]; exact Int.emod_eq_of_lt (by omega) (by omega)
    unfold shr ok
    have hm : min (Int.toNat (n : Int)) IntKind.u64.bits = n := by rw [Int.toNat_natCast]; exact Nat.min_eq_left (by show n ≤ 64; omega)
    rw [hw, hm, Int.toNat_natCast]
    have e : ((b : Int) / 2 ^ n == 0) = decide (b < 2 ^ n) := by
      rw [Bool.eq_iff_iff]; simp only [beq_iff_eq, decide_eq_true_eq]
      rw [show ((b : Int) / 2 ^ n) = ((b / 2 ^ n : Nat) : Int) by simp]
      have := Nat.div_eq_zero_iff (a := b) (b := 2 ^ n)
      have hp := Nat.two_pow_pos n
      omega
    rw [e]
    congr 1
    rw [Bool.eq_iff_iff]; simp only [decide_eq_true_eq]
    constructor
    · intro h; exact ⟨by omega, by omega, by exact_mod_cast h⟩
    · intro h; exact_mod_cast h.2.2
  · rw [if_neg (by simp [c])]
    unfold ok
    rw [decide_eq_false (fun h => c ⟨h.1, h.2.1⟩)]

theorem impl_BitStack_taken_eq (b n : Int) (h0 : 0 ≤ b) (h1 : b < 65536) : impl_BitStack_taken.f b n = some ((val (lst 16 b n) : Int), ((lst 16 b n).length : Int)) := by
  unfold impl_BitStack_taken.f
  rw [impl_BitOk_eq b n h0 h1, Option.bind_some]
  cases c : ok 16 b n
  · rw [if_neg (by decide), lst_of_not c]; rfl
  · rw [if_pos rfl, (lst_of_ok h0 c).1, (lst_of_ok h0 c).2]

theorem impl_BitFork_taken_eq (b n : Int) (h0 : 0 ≤ b) (h1 : b < 256) : impl_BitFork_taken.f b n = some ((val (lst 8 b n) : Int), ((lst 8 b n).length : Int)) := by
  unfold impl_BitFork_taken.f
  rw [impl_ForkOk_eq b n h0 h1, Option.bind_some]
  cases c : ok 8 b n
  · rw [if_neg (by decide), lst_of_not c]; rfl
  · rw [if_pos rfl, (lst_of_ok h0 c).1, (lst_of_ok h0 c).2]

theorem bit_eq (c : Bool) : impl_bit.f c = some ((c.toNat : Nat) : Int) := by cases c <;> rfl

theorem impl_BitPush_eq (b n : Int) (c : Bool) (h0 : 0 ≤ b) (h1 : b < 65536) : impl_BitPush.f b n c = some (stkB 16 (lst 16 b n ++ [c]), stkN 16 (lst 16 b n ++ [c])) := by
  unfold impl_BitPush.f
  rw [impl_BitStack_taken_eq b n h0 h1, Option.bind_some, bit_eq, Option.bind_some]
  generalize hL : lst 16 b n = L
  have hl : L.length ≤ 16 := by rw [← hL]; exact lst_length_le _ _ _
  have hv := val16 hl
  obtain ⟨e1, e2⟩ := stk_push c hl
  have e1 : stkB 16 (L ++ [c]) = (2 * val L + c.toNat) % 65536 := e1
  have hc : c.toNat < 2 := by cases c <;> decide
  congr 1; congr 1
  · rw [e1]; rw [wrap_u16, wrap_u16]
    generalize val L = v at *
    rw [u16_or1 _ _ (by omega) (by omega) (by omega) (by omega) (by omega)]
    omega
  · rw [e2]; unfold mn wrap64
    dsimp only
    split <;> omega

theorem impl_ForkPush_eq (b n : Int) (c : Bool) (h0 : 0 ≤ b) (h1 : b < 256) : impl_ForkPush.f b n c = some (stkB 8 (lst 8 b n ++ [c]), stkN 8 (lst 8 b n ++ [c])) := by
  unfold impl_ForkPush.f
  rw [impl_BitFork_taken_eq b n h0 h1, Option.bind_some, bit_eq, Option.bind_some]
  generalize hL : lst 8 b n = L
  have hl : L.length ≤ 8 := by rw [← hL]; exact lst_length_le _ _ _
  have hv := val8 hl
  obtain ⟨e1, e2⟩ := stk_push c hl
  have e1 : stkB 8 (L ++ [c]) = (2 * val L + c.toNat) % 256 := e1
  have hc : c.toNat < 2 := by cases c <;> decide
  congr 1; congr 1
  · rw [e1]; 
    generalize val L = v at *
    rw [u8_or1 _ _ (by omega) (by omega) (by omega) (by omega) (by omega)]
    omega
  · rw [e2]; unfold mn wrap64
    dsimp only
    split <;> omega

theorem impl_BitPop_eq (b n : Int) (h0 : 0 ≤ b) (h1 : b < 65536) : impl_BitPop.f b n = some ((val (lst 16 b n).dropLast : Int), ((lst 16 b n).dropLast.length : Int), (lst 16 b n).getLastD false) := by
  unfold impl_BitPop.f
  rw [impl_BitStack_taken_eq b n h0 h1, Option.bind_some]
  generalize hL : lst 16 b n = L
  have hl : L.length ≤ 16 := by rw [← hL]; exact lst_length_le _ _ _
  have hv := val16 hl
  clear hL
  induction L using snoc_cases with
  | h0 => rfl
  | h1 L c ih =>
    dsimp only
    rw [if_neg (by simp; omega), u16_and1 _ (by omega) (by omega)]
    rw [val_snoc] at *
    simp only [List.dropLast_concat, List.length_append, List.length_cons, List.length_nil] at *
    have hc : c.toNat < 2 := by cases c <;> decide
    have hg : (L ++ [c]).getLastD false = c := by simp [List.getLastD_eq_getLast?]
    rw [hg]
    congr 1; congr 1
    · omega
    congr 1
    · unfold wrap64; omega
    · rw [Bool.eq_iff_iff]; simp only [beq_iff_eq]
      cases c <;> simp <;> omega

theorem impl_ForkPop_eq (b n : Int) (h0 : 0 ≤ b) (h1 : b < 256) : impl_ForkPop.f b n = some ((val (lst 8 b n).dropLast : Int), ((lst 8 b n).dropLast.length : Int), (lst 8 b n).getLastD false) := by
  unfold impl_ForkPop.f
  rw [impl_BitFork_taken_eq b n h0 h1, Option.bind_some]
  generalize hL : lst 8 b n = L
  have hl : L.length ≤ 8 := by rw [← hL]; exact lst_length_le _ _ _
  have hv := val8 hl
  clear hL
  induction L using snoc_cases with
  | h0 => rfl
  | h1 L c ih =>
    dsimp only
    rw [if_neg (by simp; omega), u8_and1 _ (by omega) (by omega)]
    rw [val_snoc] at *
    simp only [List.dropLast_concat, List.length_append, List.length_cons, List.length_nil] at *
    have hc : c.toNat < 2 := by cases c <;> decide
    have hg : (L ++ [c]).getLastD false = c := by simp [List.getLastD_eq_getLast?]
    rw [hg]
    congr 1; congr 1
    · omega
    congr 1
    · unfold wrap64; omega
    · rw [Bool.eq_iff_iff]; simp only [beq_iff_eq]
      cases c <;> simp <;> omega

theorem impl_BitTop_eq (b n : Int) (h0 : 0 ≤ b) (h1 : b < 65536) : impl_BitTop.f b n = some ((lst 16 b n).getLastD false) := by
  unfold impl_BitTop.f
  rw [impl_BitStack_taken_eq b n h0 h1, Option.bind_some]
  generalize hL : lst 16 b n = L
  have hl : L.length ≤ 16 := by rw [← hL]; exact lst_length_le _ _ _
  have hv := val16 hl
  clear hL
  dsimp only
  rw [u16_and1 _ (by omega) (by omega)]
  induction L using snoc_cases with
  | h0 => rfl
  | h1 L c ih =>
    rw [val_snoc]
    have hc : c.toNat < 2 := by cases c <;> decide
    have hg : (L ++ [c]).getLastD false = c := by simp [List.getLastD_eq_getLast?]
    rw [hg]
    congr 1
    rw [Bool.eq_iff_iff]; simp only [beq_iff_eq]
    cases c <;> simp <;> omega

theorem impl_ForkTop_eq (b n : Int) (h0 : 0 ≤ b) (h1 : b < 256) : impl_ForkTop.f b n = some ((lst 8 b n).getLastD false) := by
  unfold impl_ForkTop.f
  rw [impl_BitFork_taken_eq b n h0 h1, Option.bind_some]
  generalize hL : lst 8 b n = L
  have hl : L.length ≤ 8 := by rw [← hL]; exact lst_length_le _ _ _
  have hv := val8 hl
  clear hL
  dsimp only
  rw [u8_and1 _ (by omega) (by omega)]
  induction L using snoc_cases with
  | h0 => rfl
  | h1 L c ih =>
    rw [val_snoc]
    have hc : c.toNat < 2 := by cases c <;> decide
    have hg : (L ++ [c]).getLastD false = c := by simp [List.getLastD_eq_getLast?]
    rw [hg]
    congr 1
    rw [Bool.eq_iff_iff]; simp only [beq_iff_eq]
    cases c <;> simp <;> omega

theorem impl_BitList_loop (b n : Nat) (hb : b < 65536) (hn : n ≤ 16) (d : Nat) : ∀ i : Nat, n - i = d → i ≤ n →
    Ev (fun k => impl_BitList.l0 k (bl (b / 2 ^ (n - i)) i ++ List.replicate (n - i) false) (n : Int) (i : Int) (b : Int) (n : Int)) (bl b n) := by
  induction d with
  | zero =>
    intro i hd hi
    obtain rfl : i = n := by omega
    refine Ev.step (f := fun _ => some (bl b i)) (fun k => ?_) (Ev.now _)
    simp only [impl_BitList.l0]
    rw [if_neg (by omega)]
    simp
  | succ d ih =>
    intro i hd hi
    refine Ev.step (fun k => ?_) (ih (i + 1) (by omega) (by omega))
    simp only [impl_BitList.l0]
    have hw : wrap64 (wrap64 ((n : Int) - 1) - (i : Int)) = ((n - 1 - i : Nat) : Int) := by unfold wrap64; omega
    have hw2 : wrap64 ((i : Int) + 1) = ((i + 1 : Nat) : Int) := by unfold wrap64; omega
    have hlen : (bl (b / 2 ^ (n - i)) i ++ List.replicate (n - i) false).length = n := by rw [List.length_append, bl_length, List.length_replicate]; omega
    rw [if_pos (by omega), hw, if_pos (by omega), if_pos (by omega), if_pos (by rw [hlen]; omega), hw2, Int.toNat_natCast]
    congr 1
    obtain ⟨m, hm⟩ : ∃ m, n - i = m + 1 := ⟨n - i - 1, by omega⟩
    have hm' : n - (i + 1) = m := by omega
    have hm2 : n - 1 - i = m := by omega
    rw [hm, hm', hm2]
    have hs : (Go.bits .and .u16 (shr .u16 (b : Int) (m : Int)) 1 == 1) = (b / 2 ^ m % 2 == 1) := by
      have e : shr .u16 (b : Int) (m : Int) = ((b / 2 ^ m : Nat) : Int) := by
        unfold shr
        have : min (Int.toNat (m : Int)) IntKind.u16.bits = m := by rw [Int.toNat_natCast]; exact Nat.min_eq_left (by show m ≤ 16; omega)
        rw [this]; simp
      have hlt : b / 2 ^ m < 65536 := Nat.lt_of_le_of_lt (Nat.div_le_self _ _) hb
      rw [e]
      generalize b / 2 ^ m = q at hlt
      rw [u16_and1 _ (by omega) (by omega), Bool.eq_iff_iff]; simp only [beq_iff_eq]; omega
    rw [hs, List.replicate_succ, List.set_append_right _ _ (by rw [bl_length]; exact Nat.le_refl _), bl_length, Nat.sub_self, List.set_cons_zero, bl]
    rw [Nat.div_div_eq_div_mul, ← Nat.pow_succ]
    simp
theorem impl_BitList_ev (b n : Int) (h0 : 0 ≤ b) (h1 : b < 65536) : Ev (fun k => impl_BitList.f k b n) (lst 16 b n) := by
  unfold impl_BitList.f
  simp only [impl_BitStack_taken_eq b n h0 h1, Option.bind_some]
  generalize hL : lst 16 b n = L
  have hl : L.length ≤ 16 := by rw [← hL]; exact lst_length_le _ _ _
  have hv := val16 hl
  clear hL
  refine Ev.congr (fun k => ?_) (f := fun k => impl_BitList.l0 k (bl (val L / 2 ^ (L.length - 0)) 0 ++ List.replicate (L.length - 0) false) (L.length : Int) ((0 : Nat) : Int) (val L : Int) (L.length : Int)) ?_
  · rw [if_pos (by omega), if_pos (by omega)]
    simp [bl]
  · have := impl_BitList_loop (val L) L.length hv hl (L.length) 0 (by omega) (by omega)
    rw [bl_val] at this
    exact this

theorem laws_wbSame_loop (l : List Bool) (hl : l.length ≤ 1099511627776) (d : Nat) : ∀ i : Nat, l.length - i = d → i ≤ l.length → Ev (fun k => laws_wbSame.l0 k l l (i : Int)) true := by
  induction d with
  | zero =>
    intro i hd hi
    refine Ev.step (f := fun _ => some true) (fun k => ?_) (Ev.now _)
    simp only [laws_wbSame.l0]
    rw [if_neg (by omega)]
  | succ d ih =>
    intro i hd hi
    refine Ev.step (fun k => ?_) (ih (i + 1) (by omega) (by omega))
    simp only [laws_wbSame.l0]
    have hw2 : wrap64 ((i : Int) + 1) = ((i + 1 : Nat) : Int) := by unfold wrap64; omega
    rw [if_pos (by omega), if_pos (by omega), if_pos (by omega), if_neg (by simp), hw2]
theorem laws_wbSame_self (l : List Bool) (hl : l.length ≤ 1099511627776) : Ev (fun k => laws_wbSame.f k l l) true := by
  unfold laws_wbSame.f
  simp only [if_true]
  exact laws_wbSame_loop l hl l.length 0 (by omega) (by omega)

theorem stk_next {l : List Bool} {m : Nat} (h : l.length < m) (c : Bool) : stkB m (l ++ [c]) = (val (l ++ [c]) : Int) ∧ stkN m (l ++ [c]) = ((l ++ [c]).length : Int) := stk_short (by simp; omega)
theorem play_end (xs : List Int) (l : List Bool) (i : Int) (hl : l.length ≤ 8) : Tells (fun k => laws_FnBitPlay.j1 k xs l i false (val l : Int) (l.length : Int) (val l : Int) (l.length : Int)) (· = true) := by
  have hv := val8 hl
  refine Tells.step (f := fun k => (impl_BitList.f k (val l : Int) (l.length : Int)).bind fun t149 => ((laws_wbSame.f k t149 l).bind fun t152 => (some t152))) (fun k => ?_) ?_
  · simp only [laws_FnBitPlay.j1]; rw [if_neg (by decide)]
  · have h := impl_BitList_ev (val l : Int) (l.length : Int) (by omega) (by omega)
    rw [lst_of_list (by omega)] at h
    exact Tells.bindEv h (Tells.bindEv (laws_wbSame_self l (by omega)) (Tells.now rfl))
theorem BitPlay_loop (xs : List Int) (hx : Bytes xs) (hn : xs.length ≤ 1048576) (d : Nat) : ∀ (i : Nat) (l : List Bool), xs.length - i = d → l.length ≤ 8 →
    Tells (fun k => laws_FnBitPlay.l0 k xs l (i : Int) (val l : Int) (l.length : Int) (val l : Int) (l.length : Int)) (· = true) := by
  induction d with
  | zero =>
    intro i l hd hl
    refine Tells.step (f := fun k => laws_FnBitPlay.j1 k xs l (i : Int) false (val l : Int) (l.length : Int) (val l : Int) (l.length : Int)) (fun k => ?_) ?_
    · simp only [laws_FnBitPlay.l0]; rw [if_neg (by omega)]
    · exact play_end xs l (i : Int) hl
  | succ d ih =>
    intro i l hd hl
    by_cases c3 : (i : Int) < 3000
    · refine Tells.step (f := fun k => laws_FnBitPlay.j1 k xs l (i : Int) true (val l : Int) (l.length : Int) (val l : Int) (l.length : Int)) (fun k => ?_) ?_
      · simp only [laws_FnBitPlay.l0]; rw [if_pos (by omega), decide_eq_true c3]
      · have hv8 := val8 hl
        have hl16 : l.length ≤ 16 := by omega
        have w1 : wrap64 ((i : Int) + 1) = ((i + 1 : Nat) : Int) := by unfold wrap64; omega
        generalize hb : (Int.tmod (rd xs (i : Int)) 2 == 1) = x
        -- what a push or a pop ends in
        have back : ∀ l' : List Bool, l'.length ≤ 8 → Tells (fun k => laws_FnBitPlay.j3 k xs l' (i : Int) (val l' : Int) (l'.length : Int) (val l' : Int) (l'.length : Int)) (· = true) := by
          intro l' hl'
          have hv := val8 hl'
          refine Tells.step (f := fun k => laws_FnBitPlay.l0 k xs l' ((i + 1 : Nat) : Int) (val l' : Int) (l'.length : Int) (val l' : Int) (l'.length : Int)) (fun k => ?_) (ih (i + 1) l' (by omega) hl')
          simp only [laws_FnBitPlay.j3]
          rw [if_pos trivial, if_pos trivial, impl_BitOk_eq _ _ (by omega) (by omega), ok_of_list (by omega), Option.bind_some, if_pos rfl, impl_ForkOk_eq _ _ (by omega) (by omega), ok_of_list hl', Option.bind_some, if_pos rfl, w1]
        have pop : Tells (fun k => laws_FnBitPlay.j2 k xs l (i : Int) x false (val l : Int) (l.length : Int) (val l : Int) (l.length : Int)) (· = true) := by
          have e1 : impl_BitPop.f (val l : Int) (l.length : Int) = some ((val l.dropLast : Int), (l.dropLast.length : Int), l.getLastD false) := by rw [impl_BitPop_eq _ _ (by omega) (by omega), lst_of_list hl16]
          have e2 : impl_ForkPop.f (val l : Int) (l.length : Int) = some ((val l.dropLast : Int), (l.dropLast.length : Int), l.getLastD false) := by rw [impl_ForkPop_eq _ _ (by omega) (by omega), lst_of_list hl]
          induction l using snoc_cases with
          | h0 =>
            refine Tells.step (fun k => ?_) (back [] (by simp))
            simp only [laws_FnBitPlay.j2]
            rw [if_neg (by decide), e1, Option.bind_some, e2, Option.bind_some, if_neg (by decide), if_neg (by decide), if_neg (by decide)]
            rfl
          | h1 l c ih2 =>
            have hll : ((l ++ [c]).length : Int) = l.length + 1 := by simp
            have hl2 : l.length + 1 ≤ 8 := by simpa using hl
            have w : wrap64 (((l ++ [c]).length : Int) - 1) = (l.length : Int) := by rw [hll]; unfold wrap64; omega
            have hr : rdOf false (l ++ [c]) (l.length : Int) = c := by unfold rdOf; simp [List.getD_eq_getElem?_getD]
            have hg : (l ++ [c]).getLastD false = c := by simp [List.getLastD_eq_getLast?]
            have ht : (l ++ [c]).take l.length = l := by simp
            refine Tells.step (fun k => ?_) (back l (by omega))
            simp only [laws_FnBitPlay.j2]
            rw [if_neg (by decide), e1, Option.bind_some, e2, Option.bind_some, if_pos (by rw [hll]; omega), w, if_pos (by omega), if_pos (by rw [hll]; omega), if_pos (by rw [hll]; omega), hr, hg, if_neg (by simp), if_neg (by simp), Int.toNat_natCast, ht]
            simp
        have one : ∀ y : Bool, (y = true → l.length < 8) → Tells (fun k => laws_FnBitPlay.j2 k xs l (i : Int) x y (val l : Int) (l.length : Int) (val l : Int) (l.length : Int)) (· = true) := by
          intro y hy
          cases y with
          | false => exact pop
          | true =>
            have h8 := hy rfl
            have hl8 : (l ++ [x]).length ≤ 8 := by simp; omega
            have hv := val8 hl8
            have e1 : impl_BitPush.f (val l : Int) (l.length : Int) x = some ((val (l ++ [x]) : Int), ((l ++ [x]).length : Int)) := by
              rw [impl_BitPush_eq _ _ _ (by omega) (by omega), lst_of_list hl16, (stk_next (by omega) x).1, (stk_next (by omega) x).2]
            have e2 : impl_ForkPush.f (val l : Int) (l.length : Int) x = some ((val (l ++ [x]) : Int), ((l ++ [x]).length : Int)) := by
              rw [impl_ForkPush_eq _ _ _ (by omega) (by omega), lst_of_list hl, (stk_next h8 x).1, (stk_next h8 x).2]
            have e3 : impl_BitTop.f (val (l ++ [x]) : Int) ((l ++ [x]).length : Int) = some x := by
              rw [impl_BitTop_eq _ _ (by omega) (by omega), lst_of_list (by omega)]; simp [List.getLastD_eq_getLast?]
            have e4 : impl_ForkTop.f (val (l ++ [x]) : Int) ((l ++ [x]).length : Int) = some x := by
              rw [impl_ForkTop_eq _ _ (by omega) (by omega), lst_of_list hl8]; simp [List.getLastD_eq_getLast?]
            refine Tells.step (fun k => ?_) (back (l ++ [x]) hl8)
            simp only [laws_FnBitPlay.j2]
            rw [if_pos trivial, e1, Option.bind_some, e2, Option.bind_some, if_pos (by omega), e3, Option.bind_some, if_neg (by simp), e4, Option.bind_some, if_neg (by simp)]
        refine Tells.step (f := fun k => if (rd xs (i : Int)) < 140 then laws_FnBitPlay.j2 k xs l (i : Int) x (decide ((l.length : Int) < 8)) (val l : Int) (l.length : Int) (val l : Int) (l.length : Int) else laws_FnBitPlay.j2 k xs l (i : Int) x false (val l : Int) (l.length : Int) (val l : Int) (l.length : Int)) (fun k => ?_) ?_
        · simp only [laws_FnBitPlay.j1]
          rw [if_pos trivial, if_pos (by omega), if_pos (by omega), hb]
        · by_cases c4 : rd xs (i : Int) < 140
          · simp only [if_pos c4]; exact one _ (fun h => by have := of_decide_eq_true h; omega)
          · simp only [if_neg c4]; exact pop
    · refine Tells.step (f := fun k => laws_FnBitPlay.j1 k xs l (i : Int) false (val l : Int) (l.length : Int) (val l : Int) (l.length : Int)) (fun k => ?_) ?_
      · simp only [laws_FnBitPlay.l0]; rw [if_pos (by omega), decide_eq_false c3]
      · exact play_end xs l (i : Int) hl
theorem FnBitPlay : laws_FnBitPlay.Pure := by
  intro l hm hs hw
  refine Tells.rounds ?_
  unfold laws_FnBitPlay.f
  by_cases c : (l.length : Int) > 1048576
  · simp only [if_pos c]; exact Tells.now rfl
  · simp only [if_neg c]
    exact BitPlay_loop l (bytes_of_wf hw) (by omega) l.length 0 [] (by omega) (by simp)

end Go.Proofs.Ytpjkpmgelmjlnaa.BFnBitPlay
