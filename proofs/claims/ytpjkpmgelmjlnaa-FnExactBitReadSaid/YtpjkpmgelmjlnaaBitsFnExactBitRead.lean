/- What the printed functions of stacks and forks tell, in terms of the list of a stack's bits: for the law FnExactBitRead. -/
import Derived.Test.YtpjkpmgelmjlnaaFx11
import Derived.Test.YtpjkpmgelmjlnaaFx15
import Derived.Test.YtpjkpmgelmjlnaaFx16
import Derived.Test.YtpjkpmgelmjlnaaFx17
import Derived.Test.YtpjkpmgelmjlnaaFx18
import Derived.Test.YtpjkpmgelmjlnaaFx4
import Derived.Test.YtpjkpmgelmjlnaaFx5
import Derived.Test.YtpjkpmgelmjlnaaFx6
import Derived.Test.YtpjkpmgelmjlnaaBitMath
import Derived.Test.YtpjkpmgelmjlnaaTell
namespace Go.Proofs.Ytpjkpmgelmjlnaa.BFnExactBitRead
open Go Go.RowKit Go.Proofs.Ytpjkpmgelmjlnaa.BitMath Go.Proofs.Ytpjkpmgelmjlnaa.Tell Go.Proofs.Ytpjkpmgelmjlnaa.F Go.Proofs.YtpjkpmgelmjlnaaW.PrintWords Go.Proofs.YtpjkpmgelmjlnaaW.PrintLast Go.Proofs.YtpjkpmgelmjlnaaW.PrintMore
set_option linter.unusedVariables false
set_option linter.unusedSimpArgs false

theorem in_eq (a l h : Int) : impl_in.f a l h = some (decide (l ≤ a ∧ a ≤ h)) := by
  unfold impl_in.f
  by_cases c : l ≤ a
  · rw [if_pos c]; simp [c]
  · rw [if_neg c]; simp [c]

theorem impl_BitOk_eq (b n : Int) (h0 : 0 ≤ b) (h1 : b < 65536) : impl_BitOk.f b n = some (ok 16 b n) := by
  unfold impl_BitOk.f
  rw [in_eq, Option.bind_some]
  by_cases c : 0 ≤ n ∧ n ≤ 16
  · rw [if_pos (decide_eq_true c), if_pos c.1]
    obtain ⟨n, rfl⟩ := Int.eq_ofNat_of_zero_le c.1
    obtain ⟨b, rfl⟩ := Int.eq_ofNat_of_zero_le h0
    have hn : n ≤ 16 := by omega
    have hw : IntKind.u64.wrap (b : Int) = b := by rw [wrap_u64]; exact Int.emod_eq_of_lt (by omega) (by omega)
    unfold shr ok
    have hm : min (Int.toNat (n : Int)) IntKind.u64.bits = n := by rw [Int.toNat_natCast]; exact Nat.min_eq_left (by show n ≤ 64; omega)
    rw [hw, hm, Int.toNat_natCast]
    have e : ((b : Int) / 2 ^ n == 0) = decide (b < 2 ^ n) := by
      rw [Bool.eq_iff_iff]; simp only [beq_iff_eq, decide_eq_true_eq]
      rw [show ((b : Int) / 2 ^ n) = ((b / 2 ^ n : Nat) : Int) by simp]
      have := Nat.div_eq_zero_iff (a := b) (b := 2 ^ n)
      have hp := Nat.two_pow_pos n
      omega
    rw [e]
    congr 1
    rw [Bool.eq_iff_iff]; simp only [decide_eq_true_eq]
    constructor
    · intro h; exact ⟨by omega, by omega, by exact_mod_cast h⟩
    · intro h; exact_mod_cast h.2.2
  · rw [if_neg (by simp [c])]
    unfold ok
    rw [decide_eq_false (fun h => c ⟨h.1, h.2.1⟩)]

theorem impl_BitStack_taken_eq (b n : Int) (h0 : 0 ≤ b) (h1 : b < 65536) : impl_BitStack_taken.f b n = some ((val (lst 16 b n) : Int), ((lst 16 b n).length : Int)) := by
  unfold impl_BitStack_taken.f
  rw [impl_BitOk_eq b n h0 h1, Option.bind_some]
  cases c : ok 16 b n
  · rw [if_neg (by decide), lst_of_not c]; rfl
  · rw [if_pos rfl, (lst_of_ok h0 c).1, (lst_of_ok h0 c).2]

theorem bit_eq (c : Bool) : impl_bit.f c = some ((c.toNat : Nat) : Int) := by cases c <;> rfl

theorem impl_BitPush_eq (b n : Int) (c : Bool) (h0 : 0 ≤ b) (h1 : b < 65536) : impl_BitPush.f b n c = some (stkB 16 (lst 16 b n ++ [c]), stkN 16 (lst 16 b n ++ [c])) := by
  unfold impl_BitPush.f
  rw [impl_BitStack_taken_eq b n h0 h1, Option.bind_some, bit_eq, Option.bind_some]
  generalize hL : lst 16 b n = L
  have hl : L.length ≤ 16 := by rw [← hL]; exact lst_length_le _ _ _
  have hv := val16 hl
  obtain ⟨e1, e2⟩ := stk_push c hl
  have e1 : stkB 16 (L ++ [c]) = (2 * val L + c.toNat) % 65536 := e1
  have hc : c.toNat < 2 := by cases c <;> decide
  congr 1; congr 1
  · rw [e1]; rw [wrap_u16, wrap_u16]
    generalize val L = v at *
    rw [u16_or1 _ _ (by omega) (by omega) (by omega) (by omega) (by omega)]
    omega
  · rw [e2]; unfold mn wrap64
    dsimp only
    split <;> omega

theorem spec_l1Stack_loop (l : List Bool) (hl : l.length ≤ 1099511627776) (d : Nat) : ∀ m : Nat, 16 - m = d → m ≤ 16 → m ≤ l.length →
    Ev (fun k => spec_l1Stack.l0 k l (2 ^ m % 65536) ((l.length : Int) - 1 - m) (val (l.drop (l.length - m)) : Int) (m : Int)) (stkB 16 l, stkN 16 l) := by
  induction d with
  | zero =>
    intro m hd hm hml
    obtain rfl : m = 16 := by omega
    refine Ev.step (f := fun k => spec_l1Stack.j1 k l (2 ^ 16 % 65536) ((l.length : Int) - 1 - (16 : Nat)) false (val (l.drop (l.length - 16)) : Int) ((16 : Nat) : Int)) (fun k => ?_) ?_
    · simp only [spec_l1Stack.l0]
      split <;> rfl
    · refine Ev.step (f := fun _ => some _) (fun k => ?_) (Ev.now _)
      simp only [spec_l1Stack.j1, stkB, stkN]
      rw [Nat.min_eq_left hml]; rfl
  | succ d ih =>
    intro m hd hm hml
    by_cases c : m < l.length
    · refine Ev.step (f := fun k => spec_l1Stack.j1 k l (2 ^ m % 65536) ((l.length : Int) - 1 - m) true (val (l.drop (l.length - m)) : Int) (m : Int)) (fun k => ?_) ?_
      · simp only [spec_l1Stack.l0]
        rw [if_pos (by omega), decide_eq_true (by omega)]
      · refine Ev.step (fun k => ?_) (ih (m + 1) (by omega) (by omega) (by omega))
        simp only [spec_l1Stack.j1]
        rw [if_pos (by decide), if_pos (by omega), if_pos (by omega)]
        have hi : ((l.length : Int) - 1 - m).toNat = l.length - (m + 1) := by omega
        have hlt : l.length - (m + 1) < l.length := by omega
        have hr : rdOf false l ((l.length : Int) - 1 - m) = l[l.length - (m + 1)] := by
          unfold rdOf; rw [hi]; simp [List.getD_eq_getElem?_getD, hlt]
        have hdr : l.drop (l.length - (m + 1)) = l[l.length - (m + 1)] :: l.drop (l.length - m) := by
          rw [List.drop_eq_getElem_cons hlt, show l.length - (m + 1) + 1 = l.length - m by omega]
        have hdl : (l.drop (l.length - m)).length = m := by simp; omega
        have hv := val_lt (l.drop (l.length - m))
        rw [hdl] at hv
        have hp : 2 ^ (m + 1) ≤ 65536 := pow16 (by omega)
        rw [Nat.pow_succ] at hp
        have hpe : (2 ^ m % 65536 : Int) = ((2 ^ m : Nat) : Int) := by
          rw [show ((2 : Int) ^ m) = ((2 ^ m : Nat) : Int) by simp]; omega
        have w1 : wrap64 ((l.length : Int) - 1 - m - 1) = (l.length : Int) - 1 - ((m + 1 : Nat) : Int) := by unfold wrap64; omega
        have w2 : wrap64 ((m : Int) + 1) = ((m + 1 : Nat) : Int) := by unfold wrap64; omega
        have w3 : IntKind.u16.wrap ((2 ^ m % 65536 : Int) * 2) = 2 ^ (m + 1) % 65536 := by
          rw [wrap_u16, hpe, show ((2 : Int) ^ (m + 1)) = ((2 ^ m * 2 : Nat) : Int) by simp [Int.pow_succ]]; omega
        rw [hr, hdr, val_cons, hdl, w1, w2, w3, hpe]
        cases l[l.length - (m + 1)]
        · rw [if_neg (by decide)]; simp
        · rw [if_pos rfl]
          have w4 : IntKind.u16.wrap ((val (l.drop (l.length - m)) : Int) + ((2 ^ m : Nat) : Int)) = ((true.toNat * 2 ^ m + val (l.drop (l.length - m)) : Nat) : Int) := by
            have : true.toNat = 1 := rfl
            rw [this, Nat.one_mul, wrap_u16]
            omega
          rw [w4]
    · obtain rfl : m = l.length := by omega
      refine Ev.step (f := fun k => spec_l1Stack.j1 k l (2 ^ l.length % 65536) ((l.length : Int) - 1 - l.length) false (val (l.drop (l.length - l.length)) : Int) (l.length : Int)) (fun k => ?_) ?_
      · simp only [spec_l1Stack.l0]
        rw [if_neg (by omega)]
      · refine Ev.step (f := fun _ => some _) (fun k => ?_) (Ev.now _)
        simp only [spec_l1Stack.j1, stkB, stkN]
        rw [Nat.min_eq_right hm, Nat.sub_self, Nat.sub_eq_zero_of_le hm]; rfl
theorem spec_l1Stack_ev (l : List Bool) (hl : l.length ≤ 1099511627776) : Ev (fun k => spec_l1Stack.f k l) (stkB 16 l, stkN 16 l) := by
  have h := spec_l1Stack_loop l hl 16 0 (by omega) (by omega) (by omega)
  refine Ev.congr (fun k => ?_) h
  unfold spec_l1Stack.f
  have w1 : wrap64 ((l.length : Int) - 1) = (l.length : Int) - 1 - ((0 : Nat) : Int) := by unfold wrap64; omega
  rw [w1]; simp [val_nil]

theorem laws_eqBitStack_self (b n : Int) : laws_eqBitStack.f b n b n = some true := by
  unfold laws_eqBitStack.f; rw [if_pos rfl, if_pos rfl]

/-- The Bools of d bytes from i on, behind others; none if one is neither 0 nor 1. -/
def rdB (s : ByteArray) : Nat → Nat → List Bool → Option (List Bool)
  | 0, _, acc => some acc
  | d + 1, i, acc => if bt s (i : Int) = 48 ∨ bt s (i : Int) = 49 then rdB s d (i + 1) (acc ++ [bt s (i : Int) == 49]) else none
def res : Option (List Bool) → Int × Int × Bool
  | some l => (stkB 16 l, stkN 16 l, true)
  | none => (0, 0, false)
theorem rdB_step {s : ByteArray} {d i : Nat} {acc : List Bool} (c : bt s (i : Int) = 48 ∨ bt s (i : Int) = 49) : rdB s d (i + 1) (acc ++ [bt s (i : Int) == 49]) = rdB s (d + 1) i acc := by
  simp only [rdB]; rw [if_pos c]
theorem spec_BitRead_loop (s : ByteArray) (hs : s.size ≤ 17) (d : Nat) : ∀ (i : Nat) (acc : List Bool), s.size - i = d → acc.length = i - 1 → acc.length ≤ 17 → 1 ≤ i →
    Ev (fun k => spec_BitRead.l0 k s acc (i : Int)) (res (rdB s d i acc)) := by
  induction d with
  | zero =>
    intro i acc hd ha ha2 hi
    refine Ev.step (f := fun k => (spec_l1Stack.f k acc).bind fun bt311 => (some (bt311.1, bt311.2, true))) (fun k => ?_) ?_
    · simp only [spec_BitRead.l0]; rw [if_neg (by omega)]
    · by_cases c : acc.length ≤ 1099511627776
      · exact Ev.bind (spec_l1Stack_ev acc c) (Ev.now _)
      · exact (c (by omega)).elim
  | succ d ih =>
    intro i acc hd ha ha2 hi
    have w : wrap64 ((i : Int) + 1) = ((i + 1 : Nat) : Int) := by unfold wrap64; omega
    by_cases c : bt s (i : Int) = 48 ∨ bt s (i : Int) = 49
    · refine Ev.step (fun k => ?_) (rdB_step c ▸ ih (i + 1) (acc ++ [bt s (i : Int) == 49]) (by omega) (by simp; omega) (by simp; omega) (by omega))
      simp only [spec_BitRead.l0]
      rw [if_pos (by omega), if_pos (by omega), w]
      rcases c with c | c
      · rw [if_pos c, if_pos (by omega)]
      · rw [if_neg (by omega), if_pos c, if_pos (by omega)]
    · have e : rdB s (d + 1) i acc = none := by simp only [rdB]; rw [if_neg c]
      rw [e]
      refine Ev.step (f := fun _ => some _) (fun k => ?_) (Ev.now _)
      simp only [spec_BitRead.l0]
      rw [if_pos (by omega), if_pos (by omega), if_neg (fun h => c (Or.inl h)), if_neg (fun h => c (Or.inr h))]
      rfl
/-- What a text is read as. -/
def readOf (s : ByteArray) : Option (List Bool) := if 0 < s.size ∧ bt s 0 = 124 ∧ s.size ≤ 17 then rdB s (s.size - 1) 1 [] else none
theorem spec_BitRead_ev (s : ByteArray) (hs : s.size ≤ 1099511627776) : Ev (fun k => spec_BitRead.f k s) (res (readOf s)) := by
  have bad : Ev (fun k => spec_BitRead.j0 k s true) (0, 0, false) := by
    refine Ev.step (f := fun _ => some _) (fun k => ?_) (Ev.now _)
    simp only [spec_BitRead.j0]; rfl
  unfold spec_BitRead.f
  by_cases c0 : s.size = 0
  · have e : s.toList = [] := by rw [Lib.toList_data]; exact List.length_eq_zero_iff.mp (by rw [← size_data]; exact c0)
    have e2 : readOf s = none := by unfold readOf; rw [if_neg (by omega)]
    simp only [if_pos e, e2]
    exact bad
  · have e : ¬ s.toList = [] := by
      rw [Lib.toList_data]; intro h
      have := congrArg List.length h
      rw [← size_data] at this
      exact c0 this
    simp only [if_neg e, if_pos (show 0 < (s.size : Int) by omega)]
    by_cases c1 : bt s 0 = 124
    · simp only [if_pos c1]
      by_cases c2 : s.size ≤ 17
      · have e2 : readOf s = rdB s (s.size - 1) 1 [] := by unfold readOf; rw [if_pos ⟨by omega, c1, c2⟩]
        rw [e2]
        refine Ev.step (fun k => ?_) (spec_BitRead_loop s c2 (s.size - 1) 1 [] (by omega) rfl (by simp) (by omega))
        simp only [spec_BitRead.j0]
        rw [if_neg (by simp; omega)]; rfl
      · have e2 : readOf s = none := by unfold readOf; rw [if_neg (by omega)]
        rw [e2, decide_eq_true (show (s.size : Int) > 17 by omega)]
        exact bad
    · have e2 : readOf s = none := by unfold readOf; rw [if_neg (fun h => c1 h.2.1)]
      simp only [if_neg c1, e2]
      exact bad

theorem cut_bar (s : ByteArray) : strings_CutPrefix.f s (⟨#[124]⟩ : ByteArray) = some (if 0 < s.size ∧ bt s 0 = 124 then (s.extract 1 s.size, true) else (s, false)) := by
  have h1 : ((⟨#[124]⟩ : ByteArray).size : Int) = 1 := rfl
  have h2 : (⟨#[124]⟩ : ByteArray).toList = [124] := by rw [Lib.toList_data]
  have hp : stringslite_HasPrefix.f s (⟨#[124]⟩ : ByteArray) = some (decide (0 < s.size ∧ bt s 0 = 124)) := by
    unfold stringslite_HasPrefix.f
    rw [h1, h2]
    by_cases c : (s.size : Int) ≥ 1
    · rw [if_pos c, if_pos (by decide), if_pos c]
      congr 1
      rw [Lib.extract_toList, bt_getD]
      have hl := size_data s
      generalize s.data.toList = L at hl
      match L with
      | [] => have h0 : s.size = 0 := hl; omega
      | x :: L =>
        rw [Bool.eq_iff_iff]
        simp only [Int.toNat_one, Nat.sub_zero, List.drop_zero, List.take_succ_cons, List.take_zero, beq_iff_eq, List.cons.injEq, and_true, decide_eq_true_eq, Int.toNat_zero, List.getD_cons_zero]
        constructor
        · rintro rfl; exact ⟨by omega, rfl⟩
        · rintro ⟨_, h⟩
          have : x.toNat = 124 := by omega
          exact UInt8.toNat_inj.mp this
    · rw [if_neg c, decide_eq_false (by omega)]
  unfold strings_CutPrefix.f stringslite_CutPrefix.f
  rw [hp, Option.bind_some]
  by_cases c : 0 < s.size ∧ bt s 0 = 124
  · rw [if_pos (decide_eq_true c), if_pos c, h1, if_pos (by decide), if_pos (by omega)]; rfl
  · rw [if_neg (by simp only [decide_eq_true_eq]; exact c), if_neg c]; rfl

theorem impl_BitRead_loop (s t : ByteArray) (ht : t = s.extract 1 s.size) (hs : s.size ≤ 17) (h0 : 0 < s.size) (d : Nat) : ∀ (i : Nat) (acc : List Bool), t.size - i = d → acc.length = i → i ≤ t.size →
    Ev (fun k => impl_BitRead.l0 k t (t.size : Int) (i : Int) (val acc : Int) (acc.length : Int)) (res (rdB s d (i + 1) acc)) := by
  have hts : t.size = s.size - 1 := by rw [ht, size_tail]
  have hbt : ∀ i : Nat, bt t (i : Int) = bt s ((i + 1 : Nat) : Int) := fun i => by rw [ht, bt_tail, Nat.add_comm]
  induction d with
  | zero =>
    intro i acc hd ha hi
    refine Ev.step (f := fun _ => some _) (fun k => ?_) (Ev.now _)
    simp only [impl_BitRead.l0]
    rw [if_neg (by omega)]
    have := stk_short (m := 16) (l := acc) (by omega)
    simp only [rdB, res, this.1, this.2]
  | succ d ih =>
    intro i acc hd ha hi
    have w : wrap64 ((i : Int) + 1) = ((i + 1 : Nat) : Int) := by unfold wrap64; omega
    by_cases c : bt s ((i + 1 : Nat) : Int) = 48 ∨ bt s ((i + 1 : Nat) : Int) = 49
    · refine Ev.step (fun k => ?_) (rdB_step c ▸ ih (i + 1) (acc ++ [bt s ((i + 1 : Nat) : Int) == 49]) (by omega) (by simp; omega) (by omega))
      simp only [impl_BitRead.l0]
      have hv := val16 (l := acc) (by omega)
      have hp : impl_BitPush.f (val acc : Int) (acc.length : Int) (bt s ((i + 1 : Nat) : Int) == 49) = some ((val (acc ++ [bt s ((i + 1 : Nat) : Int) == 49]) : Int), ((acc ++ [bt s ((i + 1 : Nat) : Int) == 49]).length : Int)) := by
        have hk := stk_short (m := 16) (l := acc ++ [bt s ((i + 1 : Nat) : Int) == 49]) (by simp; omega)
        rw [impl_BitPush_eq _ _ _ (by omega) (by omega), lst_of_list (by omega), hk.1, hk.2]
      rw [if_pos (by omega), if_pos (by omega), if_pos (by omega), w, hbt, hp, Option.bind_some]
      rcases c with c | c
      · rw [if_pos c]
      · rw [if_neg (by omega), if_pos c]
    · have e : rdB s (d + 1) (i + 1) acc = none := by simp only [rdB]; rw [if_neg c]
      rw [e]
      refine Ev.step (f := fun _ => some _) (fun k => ?_) (Ev.now _)
      simp only [impl_BitRead.l0]
      rw [if_pos (by omega), if_pos (by omega), if_pos (by omega), hbt, if_neg (fun h => c (Or.inl h)), if_neg (fun h => c (Or.inr h))]
      rfl
theorem impl_BitRead_ev (s : ByteArray) : Ev (fun k => impl_BitRead.f k s) (res (readOf s)) := by
  have bad : ∀ t : ByteArray, Ev (fun k => impl_BitRead.j0 k t true) (0, 0, false) := by
    intro t
    refine Ev.step (f := fun _ => some _) (fun k => ?_) (Ev.now _)
    simp only [impl_BitRead.j0]; rfl
  unfold impl_BitRead.f
  simp only [cut_bar, Option.bind_some]
  by_cases c : 0 < s.size ∧ bt s 0 = 124
  · simp only [if_pos c, if_true]
    have hts := size_tail s 1
    by_cases c2 : s.size ≤ 17
    · have e2 : readOf s = rdB s (s.size - 1) 1 [] := by unfold readOf; rw [if_pos ⟨c.1, c.2, c2⟩]
      rw [e2]
      have hl := impl_BitRead_loop s _ rfl c2 c.1 ((s.extract 1 s.size).size) 0 [] (by omega) rfl (by omega)
      rw [hts] at hl
      refine Ev.step (fun k => ?_) hl
      simp only [impl_BitRead.j0]
      rw [if_neg (by simp; omega), hts]; rfl
    · have e2 : readOf s = none := by unfold readOf; rw [if_neg (by omega)]
      rw [e2, decide_eq_true (show ((s.extract 1 s.size).size : Int) > 16 by omega)]
      exact bad _
  · have e2 : readOf s = none := by unfold readOf; rw [if_neg (fun h => c ⟨h.1, h.2.1⟩)]
    simp only [if_neg c, e2, Bool.false_eq_true, if_false]
    exact bad _

theorem FnExactBitRead : laws_FnExactBitRead.Pure := by
  intro s hs
  refine Tells.rounds ?_
  unfold laws_FnExactBitRead.f
  by_cases c : (s.size : Int) > 1048576
  · simp only [if_pos c]; exact Tells.now rfl
  · simp only [if_neg c]
    refine Tells.bindEv (spec_BitRead_ev s (by omega)) (Tells.bindEv (impl_BitRead_ev s) ?_)
    simp only [laws_eqBitStack_self, Option.bind_some, if_true, bne_self_eq_false, Bool.false_eq_true, if_false]
    exact Tells.now rfl

end Go.Proofs.Ytpjkpmgelmjlnaa.BFnExactBitRead
