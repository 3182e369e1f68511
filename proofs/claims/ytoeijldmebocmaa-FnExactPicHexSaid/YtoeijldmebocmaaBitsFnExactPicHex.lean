/- What the printed functions tell that the law FnExactPicHex reaches, over numbers and lists alone. -/
import Derived.Test.YtoeijldmebocmaaFx1
import Derived.Test.YtoeijldmebocmaaFx3
import Derived.Test.YtoeijldmebocmaaFx4
import Derived.Test.YtoeijldmebocmaaFx5
import Derived.Test.YtoeijldmebocmaaTell
namespace Go.Proofs.Ytoeijldmebocmaa.BFnExactPicHex
open Go Go.RowKit Go.Proofs.Ytoeijldmebocmaa.Tell Go.Proofs.Ytoeijldmebocmaa.F Go.Proofs.YtoeijldmebocmaaW.PrintWords Go.Proofs.YtoeijldmebocmaaW.PrintLast Go.Proofs.YtoeijldmebocmaaW.PrintMore
set_option linter.unusedVariables false
set_option linter.unusedSimpArgs false

theorem toByteS_loop (l : List Int) (hl : l.length ≤ 1099511627776) (d : Nat) : ∀ i : Nat, l.length - i = d → i ≤ l.length →
    Ev (fun k => laws_toByteS.l0 k l (l.take i ++ List.replicate (l.length - i) 0) (i : Int)) l := by
  induction d with
  | zero =>
    intro i hd hi
    obtain rfl : i = l.length := by omega
    refine Ev.step (f := fun _ => some l) (fun k => ?_) (Ev.now _)
    simp only [laws_toByteS.l0]
    rw [if_neg (by omega)]; simp
  | succ d ih =>
    intro i hd hi
    refine Ev.step (fun k => ?_) (ih (i + 1) (by omega) (by omega))
    simp only [laws_toByteS.l0]
    have w : wrap64 ((i : Int) + 1) = ((i + 1 : Nat) : Int) := by unfold wrap64; omega
    have hlt : i < l.length := by omega
    have hll : (l.take i ++ List.replicate (l.length - i) (0 : Int)).length = l.length := by rw [List.length_append, List.length_take, List.length_replicate]; omega
    have hr : rd l (i : Int) = l[i] := by unfold rd; simp [List.getD_eq_getElem?_getD, hlt]
    have hs : (l.take i ++ List.replicate (l.length - i) (0 : Int)).set i l[i] = l.take (i + 1) ++ List.replicate (l.length - (i + 1)) 0 := by
      obtain ⟨m, hm⟩ : ∃ m, l.length - i = m + 1 := ⟨l.length - i - 1, by omega⟩
      have hm2 : l.length - (i + 1) = m := by omega
      rw [hm, hm2, List.set_append_right _ _ (by rw [List.length_take]; omega), List.length_take, Nat.min_eq_left (by omega), Nat.sub_self, List.replicate_succ, List.set_cons_zero, List.take_succ_eq_append_getElem hlt, List.append_assoc]
      rfl
    rw [if_pos (by omega), if_pos (by omega), if_pos (by rw [hll]; omega), w, Int.toNat_natCast, hr, hs]
theorem toByteS_ev (l : List Int) (hl : l.length ≤ 1099511627776) : Ev (fun k => laws_toByteS.f k l) l := by
  unfold laws_toByteS.f
  simp only [if_pos (show 0 ≤ (l.length : Int) by omega), Int.toNat_natCast, if_pos (show l.length ≤ 281474976710656 by omega)]
  have h := toByteS_loop l hl l.length 0 (by omega) (by omega)
  simpa using h

theorem eqByteS_loop (l : List Int) (hl : l.length ≤ 1099511627776) (d : Nat) : ∀ i : Nat, l.length - i = d → i ≤ l.length → Ev (fun k => laws_eqByteS.l0 k l l (i : Int)) true := by
  induction d with
  | zero =>
    intro i hd hi
    refine Ev.step (f := fun _ => some true) (fun k => ?_) (Ev.now _)
    simp only [laws_eqByteS.l0]
    rw [if_neg (by omega)]
  | succ d ih =>
    intro i hd hi
    refine Ev.step (fun k => ?_) (ih (i + 1) (by omega) (by omega))
    simp only [laws_eqByteS.l0]
    have w : wrap64 ((i : Int) + 1) = ((i + 1 : Nat) : Int) := by unfold wrap64; omega
    rw [if_pos (by omega), if_pos (by omega), if_pos (by omega), if_pos trivial, w]
theorem eqByteS_self (l : List Int) (hl : l.length ≤ 1099511627776) : Ev (fun k => laws_eqByteS.f k l l) true := by
  unfold laws_eqByteS.f
  simp only [if_true]
  exact eqByteS_loop l hl l.length 0 (by omega) (by omega)

theorem wrap_u8n (n : Int) : IntKind.u8.wrap n = n % 256 := by simp [IntKind.wrap, IntKind.bits, IntKind.signed]
theorem and15 (a : Nat) (ha : a < 256) : Go.bits .and .u8 (a : Int) 15 = ((a % 16 : Nat) : Int) := by
  have e : Go.bits .and .u8 (a : Int) 15 = IntKind.u8.wrap (((BitVec.ofInt 8 (a : Int)) &&& (BitVec.ofInt 8 (15 : Int))).toNat : Int) := rfl
  have e2 : (BitVec.ofInt 8 (15 : Int)).toNat = 2 ^ 4 - 1 := by decide
  rw [e, BitVec.toNat_and, BitVec.ofInt_natCast, BitVec.toNat_ofNat, e2, Nat.and_two_pow_sub_one_eq_mod, wrap_u8n, Nat.mod_eq_of_lt (show a < 2 ^ 8 from ha)]
  omega
/-- The two signs of a byte. -/
def hexTab : ByteArray := ⟨#[48, 49, 50, 51, 52, 53, 54, 55, 56, 57, 97, 98, 99, 100, 101, 102]⟩
def hexOf (b : Int) : List Int := [bt hexTab (b / 16), bt hexTab (b % 16)]
def hexAll (l : List Int) : List Int := l.flatMap hexOf
theorem hexAll_take (l : List Int) (i : Nat) (h : i < l.length) : hexAll (l.take i) ++ hexOf l[i] = hexAll (l.take (i + 1)) := by
  unfold hexAll
  rw [List.take_succ_eq_append_getElem h, List.flatMap_append]; simp
theorem hexAll_length (l : List Int) : (hexAll l).length = 2 * l.length := by
  unfold hexAll
  induction l with
  | nil => rfl
  | cons a l ih => rw [List.flatMap_cons, List.length_append, ih]; simp [hexOf]; omega
theorem spec_hex_loop (l : List Int) (hb : Bytes l) (hl : l.length ≤ 1099511627776) (d : Nat) : ∀ i : Nat, l.length - i = d → i ≤ l.length →
    Ev (fun k => spec_PicHex.l0 k l (hexAll (l.take i)) (i : Int)) (strOfNums (hexAll l)) := by
  induction d with
  | zero =>
    intro i hd hi
    obtain rfl : i = l.length := by omega
    refine Ev.step (f := fun _ => some (strOfNums (hexAll l))) (fun k => ?_) (Ev.now _)
    simp only [spec_PicHex.l0]
    rw [if_neg (by omega), List.take_length]
  | succ d ih =>
    intro i hd hi
    refine Ev.step (fun k => ?_) (ih (i + 1) (by omega) (by omega))
    simp only [spec_PicHex.l0]
    have w : wrap64 ((i : Int) + 1) = ((i + 1 : Nat) : Int) := by unfold wrap64; omega
    have hlt : i < l.length := by omega
    have hr : rd l (i : Int) = l[i] := by unfold rd; simp [List.getD_eq_getElem?_getD, hlt]
    have h := hb _ (List.getElem_mem hlt)
    have hq : Int.tdiv l[i] 16 % 256 = l[i] / 16 := by rw [Int.tdiv_eq_ediv_of_nonneg h.1]; omega
    have hm : Int.tmod l[i] 16 = l[i] % 16 := Int.tmod_eq_emod_of_nonneg h.1
    rw [hr, hq, hm, if_pos (by omega), if_pos (by omega), if_pos (by omega), if_pos (by omega), if_pos (by omega), if_pos (by omega), Option.bind_some, w]
    rw [if_pos (by rw [hexAll_length, List.length_take]; simp; omega)]
    exact congrArg (fun z => spec_PicHex.l0 k l z ((i + 1 : Nat) : Int)) (hexAll_take l i hlt)
theorem impl_hex_loop (l : List Int) (hb : Bytes l) (hl : l.length ≤ 1099511627776) (d : Nat) : ∀ i : Nat, l.length - i = d → i ≤ l.length →
    Ev (fun k => impl_hexText.l0 k (hexAll (l.take i)) l (l.length : Int) (i : Int)) (strOfNums (hexAll l)) := by
  induction d with
  | zero =>
    intro i hd hi
    obtain rfl : i = l.length := by omega
    refine Ev.step (f := fun _ => some (strOfNums (hexAll l))) (fun k => ?_) (Ev.now _)
    simp only [impl_hexText.l0]
    rw [if_neg (by omega), List.take_length]
  | succ d ih =>
    intro i hd hi
    refine Ev.step (fun k => ?_) (ih (i + 1) (by omega) (by omega))
    simp only [impl_hexText.l0]
    have w : wrap64 ((i : Int) + 1) = ((i + 1 : Nat) : Int) := by unfold wrap64; omega
    have hlt : i < l.length := by omega
    have hr : rd l (i : Int) = l[i] := by unfold rd; simp [List.getD_eq_getElem?_getD, hlt]
    have h := hb _ (List.getElem_mem hlt)
    have hm : Go.bits .and .u8 l[i] 15 = l[i] % 16 := by
      obtain ⟨a, ha⟩ := Int.eq_ofNat_of_zero_le h.1
      rw [ha, and15 a (by omega)]; omega
    rw [hr, hm, if_pos (by omega), if_pos (by omega), if_pos (by omega), if_pos (by omega), if_pos (by omega), if_pos (by omega), if_pos (by omega), Option.bind_some, w]
    rw [if_pos (by rw [hexAll_length, List.length_take]; simp; omega)]
    exact congrArg (fun z => impl_hexText.l0 k z l (l.length : Int) ((i + 1 : Nat) : Int)) (hexAll_take l i hlt)
theorem FnExactPicHex : laws_FnExactPicHex.Pure := by
  intro l hm hs hw
  refine Tells.rounds ?_
  unfold laws_FnExactPicHex.f
  by_cases c : (l.length : Int) > 1048576
  · simp only [if_pos c]; exact Tells.now rfl
  · simp only [if_neg c]
    have hb := bytes_of_wf hw
    have hboth : ∃ r, Ev (fun k => spec_PicHex.f k l) r ∧ Ev (fun k => impl_PicHex.f k l) r := by
      unfold spec_PicHex.f impl_PicHex.f
      by_cases c2 : (l.length : Int) > 20008
      · simp only [if_pos c2]; exact ⟨_, Ev.now _, Ev.now _⟩
      · simp only [if_neg c2]
        refine ⟨_, spec_hex_loop l hb (by omega) l.length 0 (by omega) (by omega), ?_⟩
        have := impl_hex_loop l hb (by omega) l.length 0 (by omega) (by omega)
        exact Ev.bind (f := fun _ t => some t) this (Ev.now _)
    obtain ⟨r, h1, h2⟩ := hboth
    refine Tells.bindEv (toByteS_ev l (by omega)) ?_
    refine Tells.bindEv h1 ?_
    refine Tells.bindEv (toByteS_ev l (by omega)) ?_
    refine Tells.bindEv h2 ?_
    simp only [if_true]
    refine Tells.bindEv (toByteS_ev l (by omega)) ?_
    exact Tells.bindEv (eqByteS_self l (by omega)) (Tells.now rfl)

end Go.Proofs.Ytoeijldmebocmaa.BFnExactPicHex
