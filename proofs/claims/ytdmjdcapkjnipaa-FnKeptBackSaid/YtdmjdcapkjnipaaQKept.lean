/- What printed functions that the law Kept reaches tell, over numbers and lists alone. -/
import Derived.Test.YtdmjdcapkjnipaaFx0
import Derived.Test.YtdmjdcapkjnipaaFx1
import Derived.Test.YtdmjdcapkjnipaaFx2
import Derived.Test.YtdmjdcapkjnipaaFx3
import Derived.Test.YtdmjdcapkjnipaaFx4
import Derived.Test.YtdmjdcapkjnipaaFx5
import Derived.Test.YtdmjdcapkjnipaaTell
namespace Go.Proofs.Ytdmjdcapkjnipaa.QKept
open Go Go.RowKit Go.Proofs.Ytdmjdcapkjnipaa.Tell Go.Proofs.Ytdmjdcapkjnipaa.F Go.Proofs.YtdmjdcapkjnipaaW Go.Proofs.YtdmjdcapkjnipaaW.PrintWords Go.Proofs.YtdmjdcapkjnipaaW.PrintLast Go.Proofs.YtdmjdcapkjnipaaW.PrintMore
set_option linter.unusedVariables false
set_option linter.unusedSimpArgs false

theorem toByteS_loop (l : List Int) (hl : l.length ≤ 1099511627776) (d : Nat) : ∀ i : Nat, l.length - i = d → i ≤ l.length →
    Ev (fun k => laws_toByteS.l0 k l (l.take i ++ List.replicate (l.length - i) 0) (i : Int)) l := by
  induction d with
  | zero =>
    intro i hd hi
    obtain rfl : i = l.length := by omega
    refine Ev.step (f := fun _ => some l) (fun k => ?_) (Ev.now _)
    simp only [laws_toByteS.l0]
    rw [if_neg (by omega)]; simp
  | succ d ih =>
    intro i hd hi
    refine Ev.step (fun k => ?_) (ih (i + 1) (by omega) (by omega))
    simp only [laws_toByteS.l0]
    have w : wrap64 ((i : Int) + 1) = ((i + 1 : Nat) : Int) := by unfold wrap64; omega
    have hlt : i < l.length := by omega
    have hll : (l.take i ++ List.replicate (l.length - i) (0 : Int)).length = l.length := by rw [List.length_append, List.length_take, List.length_replicate]; omega
    have hr : rd l (i : Int) = l[i] := by unfold rd; simp [List.getD_eq_getElem?_getD, hlt]
    have hs : (l.take i ++ List.replicate (l.length - i) (0 : Int)).set i l[i] = l.take (i + 1) ++ List.replicate (l.length - (i + 1)) 0 := by
      obtain ⟨m, hm⟩ : ∃ m, l.length - i = m + 1 := ⟨l.length - i - 1, by omega⟩
      have hm2 : l.length - (i + 1) = m := by omega
      rw [hm, hm2, List.set_append_right _ _ (by rw [List.length_take]; omega), List.length_take, Nat.min_eq_left (by omega), Nat.sub_self, List.replicate_succ, List.set_cons_zero, List.take_succ_eq_append_getElem hlt, List.append_assoc]
      rfl
    rw [if_pos (by omega), if_pos (by omega), if_pos (by rw [hll]; omega), w, Int.toNat_natCast, hr, hs]
theorem toByteS_ev (l : List Int) (hl : l.length ≤ 1099511627776) : Ev (fun k => laws_toByteS.f k l) l := by
  unfold laws_toByteS.f
  simp only [if_pos (show 0 ≤ (l.length : Int) by omega), Int.toNat_natCast, if_pos (show l.length ≤ 281474976710656 by omega)]
  have h := toByteS_loop l hl l.length 0 (by omega) (by omega)
  simpa using h

theorem eqByteS_loop (l : List Int) (hl : l.length ≤ 1099511627776) (d : Nat) : ∀ i : Nat, l.length - i = d → i ≤ l.length → Ev (fun k => laws_eqByteS.l0 k l l (i : Int)) true := by
  induction d with
  | zero =>
    intro i hd hi
    refine Ev.step (f := fun _ => some true) (fun k => ?_) (Ev.now _)
    simp only [laws_eqByteS.l0]
    rw [if_neg (by omega)]
  | succ d ih =>
    intro i hd hi
    refine Ev.step (fun k => ?_) (ih (i + 1) (by omega) (by omega))
    simp only [laws_eqByteS.l0]
    have w : wrap64 ((i : Int) + 1) = ((i + 1 : Nat) : Int) := by unfold wrap64; omega
    rw [if_pos (by omega), if_pos (by omega), if_pos (by omega), if_pos trivial, w]
theorem eqByteS_self (l : List Int) (hl : l.length ≤ 1099511627776) : Ev (fun k => laws_eqByteS.f k l l) true := by
  unfold laws_eqByteS.f
  simp only [if_true]
  exact eqByteS_loop l hl l.length 0 (by omega) (by omega)

/-- The marks of n bytes. -/
def marks (n : Nat) : List Int := (List.range n).map fun (i : Nat) => ((i : Int) + 1) % 256
theorem marks_length (n : Nat) : (marks n).length = n := by simp [marks]
theorem mark_loop (l : List Int) (hl : l.length ≤ 1099511627776) (d : Nat) : ∀ i : Nat, l.length - i = d → i ≤ l.length →
    Ev (fun k => laws_markByteS.l0 k (marks i ++ l.drop i) ((i : Int) + 1) (i : Int)) ((l.length : Int) + 1, marks l.length) := by
  induction d with
  | zero =>
    intro i hd hi
    obtain rfl : i = l.length := by omega
    refine Ev.step (f := fun _ => some ((l.length : Int) + 1, marks l.length)) (fun k => ?_) (Ev.now _)
    simp only [laws_markByteS.l0]
    rw [if_neg (by simp [marks_length])]; simp
  | succ d ih =>
    intro i hd hi
    refine Ev.step (fun k => ?_) (ih (i + 1) (by omega) (by omega))
    simp only [laws_markByteS.l0]
    have w : wrap64 ((i : Int) + 1) = ((i + 1 : Nat) : Int) := by unfold wrap64; omega
    have w2 : wrap64 ((i : Int) + 1 + 1) = (((i + 1 : Nat) : Int)) + 1 := by unfold wrap64; omega
    have hlt : i < l.length := by omega
    have hs : (marks i ++ l.drop i).set i (((i : Int) + 1) % 256) = marks (i + 1) ++ l.drop (i + 1) := by
      rw [List.set_append_right _ _ (by rw [marks_length]; omega), marks_length, Nat.sub_self, List.drop_eq_getElem_cons hlt, List.set_cons_zero]
      unfold marks
      rw [List.range_succ, List.map_append, List.append_assoc]; rfl
    rw [if_pos (by rw [List.length_append, marks_length, List.length_drop]; omega), if_pos (by omega), w, w2, Int.toNat_natCast, hs]
theorem mark_ev (l : List Int) (hl : l.length ≤ 1099511627776) : Ev (fun k => laws_markByteS.f k l 1) ((l.length : Int) + 1, marks l.length) := by
  unfold laws_markByteS.f
  have h := mark_loop l hl l.length 0 (by omega) (by omega)
  simpa [marks] using h

theorem held_loop (n : Nat) (hn : n ≤ 1099511627776) (d : Nat) : ∀ i : Nat, n - i = d → i ≤ n →
    Ev (fun k => laws_heldByteS.l0 k (marks n) ((i : Int) + 1) (i : Int)) ((n : Int) + 1) := by
  induction d with
  | zero =>
    intro i hd hi
    obtain rfl : i = n := by omega
    refine Ev.step (f := fun _ => some ((i : Int) + 1)) (fun k => ?_) (Ev.now _)
    simp only [laws_heldByteS.l0]
    rw [if_neg (by rw [marks_length]; omega)]
  | succ d ih =>
    intro i hd hi
    refine Ev.step (fun k => ?_) (ih (i + 1) (by omega) (by omega))
    simp only [laws_heldByteS.l0]
    have w : wrap64 ((i : Int) + 1) = ((i + 1 : Nat) : Int) := by unfold wrap64; omega
    have w2 : wrap64 ((i : Int) + 1 + 1) = (((i + 1 : Nat) : Int)) + 1 := by unfold wrap64; omega
    have hr : rd (marks n) (i : Int) = ((i : Int) + 1) % 256 := by
      unfold rd marks
      rw [Int.toNat_natCast, List.getD_eq_getElem?_getD, List.getElem?_map, List.getElem?_range (by omega)]; rfl
    rw [if_pos (by rw [marks_length]; omega), if_pos (by omega), if_pos hr, w, w2]
theorem held_ev (n : Nat) (hn : n ≤ 1099511627776) : Ev (fun k => laws_heldByteS.f k (marks n) 1) ((n : Int) + 1) := by
  unfold laws_heldByteS.f
  have h := held_loop n hn n 0 (by omega) (by omega)
  simpa using h

/-- The n lowest bytes of a number, the lowest first. -/
def le (n : Nat) (x : Int) : List Int := (List.range n).map fun i => x / 256 ^ i % 256
theorem le_length (n : Nat) (x : Int) : (le n x).length = n := by simp [le]
theorem le_zero (x : Int) : le 0 x = [] := rfl
theorem le_succ (n : Nat) (x : Int) : le (n + 1) x = x % 256 :: le n (x / 256) := by
  unfold le
  rw [List.range_succ_eq_map, List.map_cons, List.map_map]
  congr 1
  · simp
  · apply List.map_congr_left
    intro i _
    show x / 256 ^ (i + 1) % 256 = x / 256 / 256 ^ i % 256
    rw [Int.pow_succ, Int.mul_comm (256 ^ i) 256, Int.ediv_ediv_of_nonneg (by decide)]
theorem put_loop (n : Nat) (hn : n ≤ 1000) (d : Nat) : ∀ (i : Nat) (acc : List Int) (x : Int), n - i = d → i ≤ n → 0 ≤ x → x < 18446744073709551616 → acc.length + d ≤ 1099511627776 →
    Ev (fun k => spec_l19Put.l0 k acc x (n : Int) (i : Int)) (acc ++ le d x) := by
  induction d with
  | zero =>
    intro i acc x hd hi h0 h1 hl
    rw [le_zero, List.append_nil]
    refine Ev.step (f := fun _ => some acc) (fun k => ?_) (Ev.now _)
    simp only [spec_l19Put.l0]
    rw [if_neg (by omega)]
  | succ d ih =>
    intro i acc x hd hi h0 h1 hl
    have w : wrap64 ((i : Int) + 1) = ((i + 1 : Nat) : Int) := by unfold wrap64; omega
    have e1 : Int.tmod x 256 % 256 = x % 256 := by rw [Int.tmod_eq_emod_of_nonneg h0]; omega
    have e2 : IntKind.u64.wrap (Int.tdiv x 256) = x / 256 := by
      rw [Int.tdiv_eq_ediv_of_nonneg h0, IntKind.wrap_u64]; omega
    have h := ih (i + 1) (acc ++ [x % 256]) (x / 256) (by omega) (by omega) (by omega) (by omega) (by simp; omega)
    rw [le_succ, show acc ++ x % 256 :: le d (x / 256) = acc ++ [x % 256] ++ le d (x / 256) by simp]
    refine Ev.step (fun k => ?_) h
    simp only [spec_l19Put.l0]
    rw [if_pos (by omega), if_pos (by omega), e1, e2, w]
theorem put_ev (acc : List Int) (x : Int) (n : Nat) (hn : n ≤ 1000) (h0 : 0 ≤ x) (h1 : x < 18446744073709551616) (hl : acc.length ≤ 1000000) : ∃ k, spec_l19Put.f k acc x (n : Int) = some (acc ++ le n x) := by
  have h := put_loop n hn n 0 acc x (by omega) (by omega) h0 h1 (by omega)
  exact Ev.rounds h

theorem little_ev (x : Int) (n : Nat) (hn : n ≤ 8) (h0 : 0 ≤ x) (h1 : x < 18446744073709551616) : ∃ k, impl_little.f k x (n : Int) = some (le n x) := by
  apply Ev.rounds
  have h := map_loop (L := fun k xs i => impl_little.l0 k x xs (n : Int) i) (l := List.range n) (c := fun i => x / 256 ^ i % 256) (z := (0 : Int)) (fun xs => by
      refine Ev.step (f := fun _ => some xs) (fun k => ?_) (Ev.now _)
      simp only [impl_little.l0, List.length_range]
      rw [if_neg (by omega)]) (fun i hi xs r hxs hr => by
      rw [List.length_range] at hi hxs
      refine Ev.step (fun k => ?_) hr
      have w : wrap64 ((i : Int) + 1) = ((i + 1 : Nat) : Int) := by unfold wrap64; omega
      have w8 : wrap64 (8 * (i : Int)) = ((8 * i : Nat) : Int) := by unfold wrap64; omega
      have hs : shr .u64 x ((8 * i : Nat) : Int) = x / 256 ^ i := by
        unfold shr
        have hm : min (Int.toNat ((8 * i : Nat) : Int)) IntKind.u64.bits = 8 * i := by rw [Int.toNat_natCast]; exact Nat.min_eq_left (by show 8 * i ≤ 64; omega)
        rw [hm, Int.pow_mul]; rfl
      simp only [impl_little.l0]
      rw [if_pos (by omega), w8, if_pos (by omega), if_pos (by omega), if_pos (by omega), hs, w, Int.toNat_natCast]
      simp only [List.getElem_range])
  refine Ev.congr (fun k => ?_) h
  unfold impl_little.f
  rw [if_pos (by omega), if_pos (by omega)]
  simp only [Option.bind_some, List.length_replicate, List.length_range, Int.toNat_natCast]
  rfl

def flags (a b : Bool) : Int := a.toNat + 2 * b.toNat
theorem flags_eq (a b : Bool) : spec_l19Flags.f a b = some (flags a b) := by cases a <;> cases b <;> rfl
theorem flags_range (a b : Bool) : 0 ≤ flags a b ∧ flags a b < 4 := by cases a <;> cases b <;> decide

end Go.Proofs.Ytdmjdcapkjnipaa.QKept
