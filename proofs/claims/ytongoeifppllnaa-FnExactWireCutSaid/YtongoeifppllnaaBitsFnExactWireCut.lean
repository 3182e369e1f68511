/- What the printed functions tell that the law FnExactWireCut reaches, over numbers and lists alone. -/
import Derived.Test.YtongoeifppllnaaMarkC
import Derived.Test.YtongoeifppllnaaCutC
import Derived.Test.YtongoeifppllnaaCx1
import Derived.Test.YtongoeifppllnaaCx2
import Derived.Test.YtongoeifppllnaaCx3
import Derived.Test.YtongoeifppllnaaCx4
import Derived.Test.YtongoeifppllnaaCx5
import Derived.Test.YtongoeifppllnaaCx6
import Derived.Test.YtongoeifppllnaaCx7
import Derived.Test.YtongoeifppllnaaCx8
import Derived.Test.YtongoeifppllnaaTell
namespace Go.Proofs.Ytongoeifppllnaa.BFnExactWireCut
open Go Go.RowKit Go.Proofs.Ytongoeifppllnaa.Tell Go.Proofs.Ytongoeifppllnaa.C Go.Proofs.YtongoeifppllnaaW.PrintWords Go.Proofs.YtongoeifppllnaaW.PrintLast Go.Proofs.YtongoeifppllnaaW.PrintMore
set_option linter.unusedVariables false
set_option linter.unusedSimpArgs false

theorem toByteS_loop (l : List Int) (hl : l.length ≤ 1099511627776) (d : Nat) : ∀ i : Nat, l.length - i = d → i ≤ l.length →
    Ev (fun k => laws_toByteS.l0 k l (l.take i ++ List.replicate (l.length - i) 0) (i : Int)) l := by
  induction d with
  | zero =>
    intro i hd hi
    obtain rfl : i = l.length := by omega
    refine Ev.step (f := fun _ => some l) (fun k => ?_) (Ev.now _)
    simp only [laws_toByteS.l0]
    rw [if_neg (by omega)]; simp
  | succ d ih =>
    intro i hd hi
    refine Ev.step (fun k => ?_) (ih (i + 1) (by omega) (by omega))
    simp only [laws_toByteS.l0]
    have w : wrap64 ((i : Int) + 1) = ((i + 1 : Nat) : Int) := by unfold wrap64; omega
    have hlt : i < l.length := by omega
    have hll : (l.take i ++ List.replicate (l.length - i) (0 : Int)).length = l.length := by rw [List.length_append, List.length_take, List.length_replicate]; omega
    have hr : rd l (i : Int) = l[i] := by unfold rd; simp [List.getD_eq_getElem?_getD, hlt]
    have hs : (l.take i ++ List.replicate (l.length - i) (0 : Int)).set i l[i] = l.take (i + 1) ++ List.replicate (l.length - (i + 1)) 0 := by
      obtain ⟨m, hm⟩ : ∃ m, l.length - i = m + 1 := ⟨l.length - i - 1, by omega⟩
      have hm2 : l.length - (i + 1) = m := by omega
      rw [hm, hm2, List.set_append_right _ _ (by rw [List.length_take]; omega), List.length_take, Nat.min_eq_left (by omega), Nat.sub_self, List.replicate_succ, List.set_cons_zero, List.take_succ_eq_append_getElem hlt, List.append_assoc]
      rfl
    rw [if_pos (by omega), if_pos (by omega), if_pos (by rw [hll]; omega), w, Int.toNat_natCast, hr, hs]
theorem toByteS_ev (l : List Int) (hl : l.length ≤ 1099511627776) : Ev (fun k => laws_toByteS.f k l) l := by
  unfold laws_toByteS.f
  simp only [if_pos (show 0 ≤ (l.length : Int) by omega), Int.toNat_natCast, if_pos (show l.length ≤ 281474976710656 by omega)]
  have h := toByteS_loop l hl l.length 0 (by omega) (by omega)
  simpa using h

theorem eqByteS_loop (l : List Int) (hl : l.length ≤ 1099511627776) (d : Nat) : ∀ i : Nat, l.length - i = d → i ≤ l.length → Ev (fun k => laws_eqByteS.l0 k l l (i : Int)) true := by
  induction d with
  | zero =>
    intro i hd hi
    refine Ev.step (f := fun _ => some true) (fun k => ?_) (Ev.now _)
    simp only [laws_eqByteS.l0]
    rw [if_neg (by omega)]
  | succ d ih =>
    intro i hd hi
    refine Ev.step (fun k => ?_) (ih (i + 1) (by omega) (by omega))
    simp only [laws_eqByteS.l0]
    have w : wrap64 ((i : Int) + 1) = ((i + 1 : Nat) : Int) := by unfold wrap64; omega
    rw [if_pos (by omega), if_pos (by omega), if_pos (by omega), if_pos trivial, w]
theorem eqByteS_self (l : List Int) (hl : l.length ≤ 1099511627776) : Ev (fun k => laws_eqByteS.f k l l) true := by
  unfold laws_eqByteS.f
  simp only [if_true]
  exact eqByteS_loop l hl l.length 0 (by omega) (by omega)

theorem eqWireWord_self (a b c d : Int) (l : List Int) (hl : l.length ≤ 1099511627776) : Ev (fun k => laws_eqWireWord.f k a b c d l a b c d l) true := by
  unfold laws_eqWireWord.f
  simp only [if_true]
  exact Ev.bind (eqByteS_self l hl) (Ev.now _)

theorem eqWireWordS_self (l : List S36) (hl : l.length ≤ 1048576) (ha : ∀ x ∈ l, x.f4.length ≤ 1048576) : Ev (fun k => laws_eqWireWordS.f k l l) true := by
  unfold laws_eqWireWordS.f
  simp only [if_true]
  refine all_loop (L := fun k i => laws_eqWireWordS.l0 k l l i) (n := l.length) ?_ (fun i h hr => ?_)
  · refine Ev.step (f := fun _ => some true) (fun k => ?_) (Ev.now _)
    simp only [laws_eqWireWordS.l0]; rw [if_neg (by omega)]
  · have w : wrap64 ((i : Int) + 1) = ((i + 1 : Nat) : Int) := by unfold wrap64; omega
    have hg : rd_T36 l (i : Int) = l[i] := by unfold rd_T36; rw [Int.toNat_natCast, getD_lt l _ i h]
    have hal := ha _ (List.getElem_mem h)
    refine Ev.step (f := fun k => (laws_eqWireWord.f k (l[i]).f0 (l[i]).f1 (l[i]).f2 (l[i]).f3 (l[i]).f4 (l[i]).f0 (l[i]).f1 (l[i]).f2 (l[i]).f3 (l[i]).f4).bind fun t => (if t = true then (laws_eqWireWordS.l0 k l l ((i + 1 : Nat) : Int)) else (some false))) (fun k => ?_) ?_
    · simp only [laws_eqWireWordS.l0]
      rw [if_pos (by omega), if_pos (by omega), if_pos (by omega), hg, w]
    · refine Ev.bind (eqWireWord_self _ _ _ _ _ (by omega)) ?_
      simp only [if_true]
      exact hr

theorem heldB_go (c : Int) (n : Nat) (hn : n ≤ 1000000) (h0 : 0 ≤ c) (h1 : c ≤ 4000000000) (d : Nat) : ∀ i : Nat, n - i = d → i ≤ n → Ev (fun k => laws_heldByteS.l0 k (mkB c n) (c + (i : Int)) (i : Int)) (c + (n : Int)) := by
  induction d with
  | zero =>
    intro i hd hi
    obtain rfl : i = n := by omega
    refine Ev.step (f := fun _ => some (c + (i : Int))) (fun k => ?_) (Ev.now _)
    simp only [laws_heldByteS.l0]; rw [if_neg (by rw [mkB_length]; omega)]
  | succ d ih =>
    intro i hd hi
    have hlt : i < n := by omega
    have w : wrap64 ((i : Int) + 1) = ((i + 1 : Nat) : Int) := by unfold wrap64; omega
    have w2 : wrap64 (c + (i : Int) + 1) = c + ((i + 1 : Nat) : Int) := by unfold wrap64; omega
    have hr : rd (mkB c n) (i : Int) = (c + (i : Int)) % 256 := by
      unfold rd mkB
      rw [Int.toNat_natCast, List.getD_eq_getElem?_getD, List.getElem?_map, List.getElem?_range hlt]
      rfl
    refine Ev.step (fun k => ?_) (ih (i + 1) (by omega) (by omega))
    simp only [laws_heldByteS.l0]
    rw [if_pos (by rw [mkB_length]; omega), if_pos (by omega), if_pos hr, w, w2]
theorem heldB_ev (c : Int) (n : Nat) (hn : n ≤ 1000000) (h0 : 0 ≤ c) (h1 : c ≤ 4000000000) : Ev (fun k => laws_heldByteS.f k (mkB c n) c) (c + (n : Int)) := by
  unfold laws_heldByteS.f
  have := heldB_go c n hn h0 h1 n 0 (by omega) (by omega)
  simpa using this

theorem mkA_at (a : Int) (l : List S36) (i : Nat) (h : i < l.length) : (mkA a l)[i]? = some (mkw (cntA a (l.take i)) l[i]) := by
  have hs : l = (l.take i ++ [l[i]]) ++ l.drop (i + 1) := by rw [← List.take_succ_eq_append_getElem h, List.take_append_drop]
  have key : ∀ (b : Int) (p q : List S36), mkA b (p ++ q) = mkA b p ++ mkA (cntA b p) q := by
    intro b p
    induction p generalizing b with
    | nil => intro q; rfl
    | cons y ys ih => intro q; simp [mkA, cntA, ih]
  have hl : (mkA a (l.take i)).length = i := by rw [mkA_length, List.length_take]; omega
  have e : mkA a l = mkA a (l.take i) ++ (mkw (cntA a (l.take i)) l[i] :: mkA (cntA a (l.take i ++ [l[i]])) (l.drop (i + 1))) := by
    conv => lhs; rw [hs]
    rw [key, mkA_snoc, List.append_assoc]
    rfl
  rw [e, List.getElem?_append_right (by omega), hl, Nat.sub_self]
  rfl
theorem heldW_go (l : List S36) (hl : l.length ≤ 1000) (hf : ∀ y ∈ l, y.f4.length ≤ 1000) (d : Nat) : ∀ i : Nat, l.length - i = d → i ≤ l.length → Ev (fun k => laws_heldWireWordS.l0 k (mkA 1 l) (cntA 1 (l.take i)) (i : Int)) (cntA 1 l) := by
  induction d with
  | zero =>
    intro i hd hi
    obtain rfl : i = l.length := by omega
    refine Ev.step (f := fun _ => some (cntA 1 l)) (fun k => ?_) (Ev.now _)
    simp only [laws_heldWireWordS.l0]; rw [if_neg (by rw [mkA_length]; omega), List.take_length]
  | succ d ih =>
    intro i hd hi
    have hlt : i < l.length := by omega
    have w : wrap64 ((i : Int) + 1) = ((i + 1 : Nat) : Int) := by unfold wrap64; omega
    have hcl := cntA_le 1 (l.take i) (fun z hz => hf z (List.mem_of_mem_take hz))
    have hcg := cntA_ge 1 (l.take i)
    rw [List.length_take] at hcl
    have hnext : cntA 1 (l.take (i + 1)) = cntA 1 (l.take i) + 4 + (l[i]).f4.length := by rw [List.take_succ_eq_append_getElem hlt, cntA_snoc]
    have hyl := hf _ (List.getElem_mem hlt)
    have hr := ih (i + 1) (by omega) (by omega)
    rw [hnext] at hr
    have hg : rd_T36 (mkA 1 l) (i : Int) = mkw (cntA 1 (l.take i)) l[i] := by
      unfold rd_T36
      rw [Int.toNat_natCast, List.getD_eq_getElem?_getD, mkA_at 1 l i hlt]
      rfl
    generalize cntA 1 (l.take i) = ct at hcl hcg hr hg hnext
    generalize l[i] = y at hg hyl hr
    have e1 : wrap64 (ct + 1) = ct + 1 := by unfold wrap64; omega
    have e2 : wrap64 (ct + 1 + 1) = ct + 2 := by unfold wrap64; omega
    have e3 : wrap64 (ct + 2 + 1) = ct + 3 := by unfold wrap64; omega
    have e4 : wrap64 (ct + 3 + 1) = ct + 4 := by unfold wrap64; omega
    refine Ev.step (f := fun k => (laws_heldByteS.f k (mkB (ct + 4) y.f4.length) (ct + 4)).bind fun t174 => (if t174 < 0 then (some (-1)) else (laws_heldWireWordS.l0 k (mkA 1 l) t174 ((i + 1 : Nat) : Int)))) (fun k => ?_) ?_
    · simp only [laws_heldWireWordS.l0]
      rw [if_pos (by rw [mkA_length]; omega), if_pos (by omega), hg, e1, e2, e3, e4, w, if_pos (show (mkw ct y).f0 = ct from rfl), if_pos (show (mkw ct y).f1 = ct + 1 from rfl), if_pos (show (mkw ct y).f2 = ct + 2 from rfl), if_pos (show (mkw ct y).f3 = ct + 3 from rfl)]
      rfl
    · refine Ev.bind (heldB_ev _ _ (by omega) (by omega) (by omega)) ?_
      simp only [if_neg (show ¬ (ct + 4 + (y.f4.length : Int) < 0) by omega)]
      exact hr
theorem heldW_ev (l : List S36) (hl : l.length ≤ 1000) (hf : ∀ y ∈ l, y.f4.length ≤ 1000) : Ev (fun k => laws_heldWireWordS.f k (mkA 1 l) 1) (cntA 1 l) := by
  unfold laws_heldWireWordS.f
  have := heldW_go l hl hf l.length 0 (by omega) (by omega)
  simpa [cntA] using this

theorem impl_WireCut_go (a0 : Int) (l : List Int) (hl : l.length ≤ 21600) (d : Nat) : ∀ i : Nat, ofn l - i = d → i ≤ ofn l → Ev (fun k => impl_WireCut.l0 k a0 l (ofn l : Int) (pieces a0 l i) (i : Int)) (pieces a0 l (ofn l), true) := by
  induction d with
  | zero =>
    intro i hd hi
    obtain rfl : i = ofn l := by omega
    refine Ev.step (f := fun _ => some (pieces a0 l (ofn l), true)) (fun k => ?_) (Ev.now _)
    simp only [impl_WireCut.l0]; rw [if_neg (by omega)]
  | succ d ih =>
    intro i hd hi
    have h24 : 24 * i < l.length := by unfold ofn at hd; omega
    have hi2 : i ≤ 21600 := by omega
    have w : wrap64 ((i : Int) + 1) = ((i + 1 : Nat) : Int) := by unfold wrap64; omega
    refine Ev.step (f := fun k => impl_WireCut.l0 k a0 l (ofn l : Int) (pieces a0 l (i + 1)) ((i + 1 : Nat) : Int)) (fun k => ?_) (ih (i + 1) (by omega) (by omega))
    simp only [impl_WireCut.l0]
    rw [if_pos (by omega), spec_l20Piece_val a0 l i h24 hl, Option.bind_some, if_pos (by rw [pieces_length]; omega), w, pieces_succ]
    rfl
theorem impl_WireCut_ev (a0 : Int) (l : List Int) : Ev (fun k => impl_WireCut.f k a0 l) (if wof l ≠ 0 ∧ 1 ≤ a0 ∧ a0 ≤ 1000000 then (pieces a0 l (ofn l), true) else ([], false)) := by
  unfold impl_WireCut.f
  simp only [spec_WireOf_val, Option.bind_some]
  have nope : Ev (fun k => impl_WireCut.j0 k a0 l (wof l : Int) true) ([], false) := by
    refine Ev.step (f := fun _ => some ([], false)) (fun k => ?_) (Ev.now _)
    simp only [impl_WireCut.j0, if_true]
  by_cases c0 : wof l = 0
  · rw [if_neg (by omega)]
    simp only [if_pos (show (wof l : Int) = 0 by omega)]
    exact nope
  · simp only [if_neg (show ¬ (wof l : Int) = 0 by omega)]
    by_cases c1 : a0 < 1
    · rw [if_neg (by omega)]
      simp only [if_pos c1]
      exact nope
    · simp only [if_neg c1]
      by_cases c2 : a0 > 1000000
      · rw [if_neg (by omega), decide_eq_true c2]
        exact nope
      · obtain ⟨h1, h2, h3⟩ := wof_pos c0
        rw [if_pos ⟨c0, by omega, by omega⟩, decide_eq_false c2]
        refine Ev.step (f := fun k => impl_WireCut.l0 k a0 l (ofn l : Int) (pieces a0 l 0) ((0 : Nat) : Int)) (fun k => ?_) (impl_WireCut_go a0 l h2 (ofn l) 0 (by omega) (by omega))
        simp only [impl_WireCut.j0]
        rw [if_neg (by decide), h3]
        rfl

theorem spec_WireCut_go (a0 : Int) (l : List Int) (hl : l.length ≤ 21600) (d : Nat) : ∀ i : Nat, ofn l - i = d → i ≤ ofn l → Ev (fun k => spec_WireCut.l0 k a0 l (ofn l : Int) (pieces a0 l i) (i : Int)) (pieces a0 l (ofn l), true) := by
  induction d with
  | zero =>
    intro i hd hi
    obtain rfl : i = ofn l := by omega
    refine Ev.step (f := fun _ => some (pieces a0 l (ofn l), true)) (fun k => ?_) (Ev.now _)
    simp only [spec_WireCut.l0]; rw [if_neg (by omega)]
  | succ d ih =>
    intro i hd hi
    have h24 : 24 * i < l.length := by unfold ofn at hd; omega
    have hi2 : i ≤ 21600 := by omega
    have w : wrap64 ((i : Int) + 1) = ((i + 1 : Nat) : Int) := by unfold wrap64; omega
    refine Ev.step (f := fun k => spec_WireCut.l0 k a0 l (ofn l : Int) (pieces a0 l (i + 1)) ((i + 1 : Nat) : Int)) (fun k => ?_) (ih (i + 1) (by omega) (by omega))
    simp only [spec_WireCut.l0]
    rw [if_pos (by omega), spec_l20Piece_val a0 l i h24 hl, Option.bind_some, if_pos (by rw [pieces_length]; omega), w, pieces_succ]
    rfl
theorem spec_WireCut_ev (a0 : Int) (l : List Int) : Ev (fun k => spec_WireCut.f k a0 l) (if wof l ≠ 0 ∧ 1 ≤ a0 ∧ a0 ≤ 1000000 then (pieces a0 l (ofn l), true) else ([], false)) := by
  unfold spec_WireCut.f
  simp only [spec_WireOf_val, Option.bind_some]
  have nope : Ev (fun k => spec_WireCut.j0 k a0 l (wof l : Int) true) ([], false) := by
    refine Ev.step (f := fun _ => some ([], false)) (fun k => ?_) (Ev.now _)
    simp only [spec_WireCut.j0, if_true]
  by_cases c0 : wof l = 0
  · rw [if_neg (by omega)]
    simp only [if_pos (show (wof l : Int) = 0 by omega)]
    exact nope
  · simp only [if_neg (show ¬ (wof l : Int) = 0 by omega)]
    by_cases c1 : a0 < 1
    · rw [if_neg (by omega)]
      simp only [if_pos c1]
      exact nope
    · simp only [if_neg c1]
      by_cases c2 : a0 > 1000000
      · rw [if_neg (by omega), decide_eq_true c2]
        exact nope
      · obtain ⟨h1, h2, h3⟩ := wof_pos c0
        rw [if_pos ⟨c0, by omega, by omega⟩, decide_eq_false c2]
        refine Ev.step (f := fun k => spec_WireCut.l0 k a0 l (ofn l : Int) (pieces a0 l 0) ((0 : Nat) : Int)) (fun k => ?_) (spec_WireCut_go a0 l h2 (ofn l) 0 (by omega) (by omega))
        simp only [spec_WireCut.j0]
        rw [if_neg (by decide), h3]
        rfl

end Go.Proofs.Ytongoeifppllnaa.BFnExactWireCut
