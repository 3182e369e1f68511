/- What data is cut to, over numbers and lists alone: the pieces; when impl.WireCut's stand-in answers what. -/
import Derived.Test.YtongoeifppllnaaJx1
import Derived.Test.YtongoeifppllnaaJx2
import Derived.Test.YtongoeifppllnaaJx3
namespace Go.Proofs.Ytongoeifppllnaa.J
set_option linter.unusedVariables false
set_option linter.unusedSimpArgs false
open Go Go.RowKit Go.Proofs.YtongoeifppllnaaW.PrintWords Go.Proofs.YtongoeifppllnaaW.PrintLast Go.Proofs.YtongoeifppllnaaW.PrintMore

/-- How many pieces; the i-th piece's bytes; the piece; all of them. -/
def ofn (l : List Int) : Nat := (l.length + 23) / 24
def wof (l : List Int) : Nat := if l.length = 0 ∨ 21600 < l.length then 0 else ofn l
def chunk (l : List Int) (i : Nat) : List Int := (l.drop (24 * i)).take 24
def piece (a0 : Int) (l : List Int) (i : Nat) : S36 := ⟨1, a0, (ofn l : Int), (i : Int), chunk l i⟩
def pieces (a0 : Int) (l : List Int) (k : Nat) : List S36 := (List.range k).map (piece a0 l)
theorem pieces_succ (a0 : Int) (l : List Int) (k : Nat) : pieces a0 l (k + 1) = pieces a0 l k ++ [piece a0 l k] := by simp [pieces, List.range_succ]
theorem pieces_length (a0 : Int) (l : List Int) (k : Nat) : (pieces a0 l k).length = k := by simp [pieces]
theorem chunk_len (l : List Int) (i : Nat) : (chunk l i).length = min 24 (l.length - 24 * i) := by simp [chunk]

theorem cw64 {n : Int} (h0 : 0 ≤ n) (h1 : n < 4611686018427387904) : wrap64 n = n := by unfold wrap64; omega
theorem cwof (l : List Int) (h : l.length ≤ 4611686018427387) : wrap64 (Int.tdiv (wrap64 ((wrap64 ((l.length : Int) + 24)) - 1)) 24) = ((ofn l : Nat) : Int) := by
  rw [cw64 (n := (l.length : Int) + 24) (by omega) (by omega), cw64 (n := (l.length : Int) + 24 - 1) (by omega) (by omega), Int.tdiv_eq_ediv_of_nonneg (by omega), cw64 (by omega) (by omega)]
  unfold ofn
  omega
theorem spec_WireOf_val (l : List Int) : spec_WireOf.f l = some ((wof l : Nat) : Int) := by
  unfold spec_WireOf.f wof
  by_cases h : l.length = 0
  · rw [if_pos (by omega), if_pos (.inl h)]; rfl
  · rw [if_neg (show ¬ (l.length : Int) = 0 by omega)]
    by_cases h2 : 21600 < l.length
    · rw [if_pos (by omega), if_pos (.inr h2)]; rfl
    · rw [if_neg (by omega), if_neg (by omega), cwof l (by omega)]
theorem wof_pos {l : List Int} (h : wof l ≠ 0) : 1 ≤ l.length ∧ l.length ≤ 21600 ∧ wof l = ofn l := by
  unfold wof at *
  split at h
  · exact absurd rfl h
  · rename_i c
    exact ⟨by omega, by omega, by rw [if_neg c]⟩
theorem spec_l20Piece_val (a0 : Int) (l : List Int) (i : Nat) (hi : 24 * i < l.length) (hl : l.length ≤ 21600) : spec_l20Piece.f a0 l (i : Int) = some (1, a0, (ofn l : Int), (i : Int), chunk l i) := by
  have hw : wof l = ofn l := (wof_pos (by unfold wof ofn; rw [if_neg (by omega)]; omega)).2.2
  have w1 : wrap64 ((i : Int) * 24) = 24 * (i : Int) := by rw [cw64 (by omega) (by omega)]; omega
  have w2 : wrap64 ((wrap64 ((i : Int) + 1)) * 24) = 24 * (i : Int) + 24 := by
    rw [cw64 (n := (i : Int) + 1) (by omega) (by omega), cw64 (by omega) (by omega)]; omega
  unfold spec_l20Piece.f
  simp only [spec_WireOf_val, Option.bind_some, w1, w2, hw, List.length_nil, List.nil_append, Nat.zero_add]
  have e1 : (24 * (i : Int)).toNat = 24 * i := by omega
  by_cases c : 24 * (i : Int) + 24 > (l.length : Int)
  · rw [if_pos c, if_pos (by omega), if_pos (by omega), if_pos (by omega)]
    have e2 : ((l.take ((l.length : Int) : Int).toNat).drop (24 * (i : Int)).toNat) = chunk l i := by
      rw [e1, Int.toNat_natCast, List.take_length]
      unfold chunk
      rw [List.take_of_length_le (by rw [List.length_drop]; omega)]
    rw [e2, if_pos (by rw [chunk_len]; omega)]
  · rw [if_neg c, if_pos (by omega), if_pos (by omega), if_pos (by omega)]
    have e2 : ((l.take (24 * (i : Int) + 24).toNat).drop (24 * (i : Int)).toNat) = chunk l i := by
      rw [e1, List.drop_take, show (24 * (i : Int) + 24).toNat - 24 * i = 24 by omega]
      rfl
    rw [e2, if_pos (by rw [chunk_len]; omega)]
/-- The loop over the pieces, from the i-th on: partly (whatever it answers) .. -/
theorem impl_WireCut_loop (a0 : Int) (l : List Int) (hl : l.length ≤ 21600) : ∀ (k i : Nat) (r : List S36 × Bool), i ≤ ofn l → impl_WireCut.l0 k a0 l (ofn l : Int) (pieces a0 l i) (i : Int) = some r → r = (pieces a0 l (ofn l), true)
  | 0, _, _, _, h => by simp [impl_WireCut.l0] at h
  | k + 1, i, r, hi, h => by
    simp only [impl_WireCut.l0] at h
    by_cases c : i < ofn l
    · have h24 : 24 * i < l.length := by unfold ofn at c; omega
      rw [if_pos (by omega), spec_l20Piece_val a0 l i h24 hl, Option.bind_some, if_pos (by rw [pieces_length]; unfold ofn at c; omega), show wrap64 ((i : Int) + 1) = ((i + 1 : Nat) : Int) by (have : i ≤ 21600 := by unfold ofn at c; omega); unfold wrap64; omega] at h
      refine impl_WireCut_loop a0 l hl k (i + 1) r (by omega) ?_
      rw [pieces_succ]
      exact h
    · rw [if_neg (by omega)] at h
      obtain rfl : i = ofn l := by omega
      exact (Option.some.inj h).symm
theorem impl_WireCut_cases (k : Nat) (a0 : Int) (l : List Int) (r1 : List S36) (r2 : Bool) (h : impl_WireCut.f k a0 l = some (r1, r2)) :
    (r1 = [] ∧ r2 = false ∧ (wof l = 0 ∨ ¬ (1 ≤ a0 ∧ a0 ≤ 1000000))) ∨ (r1 = pieces a0 l (ofn l) ∧ r2 = true ∧ 1 ≤ l.length ∧ l.length ≤ 21600 ∧ 1 ≤ a0 ∧ a0 ≤ 1000000) := by
  unfold impl_WireCut.f at h
  rw [spec_WireOf_val, Option.bind_some] at h
  have nope : ∀ k, impl_WireCut.j0 k a0 l (wof l : Int) true = some (r1, r2) → r1 = [] ∧ r2 = false := by
    intro k h
    cases k with
    | zero => simp [impl_WireCut.j0] at h
    | succ k => simp [impl_WireCut.j0] at h; exact ⟨h.1, h.2⟩
  by_cases c0 : (wof l : Int) = 0
  · rw [if_pos c0] at h
    obtain ⟨h1, h2⟩ := nope k h
    exact .inl ⟨h1, h2, .inl (by omega)⟩
  · rw [if_neg c0] at h
    obtain ⟨h1, h2, h3⟩ := wof_pos (l := l) (by omega)
    by_cases c1 : a0 < 1
    · rw [if_pos c1] at h
      obtain ⟨h1, h2⟩ := nope k h
      exact .inl ⟨h1, h2, .inr (by omega)⟩
    · rw [if_neg c1] at h
      by_cases c2 : a0 > 1000000
      · rw [decide_eq_true c2] at h
        obtain ⟨h1, h2⟩ := nope k h
        exact .inl ⟨h1, h2, .inr (by omega)⟩
      · rw [decide_eq_false c2] at h
        cases k with
        | zero => simp [impl_WireCut.j0] at h
        | succ k =>
          simp only [impl_WireCut.j0, Bool.false_eq_true, if_false] at h
          rw [h3] at h
          have := impl_WireCut_loop a0 l h2 k 0 (r1, r2) (Nat.zero_le _) h
          obtain ⟨e1, e2⟩ := Prod.mk.inj this
          exact .inr ⟨e1, e2, h1, h2, by omega, by omega⟩

end Go.Proofs.Ytongoeifppllnaa.J
