/- What the printed functions tell that the law FnExactPicSum reaches, over numbers and lists alone. -/
import Derived.Test.YtoeijldmebocmaaFx1
import Derived.Test.YtoeijldmebocmaaFx4
import Derived.Test.YtoeijldmebocmaaFx5
import Derived.Test.YtoeijldmebocmaaTell
namespace Go.Proofs.Ytoeijldmebocmaa.BFnExactPicSum
open Go Go.RowKit Go.Proofs.Ytoeijldmebocmaa.Tell Go.Proofs.Ytoeijldmebocmaa.F Go.Proofs.YtoeijldmebocmaaW.PrintWords Go.Proofs.YtoeijldmebocmaaW.PrintLast Go.Proofs.YtoeijldmebocmaaW.PrintMore
set_option linter.unusedVariables false
set_option linter.unusedSimpArgs false

theorem toByteS_loop (l : List Int) (hl : l.length ≤ 1099511627776) (d : Nat) : ∀ i : Nat, l.length - i = d → i ≤ l.length →
    Ev (fun k => laws_toByteS.l0 k l (l.take i ++ List.replicate (l.length - i) 0) (i : Int)) l := by
  induction d with
  | zero =>
    intro i hd hi
    obtain rfl : i = l.length := by omega
    refine Ev.step (f := fun _ => some l) (fun k => ?_) (Ev.now _)
    simp only [laws_toByteS.l0]
    rw [if_neg (by omega)]; simp
  | succ d ih =>
    intro i hd hi
    refine Ev.step (fun k => ?_) (ih (i + 1) (by omega) (by omega))
    simp only [laws_toByteS.l0]
    have w : wrap64 ((i : Int) + 1) = ((i + 1 : Nat) : Int) := by unfold wrap64; omega
    have hlt : i < l.length := by omega
    have hll : (l.take i ++ List.replicate (l.length - i) (0 : Int)).length = l.length := by rw [List.length_append, List.length_take, List.length_replicate]; omega
    have hr : rd l (i : Int) = l[i] := by unfold rd; simp [List.getD_eq_getElem?_getD, hlt]
    have hs : (l.take i ++ List.replicate (l.length - i) (0 : Int)).set i l[i] = l.take (i + 1) ++ List.replicate (l.length - (i + 1)) 0 := by
      obtain ⟨m, hm⟩ : ∃ m, l.length - i = m + 1 := ⟨l.length - i - 1, by omega⟩
      have hm2 : l.length - (i + 1) = m := by omega
      rw [hm, hm2, List.set_append_right _ _ (by rw [List.length_take]; omega), List.length_take, Nat.min_eq_left (by omega), Nat.sub_self, List.replicate_succ, List.set_cons_zero, List.take_succ_eq_append_getElem hlt, List.append_assoc]
      rfl
    rw [if_pos (by omega), if_pos (by omega), if_pos (by rw [hll]; omega), w, Int.toNat_natCast, hr, hs]
theorem toByteS_ev (l : List Int) (hl : l.length ≤ 1099511627776) : Ev (fun k => laws_toByteS.f k l) l := by
  unfold laws_toByteS.f
  simp only [if_pos (show 0 ≤ (l.length : Int) by omega), Int.toNat_natCast, if_pos (show l.length ≤ 281474976710656 by omega)]
  have h := toByteS_loop l hl l.length 0 (by omega) (by omega)
  simpa using h

theorem eqByteS_loop (l : List Int) (hl : l.length ≤ 1099511627776) (d : Nat) : ∀ i : Nat, l.length - i = d → i ≤ l.length → Ev (fun k => laws_eqByteS.l0 k l l (i : Int)) true := by
  induction d with
  | zero =>
    intro i hd hi
    refine Ev.step (f := fun _ => some true) (fun k => ?_) (Ev.now _)
    simp only [laws_eqByteS.l0]
    rw [if_neg (by omega)]
  | succ d ih =>
    intro i hd hi
    refine Ev.step (fun k => ?_) (ih (i + 1) (by omega) (by omega))
    simp only [laws_eqByteS.l0]
    have w : wrap64 ((i : Int) + 1) = ((i + 1 : Nat) : Int) := by unfold wrap64; omega
    rw [if_pos (by omega), if_pos (by omega), if_pos (by omega), if_pos trivial, w]
theorem eqByteS_self (l : List Int) (hl : l.length ≤ 1099511627776) : Ev (fun k => laws_eqByteS.f k l l) true := by
  unfold laws_eqByteS.f
  simp only [if_true]
  exact eqByteS_loop l hl l.length 0 (by omega) (by omega)

theorem wrap_u16 (n : Int) : IntKind.u16.wrap n = n % 65536 := by simp [IntKind.wrap, IntKind.bits, IntKind.signed]
theorem xor_u16 (a b : Nat) (ha : a < 65536) (hb : b < 65536) : Go.bits .xor .u16 (a : Int) (b : Int) = ((a ^^^ b : Nat) : Int) := by
  have e : Go.bits .xor .u16 (a : Int) (b : Int) = IntKind.u16.wrap (((BitVec.ofInt 16 (a : Int)) ^^^ (BitVec.ofInt 16 (b : Int))).toNat : Int) := rfl
  have hx := Nat.xor_lt_two_pow (show a < 2 ^ 16 from ha) (show b < 2 ^ 16 from hb)
  rw [e, BitVec.toNat_xor, BitVec.ofInt_natCast, BitVec.ofInt_natCast, BitVec.toNat_ofNat, BitVec.toNat_ofNat, Nat.mod_eq_of_lt (show a < 2 ^ 16 from ha), Nat.mod_eq_of_lt (show b < 2 ^ 16 from hb), wrap_u16]
  generalize a ^^^ b = z at hx
  omega
theorem l17Xor_loop (a b : Nat) (ha : a < 65536) (hb : b < 65536) (d : Nat) : ∀ i : Nat, 16 - i = d → i ≤ 16 →
    Ev (fun k => spec_l17Xor.l0 k ((a / 2 ^ i : Nat) : Int) ((b / 2 ^ i : Nat) : Int) (((a ^^^ b) % 2 ^ i : Nat) : Int) ((2 ^ i : Nat) : Int)) ((a ^^^ b : Nat) : Int) := by
  induction d with
  | zero =>
    intro i hd hi
    obtain rfl : i = 16 := by omega
    refine Ev.step (f := fun _ => some _) (fun k => ?_) (Ev.now _)
    simp only [spec_l17Xor.l0]
    rw [if_neg (by decide)]
    have hx := Nat.xor_lt_two_pow (show a < 2 ^ 16 from ha) (show b < 2 ^ 16 from hb)
    rw [Nat.mod_eq_of_lt hx]
  | succ d ih =>
    intro i hd hi
    refine Ev.step (fun k => ?_) (ih (i + 1) (by omega) (by omega))
    simp only [spec_l17Xor.l0]
    have hp : 2 ^ i ≤ 2 ^ 15 := Nat.pow_le_pow_right (by decide) (by omega)
    have hp0 : 0 < 2 ^ i := Nat.two_pow_pos i
    have h15 : (2 : Nat) ^ 15 = 32768 := by decide
    have e1 : wrap64 (Int.tdiv ((a / 2 ^ i : Nat) : Int) 2) = ((a / 2 ^ (i + 1) : Nat) : Int) := by
      rw [Nat.pow_succ, ← Nat.div_div_eq_div_mul]
      have : a / 2 ^ i ≤ a := Nat.div_le_self _ _
      generalize a / 2 ^ i = q at this
      rw [Int.tdiv_eq_ediv_of_nonneg (by omega), wrap64_in (by omega) (by omega)]; omega
    have e2 : wrap64 (Int.tdiv ((b / 2 ^ i : Nat) : Int) 2) = ((b / 2 ^ (i + 1) : Nat) : Int) := by
      rw [Nat.pow_succ, ← Nat.div_div_eq_div_mul]
      have : b / 2 ^ i ≤ b := Nat.div_le_self _ _
      generalize b / 2 ^ i = q at this
      rw [Int.tdiv_eq_ediv_of_nonneg (by omega), wrap64_in (by omega) (by omega)]; omega
    have e3 : wrap64 (((2 ^ i : Nat) : Int) * 2) = ((2 ^ (i + 1) : Nat) : Int) := by
      rw [Nat.pow_succ]
      generalize 2 ^ i = q at hp
      rw [wrap64_in (by omega) (by omega)]; omega
    have t1 : Int.tmod ((a / 2 ^ i : Nat) : Int) 2 = (if a.testBit i = true then 1 else 0) := by
      rw [Nat.testBit_eq_decide_div_mod_eq]
      generalize a / 2 ^ i = q
      rw [Int.tmod_eq_emod_of_nonneg (by omega)]
      simp only [decide_eq_true_eq]; split <;> omega
    have t2 : Int.tmod ((b / 2 ^ i : Nat) : Int) 2 = (if b.testBit i = true then 1 else 0) := by
      rw [Nat.testBit_eq_decide_div_mod_eq]
      generalize b / 2 ^ i = q
      rw [Int.tmod_eq_emod_of_nonneg (by omega)]
      simp only [decide_eq_true_eq]; split <;> omega
    have hbit : (a ^^^ b) / 2 ^ i % 2 = (a.testBit i ^^ b.testBit i).toNat := by
      rw [← Nat.testBit_xor, Nat.testBit_eq_decide_div_mod_eq]
      generalize (a ^^^ b) / 2 ^ i = q
      rcases Nat.mod_two_eq_zero_or_one q with h | h <;> simp [h]
    have hm : (a ^^^ b) % 2 ^ (i + 1) = (a ^^^ b) % 2 ^ i + 2 ^ i * (a.testBit i ^^ b.testBit i).toNat := by rw [Nat.mod_pow_succ, hbit]
    have hlt : (a ^^^ b) % 2 ^ i < 2 ^ i := Nat.mod_lt _ hp0
    rw [if_pos (by omega), e1, e2, e3, t1, t2, hm]
    generalize (a ^^^ b) % 2 ^ i = q at hlt
    generalize 2 ^ i = p at hp hlt
    have hq : wrap64 ((q : Int) + (p : Int)) = (q : Int) + (p : Int) := by unfold wrap64; omega
    clear hm hbit e1 e2 e3 t1 t2
    cases a.testBit i <;> cases b.testBit i <;> simp [hq]
theorem l17Xor_ev (a b : Nat) (ha : a < 65536) (hb : b < 65536) : Ev (fun k => spec_l17Xor.f k (a : Int) (b : Int)) ((a ^^^ b : Nat) : Int) := by
  have h := l17Xor_loop a b ha hb 16 0 (by omega) (by omega)
  unfold spec_l17Xor.f
  simpa [Nat.mod_one] using h
/-- One bit's round. -/
def rnd (s : Nat) : Nat := if s ≥ 32768 then (2 * s - 65536) ^^^ 4129 else 2 * s
theorem rnd_lt {s : Nat} (h : s < 65536) : rnd s < 65536 := by
  unfold rnd; split
  · exact Nat.xor_lt_two_pow (n := 16) (by omega) (by decide)
  · omega
def rnds : Nat → Nat → Nat
  | 0, s => s
  | n + 1, s => rnds n (rnd s)
theorem rnds_lt (n : Nat) : ∀ {s : Nat}, s < 65536 → rnds n s < 65536 := by
  induction n with
  | zero => intro s h; exact h
  | succ n ih => intro s h; exact ih (rnd_lt h)
def sum : List Int → Nat → Nat
  | [], s => s
  | x :: l, s => sum l (rnds 8 (s ^^^ (x.toNat * 256)))
theorem l17Round_ev (s : Nat) (h : s < 65536) : Ev (fun k => spec_l17Round.f k (s : Int)) (rnd s : Int) := by
  have w : wrap64 ((s : Int) * 2) = (s : Int) * 2 := wrap64_in (by omega) (by omega)
  unfold spec_l17Round.f rnd
  by_cases c : s ≥ 32768
  · have w2 : wrap64 ((s : Int) * 2 - 65536) = ((2 * s - 65536 : Nat) : Int) := by rw [wrap64_in (by omega) (by omega)]; omega
    simp only [w, if_pos (show (s : Int) * 2 ≥ 65536 by omega), w2, if_pos c]
    exact Ev.bind (l17Xor_ev (2 * s - 65536) 4129 (by omega) (by decide)) (Ev.now _)
  · simp only [w, if_neg (show ¬ (s : Int) * 2 ≥ 65536 by omega), if_neg c]
    have : (s : Int) * 2 = ((2 * s : Nat) : Int) := by omega
    rw [this]; exact Ev.now _
theorem step_lt {s : Nat} {x : Int} (h : s < 65536) (h0 : 0 ≤ x) (h1 : x ≤ 255) : s ^^^ (x.toNat * 256) < 65536 := Nat.xor_lt_two_pow (n := 16) h (by omega)
theorem spec_rounds (l : List Int) (i : Int) (r : Int) (n : Nat) (hn : n ≤ 8) : ∀ s : Nat, s < 65536 → (Ev (fun k => spec_PicSum.l0 k l (rnds n s : Int) (wrap64 (i + 1))) r) → Ev (fun k => spec_PicSum.l1 k l (s : Int) i ((8 - n : Nat) : Int)) r := by
  induction n with
  | zero =>
    intro s hs h
    refine Ev.step (fun k => ?_) h
    simp only [spec_PicSum.l1]
    rw [if_neg (by decide)]; rfl
  | succ n ih =>
    intro s hs h
    have h2 := ih (by omega) (rnd s) (rnd_lt hs) h
    refine Ev.step (f := fun k => (spec_l17Round.f k (s : Int)).bind fun t141 => (spec_PicSum.l1 k l t141 i ((8 - n : Nat) : Int))) (fun k => ?_) (Ev.bind (l17Round_ev s hs) h2)
    simp only [spec_PicSum.l1]
    have w : wrap64 (((8 - (n + 1) : Nat) : Int) + 1) = ((8 - n : Nat) : Int) := by unfold wrap64; omega
    rw [if_pos (by omega), w]
theorem spec_PicSum_loop (l : List Int) (hl : Bytes l) (hn : l.length ≤ 1099511627776) (d : Nat) : ∀ (i : Nat) (s : Nat), s < 65536 → l.length - i = d → i ≤ l.length →
    Ev (fun k => spec_PicSum.l0 k l (s : Int) (i : Int)) (sum (l.drop i) s : Int) := by
  induction d with
  | zero =>
    intro i s hs hd hi
    obtain rfl : i = l.length := by omega
    refine Ev.step (f := fun _ => some _) (fun k => ?_) (Ev.now _)
    simp only [spec_PicSum.l0]
    rw [if_neg (by omega), List.drop_length, wrap_u16]
    show some ((s : Int) % 65536) = some (s : Int)
    congr 1; omega
  | succ d ih =>
    intro i s hs hd hi
    have hlt : i < l.length := by omega
    have hr : rd l (i : Int) = l[i] := by unfold rd; simp [List.getD_eq_getElem?_getD, hlt]
    have hb := hl _ (List.getElem_mem hlt)
    have hdr : l.drop i = l[i] :: l.drop (i + 1) := List.drop_eq_getElem_cons hlt
    have hx := step_lt hs hb.1 hb.2
    rw [hdr]
    have w : wrap64 ((i : Int) + 1) = ((i + 1 : Nat) : Int) := by unfold wrap64; omega
    have w2 : wrap64 (wrap64 l[i] * 256) = ((l[i].toNat * 256 : Nat) : Int) := by rw [wrap64_in (n := l[i]) (by omega) (by omega), wrap64_in (by omega) (by omega)]; omega
    have h2 := ih (i + 1) (rnds 8 (s ^^^ (l[i].toNat * 256))) (rnds_lt 8 hx) (by omega) (by omega)
    rw [← w] at h2
    have h3 := spec_rounds l (i : Int) _ 8 (by omega) _ hx h2
    refine Ev.step (f := fun k => (spec_l17Xor.f k (s : Int) ((l[i].toNat * 256 : Nat) : Int)).bind fun t140 => (spec_PicSum.l1 k l t140 (i : Int) 0)) (fun k => ?_) (Ev.bind (l17Xor_ev s (l[i].toNat * 256) hs (by omega)) h3)
    simp only [spec_PicSum.l0]
    rw [if_pos (by omega), if_pos (by omega), hr, w2]
theorem impl_rounds (l : List Int) (i : Int) (r : Int) (n : Nat) (hn : n ≤ 8) : ∀ s : Nat, s < 65536 → (Ev (fun k => impl_PicSum.l0 k (rnds n s : Int) l (l.length : Int) (wrap64 (i + 1))) r) → Ev (fun k => impl_PicSum.l1 k (s : Int) l (l.length : Int) i ((8 - n : Nat) : Int)) r := by
  induction n with
  | zero =>
    intro s hs h
    refine Ev.step (fun k => ?_) h
    simp only [impl_PicSum.l1]
    rw [if_neg (by decide)]; rfl
  | succ n ih =>
    intro s hs h
    have h2 := ih (by omega) (rnd s) (rnd_lt hs) h
    refine Ev.step (fun k => ?_) h2
    simp only [impl_PicSum.l1]
    have w : wrap64 (((8 - (n + 1) : Nat) : Int) + 1) = ((8 - n : Nat) : Int) := by unfold wrap64; omega
    rw [if_pos (by omega), w, wrap_u16]
    unfold rnd
    by_cases c : s ≥ 32768
    · rw [if_pos (by omega), if_pos c]
      have e : (s : Int) * 2 % 65536 = ((2 * s - 65536 : Nat) : Int) := by omega
      rw [e, show (4129 : Int) = ((4129 : Nat) : Int) from rfl, xor_u16 _ _ (by omega) (by decide)]
    · rw [if_neg (by omega), if_neg c]
      have e : (s : Int) * 2 % 65536 = ((2 * s : Nat) : Int) := by omega
      rw [e]
theorem impl_PicSum_loop (l : List Int) (hl : Bytes l) (hn : l.length ≤ 1099511627776) (d : Nat) : ∀ (i : Nat) (s : Nat), s < 65536 → l.length - i = d → i ≤ l.length →
    Ev (fun k => impl_PicSum.l0 k (s : Int) l (l.length : Int) (i : Int)) (sum (l.drop i) s : Int) := by
  induction d with
  | zero =>
    intro i s hs hd hi
    obtain rfl : i = l.length := by omega
    refine Ev.step (f := fun _ => some _) (fun k => ?_) (Ev.now _)
    simp only [impl_PicSum.l0]
    rw [if_neg (by omega), List.drop_length]; rfl
  | succ d ih =>
    intro i s hs hd hi
    have hlt : i < l.length := by omega
    have hr : rd l (i : Int) = l[i] := by unfold rd; simp [List.getD_eq_getElem?_getD, hlt]
    have hb := hl _ (List.getElem_mem hlt)
    have hdr : l.drop i = l[i] :: l.drop (i + 1) := List.drop_eq_getElem_cons hlt
    have hx := step_lt hs hb.1 hb.2
    rw [hdr]
    have w : wrap64 ((i : Int) + 1) = ((i + 1 : Nat) : Int) := by unfold wrap64; omega
    have h2 := ih (i + 1) (rnds 8 (s ^^^ (l[i].toNat * 256))) (rnds_lt 8 hx) (by omega) (by omega)
    rw [← w] at h2
    have h3 := impl_rounds l (i : Int) _ 8 (by omega) _ hx h2
    refine Ev.step (fun k => ?_) h3
    simp only [impl_PicSum.l0]
    have e : IntKind.u16.wrap (IntKind.u16.wrap (l[i]) * 256) = ((l[i].toNat * 256 : Nat) : Int) := by rw [wrap_u16, wrap_u16]; omega
    rw [if_pos (by omega), if_pos (by omega), if_pos (by omega), hr, e, xor_u16 _ _ hs (by omega)]; rfl
theorem FnExactPicSum : laws_FnExactPicSum.Pure := by
  intro l hm hs hw
  refine Tells.rounds ?_
  unfold laws_FnExactPicSum.f
  by_cases c : (l.length : Int) > 1048576
  · simp only [if_pos c]; exact Tells.now rfl
  · simp only [if_neg c]
    have hb := bytes_of_wf hw
    refine Tells.bindEv (toByteS_ev l (by omega)) ?_
    refine Tells.bindEv (spec_PicSum_loop l hb (by omega) l.length 0 65535 (by decide) (by omega) (by omega)) ?_
    refine Tells.bindEv (toByteS_ev l (by omega)) ?_
    refine Tells.bindEv (impl_PicSum_loop l hb (by omega) l.length 0 65535 (by decide) (by omega) (by omega)) ?_
    simp only [if_true]
    refine Tells.bindEv (toByteS_ev l (by omega)) ?_
    exact Tells.bindEv (eqByteS_self l (by omega)) (Tells.now rfl)

end Go.Proofs.Ytoeijldmebocmaa.BFnExactPicSum
