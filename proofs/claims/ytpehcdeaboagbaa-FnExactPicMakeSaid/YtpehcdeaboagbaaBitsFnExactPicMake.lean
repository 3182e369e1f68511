/- What the printed functions tell that the law FnExactPicMake reaches, over numbers and lists alone. -/
import Derived.Test.YtpehcdeaboagbaaQx1
import Derived.Test.YtpehcdeaboagbaaQx10
import Derived.Test.YtpehcdeaboagbaaQx11
import Derived.Test.YtpehcdeaboagbaaQx12
import Derived.Test.YtpehcdeaboagbaaQx13
import Derived.Test.YtpehcdeaboagbaaQx14
import Derived.Test.YtpehcdeaboagbaaQx15
import Derived.Test.YtpehcdeaboagbaaQx16
import Derived.Test.YtpehcdeaboagbaaQx17
import Derived.Test.YtpehcdeaboagbaaQx18
import Derived.Test.YtpehcdeaboagbaaQx19
import Derived.Test.YtpehcdeaboagbaaQx2
import Derived.Test.YtpehcdeaboagbaaQx20
import Derived.Test.YtpehcdeaboagbaaQx3
import Derived.Test.YtpehcdeaboagbaaQx4
import Derived.Test.YtpehcdeaboagbaaQx5
import Derived.Test.YtpehcdeaboagbaaQx6
import Derived.Test.YtpehcdeaboagbaaQx7
import Derived.Test.YtpehcdeaboagbaaQx8
import Derived.Test.YtpehcdeaboagbaaQx9
import Derived.Test.YtpehcdeaboagbaaTell
namespace Go.Proofs.Ytpehcdeaboagbaa.BFnExactPicMake
open Go Go.RowKit Go.Proofs.Ytpehcdeaboagbaa.Tell Go.Proofs.Ytpehcdeaboagbaa.Q Go.Proofs.YtpehcdeaboagbaaW.PrintWords Go.Proofs.YtpehcdeaboagbaaW.PrintLast Go.Proofs.YtpehcdeaboagbaaW.PrintMore
set_option linter.unusedVariables false
set_option linter.unusedSimpArgs false

theorem eqByteS_loop (l : List Int) (hl : l.length ≤ 1099511627776) (d : Nat) : ∀ i : Nat, l.length - i = d → i ≤ l.length → Ev (fun k => laws_eqByteS.l0 k l l (i : Int)) true := by
  induction d with
  | zero =>
    intro i hd hi
    refine Ev.step (f := fun _ => some true) (fun k => ?_) (Ev.now _)
    simp only [laws_eqByteS.l0]
    rw [if_neg (by omega)]
  | succ d ih =>
    intro i hd hi
    refine Ev.step (fun k => ?_) (ih (i + 1) (by omega) (by omega))
    simp only [laws_eqByteS.l0]
    have w : wrap64 ((i : Int) + 1) = ((i + 1 : Nat) : Int) := by unfold wrap64; omega
    rw [if_pos (by omega), if_pos (by omega), if_pos (by omega), if_pos trivial, w]
theorem eqByteS_self (l : List Int) (hl : l.length ≤ 1099511627776) : Ev (fun k => laws_eqByteS.f k l l) true := by
  unfold laws_eqByteS.f
  simp only [if_true]
  exact eqByteS_loop l hl l.length 0 (by omega) (by omega)

theorem in_eq (a l h : Int) : impl_in.f a l h = some (decide (l ≤ a ∧ a ≤ h)) := by
  unfold impl_in.f
  by_cases c : l ≤ a
  · rw [if_pos c]; simp [c]
  · rw [if_neg c]; simp [c]

/-- The marks of n bytes. -/
def marks (n : Nat) : List Int := (List.range n).map fun (i : Nat) => ((i : Int) + 1) % 256
theorem marks_length (n : Nat) : (marks n).length = n := by simp [marks]
theorem mark_loop (l : List Int) (hl : l.length ≤ 1099511627776) (d : Nat) : ∀ i : Nat, l.length - i = d → i ≤ l.length →
    Ev (fun k => laws_markByteS.l0 k (marks i ++ l.drop i) ((i : Int) + 1) (i : Int)) ((l.length : Int) + 1, marks l.length) := by
  induction d with
  | zero =>
    intro i hd hi
    obtain rfl : i = l.length := by omega
    refine Ev.step (f := fun _ => some ((l.length : Int) + 1, marks l.length)) (fun k => ?_) (Ev.now _)
    simp only [laws_markByteS.l0]
    rw [if_neg (by simp [marks_length])]; simp
  | succ d ih =>
    intro i hd hi
    refine Ev.step (fun k => ?_) (ih (i + 1) (by omega) (by omega))
    simp only [laws_markByteS.l0]
    have w : wrap64 ((i : Int) + 1) = ((i + 1 : Nat) : Int) := by unfold wrap64; omega
    have w2 : wrap64 ((i : Int) + 1 + 1) = (((i + 1 : Nat) : Int)) + 1 := by unfold wrap64; omega
    have hlt : i < l.length := by omega
    have hs : (marks i ++ l.drop i).set i (((i : Int) + 1) % 256) = marks (i + 1) ++ l.drop (i + 1) := by
      rw [List.set_append_right _ _ (by rw [marks_length]; omega), marks_length, Nat.sub_self, List.drop_eq_getElem_cons hlt, List.set_cons_zero]
      unfold marks
      rw [List.range_succ, List.map_append, List.append_assoc]; rfl
    rw [if_pos (by rw [List.length_append, marks_length, List.length_drop]; omega), if_pos (by omega), w, w2, Int.toNat_natCast, hs]
theorem mark_ev (l : List Int) (hl : l.length ≤ 1099511627776) : Ev (fun k => laws_markByteS.f k l 1) ((l.length : Int) + 1, marks l.length) := by
  unfold laws_markByteS.f
  have h := mark_loop l hl l.length 0 (by omega) (by omega)
  simpa [marks] using h

theorem held_loop (n : Nat) (hn : n ≤ 1099511627776) (d : Nat) : ∀ i : Nat, n - i = d → i ≤ n →
    Ev (fun k => laws_heldByteS.l0 k (marks n) ((i : Int) + 1) (i : Int)) ((n : Int) + 1) := by
  induction d with
  | zero =>
    intro i hd hi
    obtain rfl : i = n := by omega
    refine Ev.step (f := fun _ => some ((i : Int) + 1)) (fun k => ?_) (Ev.now _)
    simp only [laws_heldByteS.l0]
    rw [if_neg (by rw [marks_length]; omega)]
  | succ d ih =>
    intro i hd hi
    refine Ev.step (fun k => ?_) (ih (i + 1) (by omega) (by omega))
    simp only [laws_heldByteS.l0]
    have w : wrap64 ((i : Int) + 1) = ((i + 1 : Nat) : Int) := by unfold wrap64; omega
    have w2 : wrap64 ((i : Int) + 1 + 1) = (((i + 1 : Nat) : Int)) + 1 := by unfold wrap64; omega
    have hr : rd (marks n) (i : Int) = ((i : Int) + 1) % 256 := by
      unfold rd marks
      rw [Int.toNat_natCast, List.getD_eq_getElem?_getD, List.getElem?_map, List.getElem?_range (by omega)]; rfl
    rw [if_pos (by rw [marks_length]; omega), if_pos (by omega), if_pos hr, w, w2]
theorem held_ev (n : Nat) (hn : n ≤ 1099511627776) : Ev (fun k => laws_heldByteS.f k (marks n) 1) ((n : Int) + 1) := by
  unfold laws_heldByteS.f
  have h := held_loop n hn n 0 (by omega) (by omega)
  simpa using h

theorem clone_eq (l : List Int) (hl : l.length < 140737488355328) : impl_clone_byte.f l = some l := by
  unfold impl_clone_byte.f
  simp only [Option.bind_some, List.length_nil, Nat.zero_add, List.nil_append]
  rw [if_pos hl]

def cD (x : S91) : S54 := ⟨x.f0, x.f1, x.f2⟩
theorem toDevArgS_ev (l : List S91) (hl : l.length ≤ 1099511627776) : Ev (fun k => laws_toDevArgS.f k l) (l.map cD) := by
  unfold laws_toDevArgS.f
  simp only [if_pos (show 0 ≤ (l.length : Int) by omega), Int.toNat_natCast, if_pos (show l.length ≤ 11728124029610 by omega)]
  refine map_loop (L := fun k x i => laws_toDevArgS.l0 k l x i) (fun x => ?_) (fun i h x r hx hr => ?_)
  · refine Ev.step (f := fun _ => some x) (fun k => ?_) (Ev.now _)
    simp only [laws_toDevArgS.l0]; rw [if_neg (by omega)]
  · refine Ev.step (fun k => ?_) hr
    have w : wrap64 ((i : Int) + 1) = ((i + 1 : Nat) : Int) := by unfold wrap64; omega
    have hg : rd_T91 l (i : Int) = l[i] := by unfold rd_T91; rw [Int.toNat_natCast, getD_lt l _ i h]
    simp only [laws_toDevArgS.l0]
    rw [if_pos (by omega), if_pos (by omega), hg, w, Int.toNat_natCast]
    show (if (i : Int) < (x.length : Int) then _ else _) = _
    rw [if_pos (by omega)]; rfl

theorem eqDevArg_self (a b c : Int) : laws_eqDevArg.f a b c a b c = some true := by
  unfold laws_eqDevArg.f; rw [if_pos rfl, if_pos rfl, if_pos rfl]
theorem eqDevArgS_self (l : List S54) (hl : l.length ≤ 1099511627776) : Ev (fun k => laws_eqDevArgS.f k l l) true := by
  unfold laws_eqDevArgS.f
  simp only [if_true]
  refine all_loop (L := fun k i => laws_eqDevArgS.l0 k l l i) (n := l.length) ?_ (fun i h hr => ?_)
  · refine Ev.step (f := fun _ => some true) (fun k => ?_) (Ev.now _)
    simp only [laws_eqDevArgS.l0]; rw [if_neg (by omega)]
  · refine Ev.step (fun k => ?_) hr
    have w : wrap64 ((i : Int) + 1) = ((i + 1 : Nat) : Int) := by unfold wrap64; omega
    simp only [laws_eqDevArgS.l0]
    rw [if_pos (by omega), if_pos (by omega), if_pos (by omega), eqDevArg_self, Option.bind_some, if_pos rfl, w]

theorem szDevArgS_tells (l : List S91) (a : Int) (ha0 : 0 ≤ a) (ha : a ≤ 1048576) (hl : l.length ≤ maxLen) : ∃ r, laws_szDevArgS.f l a = some r ∧ (0 ≤ r → (l.length : Int) ≤ a ∧ r = a - l.length) := by
  unfold maxLen at hl
  unfold laws_szDevArgS.f
  have w : wrap64 (a - (l.length : Int)) = a - l.length := wrap64_in (by omega) (by omega)
  rw [w]
  split
  · exact ⟨-1, rfl, fun h => by omega⟩
  · exact ⟨_, rfl, fun h => by omega⟩

theorem szElem_tells (o : Int) (l : List S91) (n : Int) (ha0 : 0 ≤ n) (ha : n ≤ 1048576) (hl : l.length ≤ maxLen) : ∃ r, laws_szElem.f o l n = some r ∧ (0 ≤ r → (l.length : Int) ≤ n ∧ r = n - l.length) := by
  obtain ⟨r, hr, h⟩ := szDevArgS_tells l n ha0 ha hl
  unfold laws_szElem.f
  rw [hr, Option.bind_some]
  split
  · exact ⟨-1, rfl, fun h => by omega⟩
  · exact ⟨r, rfl, h⟩

theorem szInst_tells (c o : Int) (l : List S91) (n : Int) (ha0 : 0 ≤ n) (ha : n ≤ 1048576) (hl : l.length ≤ maxLen) : ∃ r, laws_szInst.f c o l n = some r ∧ (0 ≤ r → (l.length : Int) ≤ n ∧ r = n - l.length) := by
  obtain ⟨r, hr, h⟩ := szElem_tells o l n ha0 ha hl
  unfold laws_szInst.f
  rw [hr, Option.bind_some]
  split
  · exact ⟨-1, rfl, fun h => by omega⟩
  · exact ⟨r, rfl, h⟩

theorem toElem_ev (o : Int) (l : List S91) (hl : l.length ≤ 1099511627776) : Ev (fun k => laws_toElem.f k o l) (o, l.map cD) := by
  unfold laws_toElem.f
  exact Ev.bind (toDevArgS_ev l hl) (Ev.now _)

theorem eqElem_self (o : Int) (l : List S54) (hl : l.length ≤ 1099511627776) : Ev (fun k => laws_eqElem.f k o l o l) true := by
  unfold laws_eqElem.f
  simp only [if_true]
  exact Ev.bind (eqDevArgS_self l hl) (Ev.now _)

theorem toInst_ev (c o : Int) (l : List S91) (hl : l.length ≤ 1099511627776) : Ev (fun k => laws_toInst.f k c o l) (c, o, l.map cD) := by
  unfold laws_toInst.f
  exact Ev.bind (toElem_ev o l hl) (Ev.now _)

theorem eqInst_self (c o : Int) (l : List S54) (hl : l.length ≤ 1099511627776) : Ev (fun k => laws_eqInst.f k c o l c o l) true := by
  unfold laws_eqInst.f
  simp only [if_true]
  exact Ev.bind (eqElem_self o l hl) (Ev.now _)

def cI (x : S47) : S52 := ⟨x.f0, ⟨x.f1.f0, x.f1.f1.map cD⟩⟩
theorem toInstS_ev (l : List S47) (hl : l.length ≤ 1048576) (ha : ∀ x ∈ l, x.f1.f1.length ≤ 1048576) : Ev (fun k => laws_toInstS.f k l) (l.map cI) := by
  unfold laws_toInstS.f
  simp only [if_pos (show 0 ≤ (l.length : Int) by omega), Int.toNat_natCast, if_pos (show l.length ≤ 7036874417766 by omega)]
  refine map_loop (L := fun k x i => laws_toInstS.l0 k l x i) (fun x => ?_) (fun i h x r hx hr => ?_)
  · refine Ev.step (f := fun _ => some x) (fun k => ?_) (Ev.now _)
    simp only [laws_toInstS.l0]; rw [if_neg (by omega)]
  · have w : wrap64 ((i : Int) + 1) = ((i + 1 : Nat) : Int) := by unfold wrap64; omega
    have hg : rd_T47 l (i : Int) = l[i] := by unfold rd_T47; rw [Int.toNat_natCast, getD_lt l _ i h]
    have hal := ha _ (List.getElem_mem h)
    refine Ev.step (f := fun k => (laws_toInst.f k (l[i]).f0 (l[i]).f1.f0 (l[i]).f1.f1).bind fun bt => (if (i : Int) < (x.length : Int) then (laws_toInstS.l0 k l (x.set i (⟨bt.1, (⟨bt.2.1, bt.2.2⟩ : S50)⟩ : S52)) ((i + 1 : Nat) : Int)) else none)) (fun k => ?_) ?_
    · simp only [laws_toInstS.l0]
      rw [if_pos (by omega), if_pos (by omega), hg, w, Int.toNat_natCast]
    · refine Ev.bind (toInst_ev _ _ _ (by omega)) ?_
      simp only [if_pos (show (i : Int) < (x.length : Int) by omega)]
      exact hr

theorem eqInstS_self (l : List S52) (hl : l.length ≤ 1048576) (ha : ∀ x ∈ l, x.f1.f1.length ≤ 1048576) : Ev (fun k => laws_eqInstS.f k l l) true := by
  unfold laws_eqInstS.f
  simp only [if_true]
  refine all_loop (L := fun k i => laws_eqInstS.l0 k l l i) (n := l.length) ?_ (fun i h hr => ?_)
  · refine Ev.step (f := fun _ => some true) (fun k => ?_) (Ev.now _)
    simp only [laws_eqInstS.l0]; rw [if_neg (by omega)]
  · have w : wrap64 ((i : Int) + 1) = ((i + 1 : Nat) : Int) := by unfold wrap64; omega
    have hg : rd_T52 l (i : Int) = l[i] := by unfold rd_T52; rw [Int.toNat_natCast, getD_lt l _ i h]
    have hal := ha _ (List.getElem_mem h)
    refine Ev.step (f := fun k => (laws_eqInst.f k (l[i]).f0 (l[i]).f1.f0 (l[i]).f1.f1 (l[i]).f0 (l[i]).f1.f0 (l[i]).f1.f1).bind fun t => (if t = true then (laws_eqInstS.l0 k l l ((i + 1 : Nat) : Int)) else (some false))) (fun k => ?_) ?_
    · simp only [laws_eqInstS.l0]
      rw [if_pos (by omega), if_pos (by omega), if_pos (by omega), hg, w]
    · refine Ev.bind (eqInst_self _ _ _ (by omega)) ?_
      simp only [if_true]
      exact hr

theorem szInstS_loop (l : List S47) (hl : l.length ≤ 1048576) (hm : ∀ x ∈ l, x.f1.f1.length ≤ maxLen) (d : Nat) : ∀ (i : Nat) (a : Int), l.length - i = d → i ≤ l.length → 0 ≤ a → a ≤ 1048576 →
    Tells (fun k => laws_szInstS.l0 k l a (i : Int)) (fun r => 0 ≤ r → r ≤ a ∧ ∀ x ∈ l.drop i, x.f1.f1.length ≤ 1048576) := by
  induction d with
  | zero =>
    intro i a hd hi ha0 ha
    obtain rfl : i = l.length := by omega
    refine Tells.step (f := fun _ => some a) (fun k => ?_) (Tells.now fun _ => ⟨Int.le_refl _, fun x hx => by simp at hx⟩)
    simp only [laws_szInstS.l0]; rw [if_neg (by omega)]
  | succ d ih =>
    intro i a hd hi ha0 ha
    have hlt : i < l.length := by omega
    have w : wrap64 ((i : Int) + 1) = ((i + 1 : Nat) : Int) := by unfold wrap64; omega
    have hg : rd_T47 l (i : Int) = l[i] := by unfold rd_T47; rw [Int.toNat_natCast, getD_lt l _ i hlt]
    obtain ⟨r, hr, h⟩ := szInst_tells (l[i]).f0 (l[i]).f1.f0 (l[i]).f1.f1 a ha0 ha (hm _ (List.getElem_mem hlt))
    by_cases c : r < 0
    · refine Tells.step (f := fun _ => some (-1)) (fun k => ?_) (Tells.now fun h => by omega)
      simp only [laws_szInstS.l0]
      rw [if_pos (by omega), if_pos (by omega), hg, hr, Option.bind_some, if_pos c]
    · have hh := h (by omega)
      refine Tells.step (fun k => ?_) ((ih (i + 1) r (by omega) (by omega) (by omega) (by omega)).mono fun r' hr' h0 => ?_)
      · simp only [laws_szInstS.l0]
        rw [if_pos (by omega), if_pos (by omega), hg, hr, Option.bind_some, if_neg c, w]
      · obtain ⟨h1, h2⟩ := hr' h0
        refine ⟨by omega, fun x hx => ?_⟩
        rw [List.drop_eq_getElem_cons hlt] at hx
        rcases List.mem_cons.1 hx with rfl | hx
        · omega
        · exact h2 x hx
theorem szInstS_tells (l : List S47) (a : Int) (ha0 : 0 ≤ a) (ha : a ≤ 1048576) (hl : l.length ≤ maxLen) (hm : ∀ x ∈ l, x.f1.f1.length ≤ maxLen) :
    Tells (fun k => laws_szInstS.f k l a) (fun r => 0 ≤ r → r ≤ a ∧ l.length ≤ 1048576 ∧ ∀ x ∈ l, x.f1.f1.length ≤ 1048576) := by
  unfold maxLen at hl
  unfold laws_szInstS.f
  have w : wrap64 (a - (l.length : Int)) = a - l.length := wrap64_in (by omega) (by omega)
  rw [w]
  by_cases c : a - (l.length : Int) < 0
  · simp only [if_pos c]; exact Tells.now fun h => by omega
  · simp only [if_neg c]
    refine (szInstS_loop l (by omega) hm l.length 0 (a - l.length) (by omega) (by omega) (by omega) (by omega)).mono fun r hr h0 => ?_
    obtain ⟨h1, h2⟩ := hr h0
    exact ⟨by omega, by omega, h2⟩

theorem cI_args (l : List S47) (ha : ∀ x ∈ l, x.f1.f1.length ≤ 1048576) : ∀ x ∈ l.map cI, x.f1.f1.length ≤ 1048576 := fun x hx => by
  obtain ⟨y, hy, rfl⟩ := List.mem_map.1 hx
  simpa [cI] using ha y hy

theorem markInstS_loop (l : List S52) (hl : l.length ≤ 1048576) (ha : ∀ x ∈ l, x.f1.f1.length ≤ 1048576) (d : Nat) : ∀ (i : Nat) (a : Int), l.length - i = d → i ≤ l.length → 0 ≤ a → a ≤ 1 + 3145730 * (i : Int) →
    Tells (fun k => laws_markInstS.l0 k l a (i : Int)) (fun r => 0 ≤ r) := by
  induction d with
  | zero =>
    intro i a hd hi ha0 ha1
    obtain rfl : i = l.length := by omega
    refine Tells.step (f := fun _ => some a) (fun k => ?_) (Tells.now ha0)
    simp only [laws_markInstS.l0]; rw [if_neg (by omega)]
  | succ d ih =>
    intro i a hd hi ha0 ha1
    have hlt : i < l.length := by omega
    have w : wrap64 ((i : Int) + 1) = ((i + 1 : Nat) : Int) := by unfold wrap64; omega
    have hg : rd_T52 l (i : Int) = l[i] := by unfold rd_T52; rw [Int.toNat_natCast, getD_lt l _ i hlt]
    have hal := ha _ (List.getElem_mem hlt)
    have e : wrap64 (wrap64 (wrap64 (a + 1) + 1) + wrap64 (((l[i]).f1.f1.length : Int) * 3)) = a + 2 + 3 * (l[i]).f1.f1.length := by unfold wrap64; omega
    refine Tells.step (fun k => ?_) (ih (i + 1) (a + 2 + 3 * (l[i]).f1.f1.length) (by omega) (by omega) (by omega) (by push_cast; omega))
    simp only [laws_markInstS.l0]
    rw [if_pos (by omega), if_pos (by omega), hg, e, w]
theorem markInstS_tells (l : List S52) (hl : l.length ≤ 1048576) (ha : ∀ x ∈ l, x.f1.f1.length ≤ 1048576) : Tells (fun k => laws_markInstS.f k l 1) (fun r => 0 ≤ r) := by
  unfold laws_markInstS.f
  exact markInstS_loop l hl ha l.length 0 1 (by omega) (by omega) (by omega) (by omega)

theorem wrap_u16 (n : Int) : IntKind.u16.wrap n = n % 65536 := by simp [IntKind.wrap, IntKind.bits, IntKind.signed]
theorem xor_u16 (a b : Nat) (ha : a < 65536) (hb : b < 65536) : Go.bits .xor .u16 (a : Int) (b : Int) = ((a ^^^ b : Nat) : Int) := by
  have e : Go.bits .xor .u16 (a : Int) (b : Int) = IntKind.u16.wrap (((BitVec.ofInt 16 (a : Int)) ^^^ (BitVec.ofInt 16 (b : Int))).toNat : Int) := rfl
  have hx := Nat.xor_lt_two_pow (show a < 2 ^ 16 from ha) (show b < 2 ^ 16 from hb)
  rw [e, BitVec.toNat_xor, BitVec.ofInt_natCast, BitVec.ofInt_natCast, BitVec.toNat_ofNat, BitVec.toNat_ofNat, Nat.mod_eq_of_lt (show a < 2 ^ 16 from ha), Nat.mod_eq_of_lt (show b < 2 ^ 16 from hb), wrap_u16]
  generalize a ^^^ b = z at hx
  omega
theorem l17Xor_loop (a b : Nat) (ha : a < 65536) (hb : b < 65536) (d : Nat) : ∀ i : Nat, 16 - i = d → i ≤ 16 →
    Ev (fun k => spec_l17Xor.l0 k ((a / 2 ^ i : Nat) : Int) ((b / 2 ^ i : Nat) : Int) (((a ^^^ b) % 2 ^ i : Nat) : Int) ((2 ^ i : Nat) : Int)) ((a ^^^ b : Nat) : Int) := by
  induction d with
  | zero =>
    intro i hd hi
    obtain rfl : i = 16 := by omega
    refine Ev.step (f := fun _ => some _) (fun k => ?_) (Ev.now _)
    simp only [spec_l17Xor.l0]
    rw [if_neg (by decide)]
    have hx := Nat.xor_lt_two_pow (show a < 2 ^ 16 from ha) (show b < 2 ^ 16 from hb)
    rw [Nat.mod_eq_of_lt hx]
  | succ d ih =>
    intro i hd hi
    refine Ev.step (fun k => ?_) (ih (i + 1) (by omega) (by omega))
    simp only [spec_l17Xor.l0]
    have hp : 2 ^ i ≤ 2 ^ 15 := Nat.pow_le_pow_right (by decide) (by omega)
    have hp0 : 0 < 2 ^ i := Nat.two_pow_pos i
    have h15 : (2 : Nat) ^ 15 = 32768 := by decide
    have e1 : wrap64 (Int.tdiv ((a / 2 ^ i : Nat) : Int) 2) = ((a / 2 ^ (i + 1) : Nat) : Int) := by
      rw [Nat.pow_succ, ← Nat.div_div_eq_div_mul]
      have : a / 2 ^ i ≤ a := Nat.div_le_self _ _
      generalize a / 2 ^ i = q at this
      rw [Int.tdiv_eq_ediv_of_nonneg (by omega), wrap64_in (by omega) (by omega)]; omega
    have e2 : wrap64 (Int.tdiv ((b / 2 ^ i : Nat) : Int) 2) = ((b / 2 ^ (i + 1) : Nat) : Int) := by
      rw [Nat.pow_succ, ← Nat.div_div_eq_div_mul]
      have : b / 2 ^ i ≤ b := Nat.div_le_self _ _
      generalize b / 2 ^ i = q at this
      rw [Int.tdiv_eq_ediv_of_nonneg (by omega), wrap64_in (by omega) (by omega)]; omega
    have e3 : wrap64 (((2 ^ i : Nat) : Int) * 2) = ((2 ^ (i + 1) : Nat) : Int) := by
      rw [Nat.pow_succ]
      generalize 2 ^ i = q at hp
      rw [wrap64_in (by omega) (by omega)]; omega
    have t1 : Int.tmod ((a / 2 ^ i : Nat) : Int) 2 = (if a.testBit i = true then 1 else 0) := by
      rw [Nat.testBit_eq_decide_div_mod_eq]
      generalize a / 2 ^ i = q
      rw [Int.tmod_eq_emod_of_nonneg (by omega)]
      simp only [decide_eq_true_eq]; split <;> omega
    have t2 : Int.tmod ((b / 2 ^ i : Nat) : Int) 2 = (if b.testBit i = true then 1 else 0) := by
      rw [Nat.testBit_eq_decide_div_mod_eq]
      generalize b / 2 ^ i = q
      rw [Int.tmod_eq_emod_of_nonneg (by omega)]
      simp only [decide_eq_true_eq]; split <;> omega
    have hbit : (a ^^^ b) / 2 ^ i % 2 = (a.testBit i ^^ b.testBit i).toNat := by
      rw [← Nat.testBit_xor, Nat.testBit_eq_decide_div_mod_eq]
      generalize (a ^^^ b) / 2 ^ i = q
      rcases Nat.mod_two_eq_zero_or_one q with h | h <;> simp [h]
    have hm : (a ^^^ b) % 2 ^ (i + 1) = (a ^^^ b) % 2 ^ i + 2 ^ i * (a.testBit i ^^ b.testBit i).toNat := by rw [Nat.mod_pow_succ, hbit]
    have hlt : (a ^^^ b) % 2 ^ i < 2 ^ i := Nat.mod_lt _ hp0
    rw [if_pos (by omega), e1, e2, e3, t1, t2, hm]
    generalize (a ^^^ b) % 2 ^ i = q at hlt
    generalize 2 ^ i = p at hp hlt
    have hq : wrap64 ((q : Int) + (p : Int)) = (q : Int) + (p : Int) := by unfold wrap64; omega
    clear hm hbit e1 e2 e3 t1 t2
    cases a.testBit i <;> cases b.testBit i <;> simp [hq]
theorem l17Xor_ev (a b : Nat) (ha : a < 65536) (hb : b < 65536) : Ev (fun k => spec_l17Xor.f k (a : Int) (b : Int)) ((a ^^^ b : Nat) : Int) := by
  have h := l17Xor_loop a b ha hb 16 0 (by omega) (by omega)
  unfold spec_l17Xor.f
  simpa [Nat.mod_one] using h
/-- One bit's round. -/
def rnd (s : Nat) : Nat := if s ≥ 32768 then (2 * s - 65536) ^^^ 4129 else 2 * s
theorem rnd_lt {s : Nat} (h : s < 65536) : rnd s < 65536 := by
  unfold rnd; split
  · exact Nat.xor_lt_two_pow (n := 16) (by omega) (by decide)
  · omega
def rnds : Nat → Nat → Nat
  | 0, s => s
  | n + 1, s => rnds n (rnd s)
theorem rnds_lt (n : Nat) : ∀ {s : Nat}, s < 65536 → rnds n s < 65536 := by
  induction n with
  | zero => intro s h; exact h
  | succ n ih => intro s h; exact ih (rnd_lt h)
def sum : List Int → Nat → Nat
  | [], s => s
  | x :: l, s => sum l (rnds 8 (s ^^^ (x.toNat * 256)))
theorem l17Round_ev (s : Nat) (h : s < 65536) : Ev (fun k => spec_l17Round.f k (s : Int)) (rnd s : Int) := by
  have w : wrap64 ((s : Int) * 2) = (s : Int) * 2 := wrap64_in (by omega) (by omega)
  unfold spec_l17Round.f rnd
  by_cases c : s ≥ 32768
  · have w2 : wrap64 ((s : Int) * 2 - 65536) = ((2 * s - 65536 : Nat) : Int) := by rw [wrap64_in (by omega) (by omega)]; omega
    simp only [w, if_pos (show (s : Int) * 2 ≥ 65536 by omega), w2, if_pos c]
    exact Ev.bind (l17Xor_ev (2 * s - 65536) 4129 (by omega) (by decide)) (Ev.now _)
  · simp only [w, if_neg (show ¬ (s : Int) * 2 ≥ 65536 by omega), if_neg c]
    have : (s : Int) * 2 = ((2 * s : Nat) : Int) := by omega
    rw [this]; exact Ev.now _
theorem step_lt {s : Nat} {x : Int} (h : s < 65536) (h0 : 0 ≤ x) (h1 : x ≤ 255) : s ^^^ (x.toNat * 256) < 65536 := Nat.xor_lt_two_pow (n := 16) h (by omega)
theorem spec_rounds (l : List Int) (i : Int) (r : Int) (n : Nat) (hn : n ≤ 8) : ∀ s : Nat, s < 65536 → (Ev (fun k => spec_PicSum.l0 k l (rnds n s : Int) (wrap64 (i + 1))) r) → Ev (fun k => spec_PicSum.l1 k l (s : Int) i ((8 - n : Nat) : Int)) r := by
  induction n with
  | zero =>
    intro s hs h
    refine Ev.step (fun k => ?_) h
    simp only [spec_PicSum.l1]
    rw [if_neg (by decide)]; rfl
  | succ n ih =>
    intro s hs h
    have h2 := ih (by omega) (rnd s) (rnd_lt hs) h
    refine Ev.step (f := fun k => (spec_l17Round.f k (s : Int)).bind fun t141 => (spec_PicSum.l1 k l t141 i ((8 - n : Nat) : Int))) (fun k => ?_) (Ev.bind (l17Round_ev s hs) h2)
    simp only [spec_PicSum.l1]
    have w : wrap64 (((8 - (n + 1) : Nat) : Int) + 1) = ((8 - n : Nat) : Int) := by unfold wrap64; omega
    rw [if_pos (by omega), w]
theorem spec_PicSum_loop (l : List Int) (hl : Bytes l) (hn : l.length ≤ 1099511627776) (d : Nat) : ∀ (i : Nat) (s : Nat), s < 65536 → l.length - i = d → i ≤ l.length →
    Ev (fun k => spec_PicSum.l0 k l (s : Int) (i : Int)) (sum (l.drop i) s : Int) := by
  induction d with
  | zero =>
    intro i s hs hd hi
    obtain rfl : i = l.length := by omega
    refine Ev.step (f := fun _ => some _) (fun k => ?_) (Ev.now _)
    simp only [spec_PicSum.l0]
    rw [if_neg (by omega), List.drop_length, wrap_u16]
    show some ((s : Int) % 65536) = some (s : Int)
    congr 1; omega
  | succ d ih =>
    intro i s hs hd hi
    have hlt : i < l.length := by omega
    have hr : rd l (i : Int) = l[i] := by unfold rd; simp [List.getD_eq_getElem?_getD, hlt]
    have hb := hl _ (List.getElem_mem hlt)
    have hdr : l.drop i = l[i] :: l.drop (i + 1) := List.drop_eq_getElem_cons hlt
    have hx := step_lt hs hb.1 hb.2
    rw [hdr]
    have w : wrap64 ((i : Int) + 1) = ((i + 1 : Nat) : Int) := by unfold wrap64; omega
    have w2 : wrap64 (wrap64 l[i] * 256) = ((l[i].toNat * 256 : Nat) : Int) := by rw [wrap64_in (n := l[i]) (by omega) (by omega), wrap64_in (by omega) (by omega)]; omega
    have h2 := ih (i + 1) (rnds 8 (s ^^^ (l[i].toNat * 256))) (rnds_lt 8 hx) (by omega) (by omega)
    rw [← w] at h2
    have h3 := spec_rounds l (i : Int) _ 8 (by omega) _ hx h2
    refine Ev.step (f := fun k => (spec_l17Xor.f k (s : Int) ((l[i].toNat * 256 : Nat) : Int)).bind fun t140 => (spec_PicSum.l1 k l t140 (i : Int) 0)) (fun k => ?_) (Ev.bind (l17Xor_ev s (l[i].toNat * 256) hs (by omega)) h3)
    simp only [spec_PicSum.l0]
    rw [if_pos (by omega), if_pos (by omega), hr, w2]
theorem impl_rounds (l : List Int) (i : Int) (r : Int) (n : Nat) (hn : n ≤ 8) : ∀ s : Nat, s < 65536 → (Ev (fun k => impl_PicSum.l0 k (rnds n s : Int) l (l.length : Int) (wrap64 (i + 1))) r) → Ev (fun k => impl_PicSum.l1 k (s : Int) l (l.length : Int) i ((8 - n : Nat) : Int)) r := by
  induction n with
  | zero =>
    intro s hs h
    refine Ev.step (fun k => ?_) h
    simp only [impl_PicSum.l1]
    rw [if_neg (by decide)]; rfl
  | succ n ih =>
    intro s hs h
    have h2 := ih (by omega) (rnd s) (rnd_lt hs) h
    refine Ev.step (fun k => ?_) h2
    simp only [impl_PicSum.l1]
    have w : wrap64 (((8 - (n + 1) : Nat) : Int) + 1) = ((8 - n : Nat) : Int) := by unfold wrap64; omega
    rw [if_pos (by omega), w, wrap_u16]
    unfold rnd
    by_cases c : s ≥ 32768
    · rw [if_pos (by omega), if_pos c]
      have e : (s : Int) * 2 % 65536 = ((2 * s - 65536 : Nat) : Int) := by omega
      rw [e, show (4129 : Int) = ((4129 : Nat) : Int) from rfl, xor_u16 _ _ (by omega) (by decide)]
    · rw [if_neg (by omega), if_neg c]
      have e : (s : Int) * 2 % 65536 = ((2 * s : Nat) : Int) := by omega
      rw [e]
theorem impl_PicSum_loop (l : List Int) (hl : Bytes l) (hn : l.length ≤ 1099511627776) (d : Nat) : ∀ (i : Nat) (s : Nat), s < 65536 → l.length - i = d → i ≤ l.length →
    Ev (fun k => impl_PicSum.l0 k (s : Int) l (l.length : Int) (i : Int)) (sum (l.drop i) s : Int) := by
  induction d with
  | zero =>
    intro i s hs hd hi
    obtain rfl : i = l.length := by omega
    refine Ev.step (f := fun _ => some _) (fun k => ?_) (Ev.now _)
    simp only [impl_PicSum.l0]
    rw [if_neg (by omega), List.drop_length]; rfl
  | succ d ih =>
    intro i s hs hd hi
    have hlt : i < l.length := by omega
    have hr : rd l (i : Int) = l[i] := by unfold rd; simp [List.getD_eq_getElem?_getD, hlt]
    have hb := hl _ (List.getElem_mem hlt)
    have hdr : l.drop i = l[i] :: l.drop (i + 1) := List.drop_eq_getElem_cons hlt
    have hx := step_lt hs hb.1 hb.2
    rw [hdr]
    have w : wrap64 ((i : Int) + 1) = ((i + 1 : Nat) : Int) := by unfold wrap64; omega
    have h2 := ih (i + 1) (rnds 8 (s ^^^ (l[i].toNat * 256))) (rnds_lt 8 hx) (by omega) (by omega)
    rw [← w] at h2
    have h3 := impl_rounds l (i : Int) _ 8 (by omega) _ hx h2
    refine Ev.step (fun k => ?_) h3
    simp only [impl_PicSum.l0]
    have e : IntKind.u16.wrap (IntKind.u16.wrap (l[i]) * 256) = ((l[i].toNat * 256 : Nat) : Int) := by rw [wrap_u16, wrap_u16]; omega
    rw [if_pos (by omega), if_pos (by omega), if_pos (by omega), hr, e, xor_u16 _ _ hs (by omega)]; rfl

theorem eqPicFault_self (a b : Int) : laws_eqPicFault.f a b a b = some true := by unfold laws_eqPicFault.f; rw [if_pos rfl, if_pos rfl]

/-- A number's two bytes, the highest first; its four. -/
def n2 (a : Int) : List Int := [a / 256 % 256, a % 256]
def n4 (a : Int) : List Int := [a / 256 / 256 / 256 % 256, a / 256 / 256 % 256, a / 256 % 256, a % 256]
theorem tm (x : Int) : Int.tmod x 256 = if 0 ≤ x then x % 256 else -((-x) % 256) := by
  split
  · exact Int.tmod_eq_emod_of_nonneg (by assumption)
  · obtain ⟨y, rfl⟩ : ∃ y, x = -y := ⟨-x, by omega⟩
    rw [Int.neg_tmod, Int.tmod_eq_emod_of_nonneg (by omega), Int.neg_neg]
theorem td (x : Int) : Int.tdiv (x - x % 256) 256 = x / 256 := by
  rw [show x - x % 256 = 256 * (x / 256) by omega]
  exact Int.mul_tdiv_cancel_left _ (by decide)
theorem l17_step (k : Nat) (x : Int) (xs : List Int) (i : Nat) (h0 : -4294967296 ≤ x) (h1 : x ≤ 4294967296) (hi : i < xs.length) (hl : xs.length ≤ 4) :
    spec_l17Num.l0 (k + 1) x xs (i : Int) = spec_l17Num.l0 k (x / 256) (xs.set i (x % 256)) ((i : Int) - 1) := by
  simp only [spec_l17Num.l0]
  have w3 : wrap64 ((i : Int) - 1) = (i : Int) - 1 := wrap64_in (by omega) (by omega)
  have w2 : wrap64 (Int.tdiv (x - x % 256) 256) = x / 256 := by rw [td, wrap64_in (by omega) (by omega)]
  have w1 : wrap64 (x - x % 256) = x - x % 256 := wrap64_in (by omega) (by omega)
  rw [if_pos (show (i : Int) ≥ 0 by omega), w3, Int.toNat_natCast]
  by_cases c : Int.tmod x 256 < 0
  · have hm : wrap64 (Int.tmod x 256 + 256) = x % 256 := by
      rw [tm] at c ⊢
      split at c
      · omega
      · rw [if_neg (by assumption), wrap64_in (by omega) (by omega)]; omega
    rw [if_pos c, hm, w1, w2, if_pos (by omega), if_pos (by omega), Int.emod_emod_of_dvd _ (by decide)]
  · have hm : Int.tmod x 256 = x % 256 := by
      rw [tm] at c ⊢
      split at c
      · rw [if_pos (by assumption)]
      · rw [if_neg (by assumption)]; omega
    rw [if_neg c, hm, w1, w2, if_pos (by omega), if_pos (by omega), Int.emod_emod_of_dvd _ (by decide)]
theorem l17_1 (a : Int) (h0 : -4294967296 ≤ a) (h1 : a ≤ 4294967296) : Ev (fun k => spec_l17Num.f k a 1) [a % 256] := by
  unfold spec_l17Num.f
  simp only [if_pos (show (0 : Int) ≤ 1 by decide), if_pos (show (1 : Int).toNat ≤ 281474976710656 by decide)]
  rw [show wrap64 (1 - 1) = ((0 : Nat) : Int) by unfold wrap64; omega]
  refine Ev.step (fun k => l17_step k a _ 0 h0 h1 (by decide) (by decide)) ?_
  exact Ev.step (f := fun _ => some [a % 256]) (fun k => by simp only [spec_l17Num.l0]; rfl) (Ev.now _)
theorem l17_2 (a : Int) (h0 : -4294967296 ≤ a) (h1 : a ≤ 4294967296) : Ev (fun k => spec_l17Num.f k a 2) (n2 a) := by
  unfold spec_l17Num.f
  simp only [if_pos (show (0 : Int) ≤ 2 by decide), if_pos (show (2 : Int).toNat ≤ 281474976710656 by decide)]
  rw [show wrap64 (2 - 1) = ((1 : Nat) : Int) by unfold wrap64; omega]
  refine Ev.step (fun k => l17_step k a _ 1 h0 h1 (by decide) (by decide)) ?_
  refine Ev.step (fun k => l17_step k (a / 256) _ 0 (by omega) (by omega) (by simp) (by simp)) ?_
  exact Ev.step (f := fun _ => some (n2 a)) (fun k => by simp only [spec_l17Num.l0]; rfl) (Ev.now _)
theorem l17_4 (a : Int) (h0 : -4294967296 ≤ a) (h1 : a ≤ 4294967296) : Ev (fun k => spec_l17Num.f k a 4) (n4 a) := by
  unfold spec_l17Num.f
  simp only [if_pos (show (0 : Int) ≤ 4 by decide), if_pos (show (4 : Int).toNat ≤ 281474976710656 by decide)]
  rw [show wrap64 (4 - 1) = ((3 : Nat) : Int) by unfold wrap64; omega]
  refine Ev.step (fun k => l17_step k a _ 3 h0 h1 (by decide) (by decide)) ?_
  refine Ev.step (fun k => l17_step k (a / 256) _ 2 (by omega) (by omega) (by simp) (by simp)) ?_
  refine Ev.step (fun k => l17_step k (a / 256 / 256) _ 1 (by omega) (by omega) (by simp) (by simp)) ?_
  refine Ev.step (fun k => l17_step k (a / 256 / 256 / 256) _ 0 (by omega) (by omega) (by simp) (by simp)) ?_
  exact Ev.step (f := fun _ => some (n4 a)) (fun k => by simp only [spec_l17Num.l0]; rfl) (Ev.now _)

theorem shr_div (x : Int) (m : Nat) (hm : m ≤ 64) : shr .i64 x (m : Int) = x / 2 ^ m := by
  unfold shr
  rw [Int.toNat_natCast, show min m IntKind.i64.bits = m from Nat.min_eq_left (by show m ≤ 64; exact hm)]
theorem big_2 (a : Int) : Ev (fun k => impl_big.f k a 2) (n2 a) := by
  unfold impl_big.f
  simp only [if_pos (show (0 : Int) ≤ 2 by decide), if_pos (show (2 : Int).toNat ≤ 281474976710656 by decide), Option.bind_some]
  refine Ev.step (f := fun k => impl_big.l0 k a 2 [a / 256 % 256, 0] 2 1) (fun k => ?_) ?_
  · simp only [impl_big.l0]
    rw [show wrap64 (8 * wrap64 (wrap64 (2 - 1) - 0)) = ((8 : Nat) : Int) by unfold wrap64; omega, show wrap64 (0 + 1) = 1 by unfold wrap64; omega, shr_div _ _ (by decide)]
    rfl
  refine Ev.step (f := fun k => impl_big.l0 k a 2 [a / 256 % 256, a % 256] 2 2) (fun k => ?_) ?_
  · simp only [impl_big.l0]
    rw [show wrap64 (8 * wrap64 (wrap64 (2 - 1) - 1)) = ((0 : Nat) : Int) by unfold wrap64; omega, show wrap64 (1 + 1) = 2 by unfold wrap64; omega, shr_div _ _ (by decide), show a / 2 ^ 0 = a by rw [show ((2 : Int) ^ 0) = 1 from rfl]; exact Int.ediv_one a]
    rfl
  exact Ev.step (f := fun _ => some (n2 a)) (fun k => by simp only [impl_big.l0]; rfl) (Ev.now _)
theorem big_4 (a : Int) : Ev (fun k => impl_big.f k a 4) (n4 a) := by
  unfold impl_big.f
  simp only [if_pos (show (0 : Int) ≤ 4 by decide), if_pos (show (4 : Int).toNat ≤ 281474976710656 by decide), Option.bind_some]
  refine Ev.step (f := fun k => impl_big.l0 k a 4 [a / 256 / 256 / 256 % 256, 0, 0, 0] 4 1) (fun k => ?_) ?_
  · simp only [impl_big.l0]
    rw [show wrap64 (8 * wrap64 (wrap64 (4 - 1) - 0)) = ((24 : Nat) : Int) by unfold wrap64; omega, show wrap64 (0 + 1) = 1 by unfold wrap64; omega, shr_div _ _ (by decide), show a / 2 ^ 24 = a / 256 / 256 / 256 by rw [show ((2 : Int) ^ 24) = 16777216 from rfl]; omega]
    rfl
  refine Ev.step (f := fun k => impl_big.l0 k a 4 [a / 256 / 256 / 256 % 256, a / 256 / 256 % 256, 0, 0] 4 2) (fun k => ?_) ?_
  · simp only [impl_big.l0]
    rw [show wrap64 (8 * wrap64 (wrap64 (4 - 1) - 1)) = ((16 : Nat) : Int) by unfold wrap64; omega, show wrap64 (1 + 1) = 2 by unfold wrap64; omega, shr_div _ _ (by decide), show a / 2 ^ 16 = a / 256 / 256 by rw [show ((2 : Int) ^ 16) = 65536 from rfl]; omega]
    rfl
  refine Ev.step (f := fun k => impl_big.l0 k a 4 [a / 256 / 256 / 256 % 256, a / 256 / 256 % 256, a / 256 % 256, 0] 4 3) (fun k => ?_) ?_
  · simp only [impl_big.l0]
    rw [show wrap64 (8 * wrap64 (wrap64 (4 - 1) - 2)) = ((8 : Nat) : Int) by unfold wrap64; omega, show wrap64 (2 + 1) = 3 by unfold wrap64; omega, shr_div _ _ (by decide)]
    rfl
  refine Ev.step (f := fun k => impl_big.l0 k a 4 [a / 256 / 256 / 256 % 256, a / 256 / 256 % 256, a / 256 % 256, a % 256] 4 4) (fun k => ?_) ?_
  · simp only [impl_big.l0]
    rw [show wrap64 (8 * wrap64 (wrap64 (4 - 1) - 3)) = ((0 : Nat) : Int) by unfold wrap64; omega, show wrap64 (3 + 1) = 4 by unfold wrap64; omega, shr_div _ _ (by decide), show a / 2 ^ 0 = a by rw [show ((2 : Int) ^ 0) = 1 from rfl]; exact Int.ediv_one a]
    rfl
  exact Ev.step (f := fun _ => some (n4 a)) (fun k => by simp only [impl_big.l0]; rfl) (Ev.now _)

/-- Whether an operand can be written; its bytes. -/
def fld (a b c : Int) : Bool := decide ((a = 11 ∧ -32768 ≤ b ∧ b ≤ 32767 ∧ c = 0) ∨ (a = 12 ∧ -2147483648 ≤ b ∧ b ≤ 2147483647 ∧ 0 ≤ c ∧ c ≤ 255) ∨ (((1 ≤ a ∧ a ≤ 10) ∨ a = 13) ∧ 0 ≤ b ∧ b ≤ 255 ∧ c = 0))
def ab (a b c : Int) : List Int := if a = 11 then a % 256 :: n2 b else if a = 12 then (a % 256 :: n4 b) ++ [c % 256] else [a % 256, b % 256]
theorem ab_length (a b c : Int) : (ab a b c).length ≤ 6 := by
  unfold ab
  split
  · simp [n2]
  · split <;> simp [n4]
theorem ab_bytes (a b c : Int) : Bytes (ab a b c) := by
  unfold ab n2 n4 Bytes
  intro x hx
  split at hx
  · simp only [List.mem_cons, List.not_mem_nil, or_false] at hx; omega
  · split at hx
    · simp only [List.mem_cons, List.mem_append, List.not_mem_nil, or_false] at hx; omega
    · simp only [List.mem_cons, List.not_mem_nil, or_false] at hx; omega
theorem field_eq (a b c : Int) : spec_l17Field.f a b c = some (fld a b c) := by
  unfold spec_l17Field.f fld
  repeat' split
  all_goals
    rw [Option.some.injEq, Bool.eq_iff_iff]
    simp only [beq_iff_eq, decide_eq_true_eq, Bool.false_eq_true, false_iff, true_iff]
    omega

theorem picArg_j1 (a b c : Int) (x : Bool) (hx : x = decide ((1 ≤ a ∧ a ≤ 10) ∨ a = 13)) (hc : a = 12 ∨ c = 0) :
    Tells (fun k => impl_picArg.j1 k [a % 256] x a b c) (fun r => r.2 = fld a b c ∧ (fld a b c = true → r.1 = ab a b c)) := by
  by_cases c1 : (1 ≤ a ∧ a ≤ 10) ∨ a = 13
  · rw [decide_eq_true c1] at hx
    subst hx
    have e : fld a b c = decide (0 ≤ b ∧ b ≤ 255) := by unfold fld; rw [decide_eq_decide]; omega
    refine Tells.step (f := fun _ => some ([a % 256, b % 256], decide (0 ≤ b ∧ b ≤ 255))) (fun k => ?_) (Tells.now ⟨e.symm, fun _ => ?_⟩)
    · simp only [impl_picArg.j1, if_true, Option.bind_some, in_eq]
      rfl
    · show _ = ab a b c
      unfold ab
      rw [if_neg (by omega), if_neg (by omega)]
  · rw [decide_eq_false c1] at hx
    subst hx
    by_cases c2 : a = 11
    · have e : fld a b c = decide (-32768 ≤ b ∧ b ≤ 32767) := by unfold fld; rw [decide_eq_decide]; omega
      refine Tells.step (f := fun k => (impl_big.f k b 2).bind fun t260 => (if ([a % 256] : List Int).length + t260.length < 140737488355328 then ((impl_in.f b (-32768) 32767).bind fun t266 => (some (([a % 256] ++ t260), t266))) else (none))) (fun k => ?_) ?_
      · simp only [impl_picArg.j1, if_neg (show ¬ (false = true) by decide), if_pos c2]
      · refine Tells.bindEv (big_2 b) ?_
        simp only [if_pos (show ([a % 256] : List Int).length + (n2 b).length < 140737488355328 by simp [n2]), in_eq, Option.bind_some]
        refine Tells.now ⟨e.symm, fun _ => ?_⟩
        show _ = ab a b c
        unfold ab; rw [if_pos c2]; rfl
    · by_cases c3 : a = 12
      · have e : fld a b c = if -2147483648 ≤ b ∧ b ≤ 2147483647 then decide (0 ≤ c ∧ c ≤ 255) else false := by
          unfold fld
          split
          · rw [decide_eq_decide]; omega
          · exact decide_eq_false (by omega)
        refine Tells.step (f := fun k => (impl_big.f k b 4).bind fun t267 => (if ([a % 256] : List Int).length + t267.length < 140737488355328 then ((some ([a % 256] ++ t267 : List Int)).bind fun y270 => ((some (([(c) % 256] : List Int) : List Int)).bind fun y273 => (if y270.length + y273.length < 140737488355328 then ((some (y270 ++ y273 : List Int)).bind fun y276 => ((impl_in.f b (-2147483648) 2147483647).bind fun t279 => (if t279 = true then ((impl_in.f c 0 255).bind fun t280 => (some (y276, t280))) else (some (y276, false))))) else (none)))) else (none))) (fun k => ?_) ?_
        · simp only [impl_picArg.j1, if_neg (show ¬ (false = true) by decide), if_neg c2, if_pos c3]
        · refine Tells.bindEv (big_4 b) ?_
          simp only [if_pos (show ([a % 256] : List Int).length + (n4 b).length < 140737488355328 by simp [n4]), in_eq, Option.bind_some, if_pos (show ([a % 256] ++ n4 b : List Int).length + ([c % 256] : List Int).length < 140737488355328 by simp [n4]), decide_eq_true_eq]
          have ea : ([a % 256] ++ n4 b ++ [c % 256] : List Int) = ab a b c := by unfold ab; rw [if_neg c2, if_pos c3]; rfl
          rw [ea]
          by_cases c4 : -2147483648 ≤ b ∧ b ≤ 2147483647
          · simp only [if_pos c4] at e ⊢
            exact Tells.now ⟨e.symm, fun _ => rfl⟩
          · simp only [if_neg c4] at e ⊢
            exact Tells.now ⟨e.symm, fun _ => rfl⟩
      · have e : fld a b c = false := by unfold fld; exact decide_eq_false (by omega)
        refine Tells.step (f := fun _ => some (([] : List Int), false)) (fun k => ?_) (Tells.now ⟨e.symm, fun h => by rw [e] at h; cases h⟩)
        simp only [impl_picArg.j1, if_neg (show ¬ (false = true) by decide), if_neg c2, if_neg c3]
theorem picArg_tells (a b c : Int) : Tells (fun k => impl_picArg.f k a b c) (fun r => r.2 = fld a b c ∧ (fld a b c = true → r.1 = ab a b c)) := by
  have key : (a = 12 ∨ c = 0) → Tells (fun k => impl_picArg.j0 k false a b c) (fun r => r.2 = fld a b c ∧ (fld a b c = true → r.1 = ab a b c)) := fun hc => by
    refine Tells.step (f := fun k => impl_picArg.j1 k [a % 256] (decide ((1 ≤ a ∧ a ≤ 10) ∨ a = 13)) a b c) (fun k => ?_) (picArg_j1 a b c _ rfl hc)
    simp only [impl_picArg.j0, if_neg (show ¬ (false = true) by decide), Option.bind_some, in_eq, decide_eq_true_eq]
    by_cases c1 : 1 ≤ a ∧ a ≤ 10
    · rw [if_pos c1, decide_eq_true (Or.inl c1 : (1 ≤ a ∧ a ≤ 10) ∨ a = 13)]
    · rw [if_neg c1]
      congr 1
      rw [Bool.eq_iff_iff]
      simp only [beq_iff_eq, decide_eq_true_eq]
      omega
  unfold impl_picArg.f
  by_cases c0 : a = 12
  · simp only [if_pos c0]; exact key (.inl c0)
  · simp only [if_neg c0]
    by_cases c1 : c = 0
    · rw [show (c != 0) = false by simp [c1]]; exact key (.inr c1)
    · rw [show (c != 0) = true by simp [c1]]
      have e : fld a b c = false := by unfold fld; exact decide_eq_false (by omega)
      refine Tells.step (f := fun _ => some (([] : List Int), false)) (fun k => by simp only [impl_picArg.j0, if_true]) (Tells.now ⟨e.symm, fun h => by rw [e] at h; cases h⟩)

def hasO (a : Int) : Bool := decide ((1 ≤ a ∧ a ≤ 3) ∨ a = 10)
theorem l17Has_eq (a : Int) : spec_l17Has.f a = some (hasO a) := by
  unfold spec_l17Has.f hasO
  repeat' split
  all_goals
    rw [Option.some.injEq, Bool.eq_iff_iff]
    simp only [beq_iff_eq, decide_eq_true_eq, true_iff]
    omega
theorem hasOne_eq (a : Int) : impl_hasOne.f a = some (hasO a) := by
  unfold impl_hasOne.f hasO
  simp only [in_eq, Option.bind_some, decide_eq_true_eq]
  split
  all_goals
    rw [Option.some.injEq, Bool.eq_iff_iff]
    simp only [beq_iff_eq, decide_eq_true_eq, true_iff]
    omega
def fits (a b : Int) : Bool := decide ((a = 10 ∧ 21 ≤ b ∧ b ≤ 37) ∨ (a ≠ 10 ∧ 1 ≤ b ∧ b ≤ 10))
theorem known_eq (a b : Int) : spec_l17Known.f a b = some (fits a b) := by
  unfold spec_l17Known.f fits
  repeat' split
  all_goals
    rw [Option.some.injEq, Bool.eq_iff_iff]
    simp only [decide_eq_true_eq, Bool.false_eq_true, false_iff, true_iff]
    omega
theorem opFits_eq (a b : Int) : impl_opFits.f a b = some (fits a b) := by
  unfold impl_opFits.f fits
  simp only [in_eq, Option.bind_some]
  split
  all_goals
    rw [Option.some.injEq, decide_eq_decide]
    omega

def ar (x : Int) : Int := if x = 1 ∨ x = 2 ∨ (21 ≤ x ∧ x ≤ 23) ∨ x = 25 then 1 else if 31 ≤ x ∧ x ≤ 35 then 3 else if (1 ≤ x ∧ x ≤ 10) ∨ (21 ≤ x ∧ x ≤ 37) then 2 else 0
theorem ar_le (x : Int) : ar x ≤ 3 := by unfold ar; repeat' split
                                         all_goals omega
theorem sAr_j1 (x : Int) (b : Bool) (hb : b = decide (31 ≤ x ∧ x ≤ 35)) (h1 : ¬ (x = 1 ∨ x = 2 ∨ (21 ≤ x ∧ x ≤ 23) ∨ x = 25)) : Ev (fun k => spec_ElemArity.j1 k x b) (ar x) := by
  refine Ev.step (f := fun _ => some (ar x)) (fun k => ?_) (Ev.now _)
  simp only [spec_ElemArity.j1, hb, decide_eq_true_eq]
  unfold ar
  rw [if_neg h1]
  repeat' split
  all_goals first | rfl | omega
theorem sAr_j0 (x : Int) (b : Bool) (hb : b = decide (x = 1 ∨ x = 2 ∨ (21 ≤ x ∧ x ≤ 23) ∨ x = 25)) : Ev (fun k => spec_ElemArity.j0 k x x b) (ar x) := by
  by_cases h1 : x = 1 ∨ x = 2 ∨ (21 ≤ x ∧ x ≤ 23) ∨ x = 25
  · refine Ev.step (f := fun _ => some (ar x)) (fun k => ?_) (Ev.now _)
    simp only [spec_ElemArity.j0, hb, decide_eq_true_eq, if_pos h1]
    unfold ar; rw [if_pos h1]
  · refine Ev.step (f := fun k => spec_ElemArity.j1 k x (decide (31 ≤ x ∧ x ≤ 35))) (fun k => ?_) (sAr_j1 x _ rfl h1)
    simp only [spec_ElemArity.j0, hb, decide_eq_true_eq, if_neg h1]
    repeat' split
    all_goals
      congr 1
      rw [Bool.eq_iff_iff]
      simp only [beq_iff_eq, decide_eq_true_eq]
      omega
theorem sAr_ev (x : Int) : Ev (fun k => spec_ElemArity.f k x) (ar x) := by
  have key : ∀ b : Bool, b = decide (x = 1 ∨ x = 2 ∨ (21 ≤ x ∧ x ≤ 23) ∨ x = 25) → Ev (fun k => spec_ElemArity.j0 k x x b) (ar x) := fun b hb => sAr_j0 x b hb
  unfold spec_ElemArity.f
  by_cases c1 : x = 1
  · simp only [if_pos c1]; exact key _ (by rw [Bool.eq_iff_iff]; simp only [beq_iff_eq, decide_eq_true_eq]; omega)
  simp only [if_neg c1]
  by_cases c2 : x = 2
  · simp only [if_pos c2]; exact key _ (by rw [Bool.eq_iff_iff]; simp only [beq_iff_eq, decide_eq_true_eq]; omega)
  simp only [if_neg c2]
  by_cases c3 : x = 21
  · simp only [if_pos c3]; exact key _ (by rw [Bool.eq_iff_iff]; simp only [beq_iff_eq, decide_eq_true_eq]; omega)
  simp only [if_neg c3]
  by_cases c4 : x = 22
  · simp only [if_pos c4]; exact key _ (by rw [Bool.eq_iff_iff]; simp only [beq_iff_eq, decide_eq_true_eq]; omega)
  simp only [if_neg c4]
  by_cases c5 : x = 23
  · simp only [if_pos c5]; exact key _ (by rw [Bool.eq_iff_iff]; simp only [beq_iff_eq, decide_eq_true_eq]; omega)
  simp only [if_neg c5]
  exact key _ (by rw [Bool.eq_iff_iff]; simp only [beq_iff_eq, decide_eq_true_eq]; omega)
theorem iAr_j0 (x : Int) (b : Bool) (hb : b = decide (x = 1 ∨ x = 2 ∨ (21 ≤ x ∧ x ≤ 23) ∨ x = 25)) : Ev (fun k => impl_ElemArity.j0 k x b) (ar x) := by
  refine Ev.step (f := fun _ => some (ar x)) (fun k => ?_) (Ev.now _)
  simp only [impl_ElemArity.j0, hb, decide_eq_true_eq, in_eq, Option.bind_some]
  unfold ar
  repeat' split
  all_goals first | rfl | omega
theorem iAr_ev (x : Int) : Ev (fun k => impl_ElemArity.f k x) (ar x) := by
  have key : ∀ b : Bool, b = decide (x = 1 ∨ x = 2 ∨ (21 ≤ x ∧ x ≤ 23) ∨ x = 25) → Ev (fun k => impl_ElemArity.j0 k x b) (ar x) := fun b hb => iAr_j0 x b hb
  unfold impl_ElemArity.f
  by_cases c1 : x = 1
  · simp only [if_pos c1]; exact key _ (by rw [Bool.eq_iff_iff]; simp only [beq_iff_eq, decide_eq_true_eq]; omega)
  simp only [if_neg c1]
  by_cases c2 : x = 2
  · simp only [if_pos c2]; exact key _ (by rw [Bool.eq_iff_iff]; simp only [beq_iff_eq, decide_eq_true_eq]; omega)
  simp only [if_neg c2, in_eq, Option.bind_some, decide_eq_true_eq]
  by_cases c3 : 21 ≤ x ∧ x ≤ 23
  · simp only [if_pos c3]; exact key _ (by rw [decide_eq_decide]; omega)
  simp only [if_neg c3]
  exact key _ (by rw [Bool.eq_iff_iff]; simp only [beq_iff_eq, decide_eq_true_eq]; omega)

def okA (l : List S54) : Bool := l.all fun x => fld x.f0 x.f1 x.f2
/-- What is wrong with an entry; its bytes. -/
def wr (a b : Int) (l : List S54) : Int := if a < 1 ∨ a > 11 then 2 else if hasO a = true then (if fits a b = true then (if (l.length : Int) = ar b then (if okA l = true then 0 else 3) else 2) else 2) else if b = 0 then (if l.length = 0 then 0 else 2) else 2
def ib (a b : Int) (l : List S54) : List Int := if hasO a = true then [a % 256, b % 256] ++ l.flatMap (fun x => ab x.f0 x.f1 x.f2) else [a % 256]
theorem wr_loop (a b : Int) (l : List S54) (hl : l.length ≤ 1048576) (d : Nat) : ∀ i : Nat, l.length - i = d → i ≤ l.length →
    Ev (fun k => spec_l17Wrong.l0 k (i : Int) a b l) (if okA (l.drop i) = true then 0 else 3) := by
  induction d with
  | zero =>
    intro i hd hi
    obtain rfl : i = l.length := by omega
    rw [List.drop_length]
    refine Ev.step (f := fun _ => some 0) (fun k => ?_) (Ev.now _)
    simp only [spec_l17Wrong.l0]; rw [if_neg (by omega)]
  | succ d ih =>
    intro i hd hi
    have hlt : i < l.length := by omega
    have w : wrap64 ((i : Int) + 1) = ((i + 1 : Nat) : Int) := by unfold wrap64; omega
    have hg : rd_T54 l (i : Int) = l[i] := by unfold rd_T54; rw [Int.toNat_natCast, getD_lt l _ i hlt]
    have hr := ih (i + 1) (by omega) (by omega)
    have hd2 : okA (l.drop i) = (fld l[i].f0 l[i].f1 l[i].f2 && okA (l.drop (i + 1))) := by rw [List.drop_eq_getElem_cons hlt]; rfl
    rw [hd2]
    cases hf : fld l[i].f0 l[i].f1 l[i].f2
    · refine Ev.step (f := fun _ => some 3) (fun k => ?_) (Ev.now _)
      simp only [spec_l17Wrong.l0]
      rw [if_pos (by omega), if_pos (by omega), hg, field_eq, hf]; rfl
    · refine Ev.step (fun k => ?_) hr
      simp only [spec_l17Wrong.l0]
      rw [if_pos (by omega), if_pos (by omega), hg, field_eq, hf, w]; rfl
theorem wr_j0 (a b : Int) (l : List S54) (hl : l.length ≤ 1048576) (x : Bool) (hx : x = decide (a < 1 ∨ a > 11)) : Ev (fun k => spec_l17Wrong.j0 k x a b l) (wr a b l) := by
  unfold wr
  by_cases c : a < 1 ∨ a > 11
  · rw [if_pos c]
    rw [decide_eq_true c] at hx
    subst hx
    exact Ev.step (f := fun _ => some 2) (fun k => by simp only [spec_l17Wrong.j0, if_true]) (Ev.now _)
  · rw [if_neg c]
    rw [decide_eq_false c] at hx
    subst hx
    by_cases c1 : hasO a = true
    · rw [if_pos c1]
      by_cases c2 : fits a b = true
      · rw [if_pos c2]
        refine Ev.step (f := fun k => (spec_ElemArity.f k b).bind fun t163 => (spec_l17Wrong.j1 k ((l.length : Int) != t163) a b l)) (fun k => ?_) (Ev.bind (sAr_ev b) ?_)
        · simp only [spec_l17Wrong.j0, if_neg (show ¬ (false = true) by decide), l17Has_eq, known_eq, Option.bind_some, if_pos c1, if_pos c2]
        · by_cases c3 : (l.length : Int) = ar b
          · rw [if_pos c3, show ((l.length : Int) != ar b) = false by rw [c3]; exact bne_self_eq_false _]
            refine Ev.step (f := fun k => spec_l17Wrong.l0 k 0 a b l) (fun k => by simp only [spec_l17Wrong.j1, if_neg (show ¬ (false = true) by decide)]) ?_
            have h := wr_loop a b l hl l.length 0 (by omega) (by omega)
            simpa using h
          · rw [if_neg c3, show ((l.length : Int) != ar b) = true from bne_iff_ne.mpr c3]
            exact Ev.step (f := fun _ => some 2) (fun k => by simp only [spec_l17Wrong.j1, if_true]) (Ev.now _)
      · rw [if_neg c2]
        refine Ev.step (f := fun k => spec_l17Wrong.j1 k true a b l) (fun k => ?_) (Ev.step (f := fun _ => some 2) (fun k => by simp only [spec_l17Wrong.j1, if_true]) (Ev.now _))
        simp only [spec_l17Wrong.j0, if_neg (show ¬ (false = true) by decide), l17Has_eq, known_eq, Option.bind_some, if_pos c1, if_neg c2]
    · rw [if_neg c1]
      refine Ev.step (f := fun _ => some _) (fun k => ?_) (Ev.now _)
      simp only [spec_l17Wrong.j0, if_neg (show ¬ (false = true) by decide), l17Has_eq, Option.bind_some, if_neg c1]
      by_cases c2 : b = 0
      · rw [if_pos c2, if_pos c2]
        by_cases c3 : l.length = 0
        · rw [if_neg (by omega), if_pos c3]
        · rw [if_pos (by omega), if_neg c3]
      · rw [if_neg c2, if_neg c2]
theorem wr_ev (a b : Int) (l : List S54) (hl : l.length ≤ 1048576) : Ev (fun k => spec_l17Wrong.f k a b l) (wr a b l) := by
  unfold spec_l17Wrong.f
  by_cases c : a < 1
  · simp only [if_pos c]; exact wr_j0 a b l hl _ (decide_eq_true (Or.inl c)).symm
  · simp only [if_neg c]; exact wr_j0 a b l hl _ (by rw [decide_eq_decide]; omega)
theorem wr_len {a b : Int} {l : List S54} (h : wr a b l = 0) (hh : hasO a = true) : l.length ≤ 3 ∧ okA l = true := by
  unfold wr at h
  rw [if_pos hh] at h
  have h3 := ar_le b
  split at h
  · omega
  · split at h
    · split at h
      · split at h
        · exact ⟨by omega, by assumption⟩
        · omega
      · omega
    · omega
theorem flat_length (l : List S54) : (l.flatMap (fun x => ab x.f0 x.f1 x.f2)).length ≤ 6 * l.length := by
  induction l with
  | nil => simp
  | cons x l ih =>
    rw [List.flatMap_cons, List.length_append, List.length_cons]
    have := ab_length x.f0 x.f1 x.f2
    omega
theorem ib_length {a b : Int} {l : List S54} (h : wr a b l = 0) : (ib a b l).length ≤ 20 := by
  unfold ib
  split
  · rename_i hh
    have h1 := wr_len h hh
    have h2 := flat_length l
    rw [List.length_append]
    simp only [List.length_cons, List.length_nil]
    omega
  · simp
theorem ib_bytes (a b : Int) (l : List S54) : Bytes (ib a b l) := by
  unfold ib Bytes
  intro x hx
  split at hx
  · rcases List.mem_append.1 hx with hx | hx
    · simp only [List.mem_cons, List.not_mem_nil, or_false] at hx; omega
    · obtain ⟨y, _, hy⟩ := List.mem_flatMap.1 hx
      exact ab_bytes _ _ _ x hy
  · simp only [List.mem_cons, List.not_mem_nil, or_false] at hx; omega

theorem fld_range {a b c : Int} (h : fld a b c = true) : -4294967296 ≤ b ∧ b ≤ 4294967296 := by
  unfold fld at h
  have := of_decide_eq_true h
  omega
theorem l17Wide_eq (a : Int) : spec_l17Wide.f a = some (if a = 11 then 2 else if a = 12 then 4 else 1) := by
  unfold spec_l17Wide.f
  repeat' split
  all_goals rfl
theorem inst_loop (a b : Int) (l : List S54) (hl : l.length ≤ 3) (ho : okA l = true) (d : Nat) : ∀ (i : Nat) (z : List Int), l.length - i = d → i ≤ l.length → z.length ≤ 100 + 6 * i →
    Ev (fun k => spec_l17Inst.l0 k z (i : Int) a b l) (z ++ (l.drop i).flatMap (fun x => ab x.f0 x.f1 x.f2)) := by
  induction d with
  | zero =>
    intro i z hd hi hz
    obtain rfl : i = l.length := by omega
    rw [List.drop_length]
    refine Ev.step (f := fun _ => some z) (fun k => ?_) (by simpa using Ev.now z)
    simp only [spec_l17Inst.l0]; rw [if_neg (by omega)]
  | succ d ih =>
    intro i z hd hi hz
    have hlt : i < l.length := by omega
    have w : wrap64 ((i : Int) + 1) = ((i + 1 : Nat) : Int) := by unfold wrap64; omega
    have hg : rd_T54 l (i : Int) = l[i] := by unfold rd_T54; rw [Int.toNat_natCast, getD_lt l _ i hlt]
    have hf : fld l[i].f0 l[i].f1 l[i].f2 = true := List.all_eq_true.1 ho _ (List.getElem_mem hlt)
    obtain ⟨p, hp⟩ : ∃ p, p = l[i] := ⟨_, rfl⟩
    rw [← hp] at hg hf
    have hrg := fld_range hf
    have hal := ab_length p.f0 p.f1 p.f2
    have hr := ih (i + 1) (z ++ ab p.f0 p.f1 p.f2) (by omega) (by omega) (by rw [List.length_append]; omega)
    rw [List.drop_eq_getElem_cons hlt, List.flatMap_cons, ← hp, ← List.append_assoc]
    refine Ev.step (f := fun k => (spec_l17Num.f k p.f1 (if p.f0 = 11 then 2 else if p.f0 = 12 then 4 else 1)).bind fun t185 => (if (z ++ [p.f0 % 256]).length + t185.length < 140737488355328 then ((some (z ++ [p.f0 % 256] ++ t185 : List Int)).bind fun y188 => (if p.f0 = 12 then (if y188.length < 140737488355328 then (spec_l17Inst.l0 k (y188 ++ [p.f2 % 256]) ((i + 1 : Nat) : Int) a b l) else (none)) else (spec_l17Inst.l0 k y188 ((i + 1 : Nat) : Int) a b l))) else (none))) (fun k => ?_) ?_
    · simp only [spec_l17Inst.l0]
      rw [if_pos (by omega), if_pos (by omega), if_pos (by omega), hg, w, l17Wide_eq, Option.bind_some, Option.bind_some]
    · by_cases c1 : p.f0 = 11
      · have e : ab p.f0 p.f1 p.f2 = p.f0 % 256 :: n2 p.f1 := by unfold ab; rw [if_pos c1]
        rw [if_pos c1]
        refine Ev.bind (l17_2 _ hrg.1 hrg.2) ?_
        simp only [if_pos (show (z ++ [p.f0 % 256]).length + (n2 p.f1).length < 140737488355328 by simp [n2]; omega), Option.bind_some, if_neg (show ¬ p.f0 = 12 by omega)]
        rw [show z ++ [p.f0 % 256] ++ n2 p.f1 = z ++ ab p.f0 p.f1 p.f2 by rw [e]; simp]
        exact hr
      · rw [if_neg c1]
        by_cases c2 : p.f0 = 12
        · have e : ab p.f0 p.f1 p.f2 = (p.f0 % 256 :: n4 p.f1) ++ [p.f2 % 256] := by unfold ab; rw [if_neg c1, if_pos c2]
          rw [if_pos c2]
          refine Ev.bind (l17_4 _ hrg.1 hrg.2) ?_
          simp only [if_pos (show (z ++ [p.f0 % 256]).length + (n4 p.f1).length < 140737488355328 by simp [n4]; omega), Option.bind_some, if_pos c2, if_pos (show (z ++ [p.f0 % 256] ++ n4 p.f1).length < 140737488355328 by simp [n4]; omega)]
          rw [show z ++ [p.f0 % 256] ++ n4 p.f1 ++ [p.f2 % 256] = z ++ ab p.f0 p.f1 p.f2 by rw [e]; simp]
          exact hr
        · have e : ab p.f0 p.f1 p.f2 = [p.f0 % 256, p.f1 % 256] := by unfold ab; rw [if_neg c1, if_neg c2]
          rw [if_neg c2]
          refine Ev.bind (l17_1 _ hrg.1 hrg.2) ?_
          simp only [if_pos (show (z ++ [p.f0 % 256]).length + ([p.f1 % 256] : List Int).length < 140737488355328 by simp; omega), Option.bind_some, if_neg c2]
          rw [show z ++ [p.f0 % 256] ++ [p.f1 % 256] = z ++ ab p.f0 p.f1 p.f2 by rw [e]; simp]
          exact hr
theorem inst_ev {a b : Int} {l : List S54} (h : wr a b l = 0) : Ev (fun k => spec_l17Inst.f k a b l) (ib a b l) := by
  unfold spec_l17Inst.f ib
  simp only [Option.bind_some, l17Has_eq]
  by_cases c : hasO a = true
  · obtain ⟨h1, h2⟩ := wr_len h c
    simp only [if_pos c, if_pos (show ([a % 256] : List Int).length < 140737488355328 by simp)]
    have hr := inst_loop a b l h1 h2 l.length 0 [a % 256, b % 256] (by omega) (by omega) (by simp)
    simpa using hr
  · simp only [if_neg c]; exact Ev.now _

theorem picInst_loop (l : List S54) (hl : l.length ≤ 3) (d : Nat) : ∀ (i : Nat) (z : List Int), l.length - i = d → i ≤ l.length → z.length ≤ 100 + 6 * i →
    Tells (fun k => impl_picInst.l0 k z l (l.length : Int) (i : Int)) (fun r => r.2 = (if okA (l.drop i) = true then 0 else 3) ∧ (okA (l.drop i) = true → r.1 = z ++ (l.drop i).flatMap (fun x => ab x.f0 x.f1 x.f2))) := by
  induction d with
  | zero =>
    intro i z hd hi hz
    obtain rfl : i = l.length := by omega
    rw [List.drop_length]
    refine Tells.step (f := fun _ => some (z, 0)) (fun k => ?_) (Tells.now ⟨rfl, fun _ => by simp⟩)
    simp only [impl_picInst.l0]; rw [if_neg (by omega)]
  | succ d ih =>
    intro i z hd hi hz
    have hlt : i < l.length := by omega
    have w : wrap64 ((i : Int) + 1) = ((i + 1 : Nat) : Int) := by unfold wrap64; omega
    have hg : rd_T54 l (i : Int) = l[i] := by unfold rd_T54; rw [Int.toNat_natCast, getD_lt l _ i hlt]
    obtain ⟨p, hp⟩ : ∃ p, p = l[i] := ⟨_, rfl⟩
    have hd2 : okA (l.drop i) = (fld p.f0 p.f1 p.f2 && okA (l.drop (i + 1))) := by rw [hp, List.drop_eq_getElem_cons hlt]; rfl
    rw [← hp] at hg
    have hal := ab_length p.f0 p.f1 p.f2
    rw [hd2, List.drop_eq_getElem_cons hlt, List.flatMap_cons, ← hp, ← List.append_assoc]
    refine Tells.step (f := fun k => (impl_picArg.f k p.f0 p.f1 p.f2).bind fun bt297 => (if bt297.2 = true then (if z.length + bt297.1.length < 140737488355328 then (impl_picInst.l0 k (z ++ bt297.1) l (l.length : Int) ((i + 1 : Nat) : Int)) else (none)) else (some (([] : List Int), 3)))) (fun k => ?_) ?_
    · simp only [impl_picInst.l0]
      rw [if_pos (by omega), if_pos (by omega), if_pos (by omega), hg, w]
    · refine Tells.bind (picArg_tells p.f0 p.f1 p.f2) fun r hr => ?_
      obtain ⟨h1, h2⟩ := hr
      rw [h1]
      cases hf : fld p.f0 p.f1 p.f2
      · simp only [if_neg (show ¬ (false = true) by decide)]
        exact Tells.now ⟨rfl, fun h => by cases h⟩
      · rw [h2 hf]
        simp only [if_true, if_pos (show z.length + (ab p.f0 p.f1 p.f2).length < 140737488355328 by omega), Bool.true_and]
        exact ih (i + 1) _ (by omega) (by omega) (by rw [List.length_append]; omega)
theorem picInst_j1 (a b : Int) (l : List S54) (hl : hasO a = true → l.length ≤ 3) (hw : wr a b l = if hasO a = true then (if okA l = true then 0 else 3) else 0) :
    Tells (fun k => impl_picInst.j1 k a b l) (fun r => r.2 = wr a b l ∧ (wr a b l = 0 → r.1 = ib a b l)) := by
  by_cases c : hasO a = true
  · rw [if_pos c] at hw
    refine Tells.step (f := fun k => impl_picInst.l0 k ([a % 256] ++ [b % 256]) l (l.length : Int) 0) (fun k => ?_) ?_
    · simp only [impl_picInst.j1, Option.bind_some, hasOne_eq, if_pos c, if_pos (show ([a % 256] : List Int).length < 140737488355328 by simp)]
    · refine (picInst_loop l (hl c) l.length 0 ([a % 256] ++ [b % 256]) (by omega) (by omega) (by simp)).mono fun r hr => ?_
      rw [List.drop_zero] at hr
      rw [hw]
      refine ⟨hr.1, fun h => ?_⟩
      unfold ib
      rw [if_pos c, hr.2 (by split at h; assumption; cases h)]
      rfl
  · rw [if_neg c] at hw
    refine Tells.step (f := fun _ => some ([a % 256], 0)) (fun k => ?_) (Tells.now ⟨hw.symm, fun _ => ?_⟩)
    · simp only [impl_picInst.j1, Option.bind_some, hasOne_eq, if_neg c]
    · unfold ib; rw [if_neg c]
theorem picInst_tells (a b : Int) (l : List S54) : Tells (fun k => impl_picInst.f k a b l) (fun r => r.2 = wr a b l ∧ (wr a b l = 0 → r.1 = ib a b l)) := by
  have bad : wr a b l = 2 → Tells (fun k => impl_picInst.j0 k true a b l) (fun r => r.2 = wr a b l ∧ (wr a b l = 0 → r.1 = ib a b l)) := fun h => by
    refine Tells.step (f := fun _ => some (([] : List Int), 2)) (fun k => by simp only [impl_picInst.j0, if_true]) (Tells.now ⟨h.symm, fun h0 => by omega⟩)
  unfold impl_picInst.f
  simp only [in_eq, Option.bind_some, decide_eq_true_eq, hasOne_eq, opFits_eq]
  by_cases c0 : 1 ≤ a ∧ a ≤ 11
  · simp only [if_pos c0]
    have n0 : ¬ (a < 1 ∨ a > 11) := by omega
    by_cases c1 : hasO a = true
    · simp only [if_pos c1]
      by_cases c2 : fits a b = true
      · simp only [if_pos c2]
        refine Tells.bindEv (iAr_ev b) ?_
        by_cases c3 : (l.length : Int) = ar b
        · rw [show ((l.length : Int) != ar b) = false by rw [c3]; exact bne_self_eq_false _]
          have hw : wr a b l = if hasO a = true then (if okA l = true then 0 else 3) else 0 := by unfold wr; rw [if_neg n0, if_pos c1, if_pos c2, if_pos c3, if_pos c1]
          refine Tells.step (f := fun k => impl_picInst.j1 k a b l) (fun k => ?_) (picInst_j1 a b l (fun _ => by have := ar_le b; omega) hw)
          simp only [impl_picInst.j0, if_neg (show ¬ (false = true) by decide), hasOne_eq, Option.bind_some, if_pos c1]
        · rw [show ((l.length : Int) != ar b) = true from bne_iff_ne.mpr c3]
          exact bad (by unfold wr; rw [if_neg n0, if_pos c1, if_pos c2, if_neg c3])
      · simp only [if_neg c2]
        exact bad (by unfold wr; rw [if_neg n0, if_pos c1, if_neg c2])
    · simp only [if_neg c1]
      by_cases c2 : b = 0 ∧ l.length = 0
      · have hw : wr a b l = if hasO a = true then (if okA l = true then 0 else 3) else 0 := by unfold wr; rw [if_neg n0, if_neg c1, if_pos c2.1, if_pos c2.2, if_neg c1]
        refine Tells.step (f := fun k => impl_picInst.j1 k a b l) (fun k => ?_) (picInst_j1 a b l (fun h => absurd h c1) hw)
        simp only [impl_picInst.j0, if_neg (show ¬ (false = true) by decide), hasOne_eq, Option.bind_some, if_neg c1, impl_Elem_bare.f, if_pos c2.1, c2.2]
        rfl
      · have hw : wr a b l = 2 := by
          unfold wr
          rw [if_neg n0, if_neg c1]
          by_cases c3 : b = 0
          · rw [if_pos c3, if_neg (fun h => c2 ⟨c3, h⟩)]
          · rw [if_neg c3]
        refine Tells.step (f := fun _ => some (([] : List Int), 2)) (fun k => ?_) (Tells.now ⟨hw.symm, fun h0 => by omega⟩)
        simp only [impl_picInst.j0, if_neg (show ¬ (false = true) by decide), hasOne_eq, Option.bind_some, if_neg c1, impl_Elem_bare.f]
        by_cases c3 : b = 0
        · rw [if_pos c3, Option.bind_some, if_neg (by simp only [beq_iff_eq]; omega)]
        · rw [if_neg c3, Option.bind_some, if_neg (by decide)]
  · simp only [if_neg c0]
    have hw : wr a b l = 2 := by unfold wr; rw [if_pos (by omega)]
    exact Tells.now ⟨hw.symm, fun h0 => by omega⟩

theorem concat_ev (a b c d : List Int) (h : a.length + b.length + c.length + d.length ≤ 1000000) : Ev (fun k => slices_Concat_byte_byte.f k [a, b, c, d]) (a ++ b ++ c ++ d) := by
  have e0 : rd_L10 [a, b, c, d] 0 = a := rfl
  have e1 : rd_L10 [a, b, c, d] 1 = b := rfl
  have e2 : rd_L10 [a, b, c, d] 2 = c := rfl
  have e3 : rd_L10 [a, b, c, d] 3 = d := rfl
  have w0 : wrap64 (0 + 1) = 1 := by unfold wrap64; omega
  have w1 : wrap64 (1 + 1) = 2 := by unfold wrap64; omega
  have w2 : wrap64 (2 + 1) = 3 := by unfold wrap64; omega
  have w3 : wrap64 (3 + 1) = 4 := by unfold wrap64; omega
  have l4 : (([a, b, c, d] : List (List Int)).length : Int) = 4 := rfl
  unfold slices_Concat_byte_byte.f
  rw [l4]
  refine Ev.step (f := fun k => slices_Concat_byte_byte.l0 k [a, b, c, d] (a.length : Int) [a, b, c, d] 4 1) (fun k => ?_) ?_
  · simp only [slices_Concat_byte_byte.l0]
    rw [if_pos (by decide), if_pos (by decide), l4, if_pos (by decide), e0, w0, wrap64_in (by omega) (by omega), if_neg (by omega), Int.zero_add]
  refine Ev.step (f := fun k => slices_Concat_byte_byte.l0 k [a, b, c, d] ((a.length : Int) + b.length) [a, b, c, d] 4 2) (fun k => ?_) ?_
  · simp only [slices_Concat_byte_byte.l0]
    rw [if_pos (by decide), if_pos (by decide), l4, if_pos (by decide), e1, w1, wrap64_in (by omega) (by omega), if_neg (by omega)]
  refine Ev.step (f := fun k => slices_Concat_byte_byte.l0 k [a, b, c, d] ((a.length : Int) + b.length + c.length) [a, b, c, d] 4 3) (fun k => ?_) ?_
  · simp only [slices_Concat_byte_byte.l0]
    rw [if_pos (by decide), if_pos (by decide), l4, if_pos (by decide), e2, w2, wrap64_in (by omega) (by omega), if_neg (by omega)]
  refine Ev.step (f := fun k => slices_Concat_byte_byte.l0 k [a, b, c, d] ((a.length : Int) + b.length + c.length + d.length) [a, b, c, d] 4 4) (fun k => ?_) ?_
  · simp only [slices_Concat_byte_byte.l0]
    rw [if_pos (by decide), if_pos (by decide), l4, if_pos (by decide), e3, w3, wrap64_in (by omega) (by omega), if_neg (by omega)]
  refine Ev.step (f := fun k => slices_Concat_byte_byte.l1 k [] [a, b, c, d] 4 0) (fun k => ?_) ?_
  · simp only [slices_Concat_byte_byte.l0]
    rw [if_neg (by decide), if_pos (by omega), if_pos (by omega), l4]
  refine Ev.step (f := fun k => slices_Concat_byte_byte.l1 k ([] ++ a) [a, b, c, d] 4 1) (fun k => ?_) ?_
  · simp only [slices_Concat_byte_byte.l1]
    rw [if_pos (by decide), if_pos (by decide), l4, if_pos (by decide), e0, w0, if_pos (by simp; omega)]
  refine Ev.step (f := fun k => slices_Concat_byte_byte.l1 k ([] ++ a ++ b) [a, b, c, d] 4 2) (fun k => ?_) ?_
  · simp only [slices_Concat_byte_byte.l1]
    rw [if_pos (by decide), if_pos (by decide), l4, if_pos (by decide), e1, w1, if_pos (by simp; omega)]
  refine Ev.step (f := fun k => slices_Concat_byte_byte.l1 k ([] ++ a ++ b ++ c) [a, b, c, d] 4 3) (fun k => ?_) ?_
  · simp only [slices_Concat_byte_byte.l1]
    rw [if_pos (by decide), if_pos (by decide), l4, if_pos (by decide), e2, w2, if_pos (by simp; omega)]
  refine Ev.step (f := fun k => slices_Concat_byte_byte.l1 k ([] ++ a ++ b ++ c ++ d) [a, b, c, d] 4 4) (fun k => ?_) ?_
  · simp only [slices_Concat_byte_byte.l1]
    rw [if_pos (by decide), if_pos (by decide), l4, if_pos (by decide), e3, w3, if_pos (by simp; omega)]
  exact Ev.step (f := fun _ => some ([] ++ a ++ b ++ c ++ d)) (fun k => by simp only [slices_Concat_byte_byte.l1]; rw [if_neg (by decide)]) (by simpa using Ev.now _)

def mid (n : Nat) (z : List Int) : List Int := [83, 116] ++ n2 ((z.length : Int) + 8) ++ n2 (n : Int) ++ z
/-- The image behind its entries' bytes. -/
def fin (n : Nat) (z : List Int) : List Int := mid n z ++ n2 (sum (mid n z) 65535 : Int)
def img (n : Nat) : List S52 → Nat → List Int → List Int × Int × Int
  | [], _, z => (fin n z, 0, 0)
  | x :: l, i, z => if wr x.f0 x.f1.f0 x.f1.f1 = 0 then img n l (i + 1) (z ++ ib x.f0 x.f1.f0 x.f1.f1) else ([], wr x.f0 x.f1.f0 x.f1.f1, (i : Int))
def pic (l : List S52) : List Int × Int × Int := if l.length > 1000 then ([], 1, 0) else img l.length l 0 []
theorem n2_length (a : Int) : (n2 a).length = 2 := rfl
theorem mid_length (n : Nat) (z : List Int) : (mid n z).length = z.length + 6 := by unfold mid n2; simp
theorem n2_bytes (a : Int) : Bytes (n2 a) := fun x hx => by
  unfold n2 at hx
  simp only [List.mem_cons, List.not_mem_nil, or_false] at hx; omega
theorem bytes_app {a b : List Int} (ha : Bytes a) (hb : Bytes b) : Bytes (a ++ b) := fun x hx => (List.mem_append.1 hx).elim (ha x) (hb x)
theorem mid_bytes (n : Nat) {z : List Int} (h : Bytes z) : Bytes (mid n z) :=
  bytes_app (bytes_app (bytes_app (fun x hx => by simp only [List.mem_cons, List.not_mem_nil, or_false] at hx; omega) (n2_bytes _)) (n2_bytes _)) h
theorem sum_lt : ∀ (l : List Int) (s : Nat), Bytes l → s < 65536 → sum l s < 65536
  | [], s, _, h => h
  | x :: l, s, hb, h => by
    have hx := hb x (List.mem_cons_self ..)
    exact sum_lt l _ (fun y hy => hb y (List.mem_cons_of_mem _ hy)) (rnds_lt 8 (step_lt h hx.1 hx.2))
theorem wr_cases (a b : Int) (l : List S54) : wr a b l = 0 ∨ wr a b l = 2 ∨ wr a b l = 3 := by
  unfold wr
  repeat' split
  all_goals omega
theorem fin_length (n : Nat) (z : List Int) : (fin n z).length = z.length + 8 := by unfold fin; rw [List.length_append, mid_length, n2_length]
theorem img_length (n : Nat) : ∀ (l : List S52) (i : Nat) (z : List Int), z.length ≤ 20 * i → i + l.length ≤ 1000 → (img n l i z).1.length ≤ 20008
  | [], i, z, h, h1 => by unfold img; rw [fin_length]; simp at h1; omega
  | x :: l, i, z, h, h1 => by
    rw [img]
    split
    · rename_i h2
      have h3 := ib_length h2
      rw [List.length_cons] at h1
      exact img_length n l (i + 1) _ (by rw [List.length_append]; omega) (by omega)
    · simp
theorem pic_length (l : List S52) : (pic l).1.length ≤ 20008 := by
  unfold pic
  split
  · simp
  · exact img_length _ l 0 [] (by simp) (by omega)
theorem impl_loop (l : List S52) (hl : l.length ≤ 1000) (d : Nat) : ∀ (i : Nat) (z : List Int), l.length - i = d → i ≤ l.length → z.length ≤ 20 * i → Bytes z →
    Ev (fun k => impl_PicMake.l0 k l z l (l.length : Int) (i : Int)) (img l.length (l.drop i) i z) := by
  induction d with
  | zero =>
    intro i z hd hi hz hb
    obtain rfl : i = l.length := by omega
    rw [List.drop_length]
    refine Ev.step (f := fun k => (impl_big.f k (wrap64 ((z.length : Int) + 8)) 2).bind fun t336 => ((impl_big.f k (l.length : Int) 2).bind fun t339 => ((slices_Concat_byte_byte.f k (([(([83, 116] : List Int)), t336, t339, z] : List (List Int)))).bind fun t345 => ((impl_PicSum.f k t345).bind fun t348 => ((impl_big.f k (wrap64 (t348)) 2).bind fun t349 => (if t345.length + t349.length < 140737488355328 then ((impl_clone_byte.f (t345 ++ t349)).bind fun t355 => (some (t355, 0, 0))) else (none))))))) (fun k => ?_) ?_
    · simp only [impl_PicMake.l0]; rw [if_neg (by omega)]
    · have w : wrap64 ((z.length : Int) + 8) = (z.length : Int) + 8 := wrap64_in (by omega) (by omega)
      rw [w]
      refine Ev.bind (big_2 _) ?_
      refine Ev.bind (big_2 _) ?_
      refine Ev.bind (concat_ev _ _ _ _ (by simp only [n2_length, List.length_cons, List.length_nil]; omega)) ?_
      have hm := mid_length l.length z
      have hmb := mid_bytes l.length hb
      have hs := sum_lt (mid l.length z) 65535 hmb (by decide)
      show Ev (fun k => (impl_PicSum.f k (mid l.length z)).bind _) _
      have hps : Ev (fun k => impl_PicSum.f k (mid l.length z)) (sum (mid l.length z) 65535 : Int) := impl_PicSum_loop (mid l.length z) hmb (by omega) (mid l.length z).length 0 65535 (by decide) (by omega) (by omega)
      refine Ev.bind hps ?_
      rw [wrap64_in (by omega) (by omega)]
      refine Ev.bind (big_2 _) ?_
      refine Ev.congr (f := fun _ => some (fin l.length z, 0, 0)) (fun k => ?_) (Ev.now _)
      refine (if_pos (show (mid l.length z).length + (n2 (sum (mid l.length z) 65535 : Int)).length < 140737488355328 by rw [n2_length]; omega)).trans ?_
      show (impl_clone_byte.f (mid l.length z ++ n2 (sum (mid l.length z) 65535 : Int))).bind _ = _
      rw [clone_eq _ (by rw [List.length_append, n2_length]; omega)]
      rfl
  | succ d ih =>
    intro i z hd hi hz hb
    have hlt : i < l.length := by omega
    have w : wrap64 ((i : Int) + 1) = ((i + 1 : Nat) : Int) := by unfold wrap64; omega
    have hg : rd_T52 l (i : Int) = l[i] := by unfold rd_T52; rw [Int.toNat_natCast, getD_lt l _ i hlt]
    obtain ⟨p, hp⟩ : ∃ p, p = l[i] := ⟨_, rfl⟩
    rw [List.drop_eq_getElem_cons hlt, ← hp, img]
    rw [← hp] at hg
    obtain ⟨r, hr, h1, h2⟩ := picInst_tells p.f0 p.f1.f0 p.f1.f1
    refine Ev.step (f := fun k => (impl_picInst.f k p.f0 p.f1.f0 p.f1.f1).bind fun bt326 => (if bt326.2 = 0 then (if z.length + bt326.1.length < 140737488355328 then (impl_PicMake.l0 k l (z ++ bt326.1) l (l.length : Int) ((i + 1 : Nat) : Int)) else (none)) else (some (([] : List Int), bt326.2, (i : Int))))) (fun k => ?_) (Ev.bind hr ?_)
    · simp only [impl_PicMake.l0]
      rw [if_pos (by omega), if_pos (by omega), if_pos (by omega), hg, w]
    · rw [h1]
      by_cases c : wr p.f0 p.f1.f0 p.f1.f1 = 0
      · have h3 := ib_length c
        rw [h2 c]
        simp only [if_pos c, if_pos (show z.length + (ib p.f0 p.f1.f0 p.f1.f1).length < 140737488355328 by omega)]
        exact ih (i + 1) _ (by omega) (by omega) (by rw [List.length_append]; omega) (bytes_app hb (ib_bytes _ _ _))
      · simp only [if_neg c]; exact Ev.now _
theorem impl_pic (l : List S52) : Ev (fun k => impl_PicMake.f k l) (pic l) := by
  unfold impl_PicMake.f pic
  by_cases c : l.length > 1000
  · simp only [if_pos c, if_pos (show (l.length : Int) > 1000 by omega)]; exact Ev.now _
  · simp only [if_neg c, if_neg (show ¬ (l.length : Int) > 1000 by omega)]
    exact impl_loop l (by omega) l.length 0 [] (by omega) (by omega) (by simp) (fun x hx => by simp at hx)
theorem spec_loop (l : List S52) (hl : l.length ≤ 1000) (hm : ∀ x ∈ l, x.f1.f1.length ≤ 1048576) (d : Nat) : ∀ (i : Nat) (z : List Int), l.length - i = d → i ≤ l.length → z.length ≤ 20 * i → Bytes z →
    Ev (fun k => spec_PicMake.l0 k l z (i : Int)) (img l.length (l.drop i) i z) := by
  induction d with
  | zero =>
    intro i z hd hi hz hb
    obtain rfl : i = l.length := by omega
    rw [List.drop_length]
    refine Ev.step (f := fun k => ((some (([83, 116] : List Int) : List Int)).bind fun y211 => ((spec_l17Num.f k (wrap64 ((z.length : Int) + 8)) 2).bind fun t214 => (if y211.length + t214.length < 140737488355328 then ((some (y211 ++ t214 : List Int)).bind fun y217 => ((spec_l17Num.f k (l.length : Int) 2).bind fun t220 => (if y217.length + t220.length < 140737488355328 then ((some (y217 ++ t220 : List Int)).bind fun y223 => (if y223.length + z.length < 140737488355328 then ((some (y223 ++ z : List Int)).bind fun y226 => ((spec_PicSum.f k y226).bind fun t229 => ((spec_l17Num.f k (wrap64 (t229)) 2).bind fun t230 => (if y226.length + t230.length < 140737488355328 then (some ((y226 ++ t230), 0, 0)) else (none))))) else (none))) else (none)))) else (none))))) (fun k => ?_) ?_
    · simp only [spec_PicMake.l0]; rw [if_neg (by omega)]
    · have w : wrap64 ((z.length : Int) + 8) = (z.length : Int) + 8 := wrap64_in (by omega) (by omega)
      have hm := mid_length l.length z
      have hmb := mid_bytes l.length hb
      have hs := sum_lt (mid l.length z) 65535 hmb (by decide)
      simp only [Option.bind_some, w]
      refine Ev.bind (l17_2 _ (by omega) (by omega)) ?_
      simp only [n2_length, if_pos (show ([83, 116] : List Int).length + 2 < 140737488355328 by simp)]
      refine Ev.bind (l17_2 _ (by omega) (by omega)) ?_
      simp only [n2_length, if_pos (show ([83, 116] ++ n2 ((z.length : Int) + 8) : List Int).length + 2 < 140737488355328 by simp [n2]), if_pos (show ([83, 116] ++ n2 ((z.length : Int) + 8) ++ n2 (l.length : Int) : List Int).length + z.length < 140737488355328 by simp [n2]; omega)]
      show Ev (fun k => (spec_PicSum.f k (mid l.length z)).bind _) _
      have hps : Ev (fun k => spec_PicSum.f k (mid l.length z)) (sum (mid l.length z) 65535 : Int) := spec_PicSum_loop (mid l.length z) hmb (by omega) (mid l.length z).length 0 65535 (by decide) (by omega) (by omega)
      refine Ev.bind hps ?_
      rw [wrap64_in (by omega) (by omega)]
      refine Ev.bind (l17_2 _ (by omega) (by omega)) ?_
      refine Ev.congr (f := fun _ => some (fin l.length z, 0, 0)) (fun k => ?_) (Ev.now _)
      exact if_pos (show (mid l.length z).length + (n2 (sum (mid l.length z) 65535 : Int)).length < 140737488355328 by rw [n2_length]; omega)
  | succ d ih =>
    intro i z hd hi hz hb
    have hlt : i < l.length := by omega
    have w : wrap64 ((i : Int) + 1) = ((i + 1 : Nat) : Int) := by unfold wrap64; omega
    have hg : rd_T52 l (i : Int) = l[i] := by unfold rd_T52; rw [Int.toNat_natCast, getD_lt l _ i hlt]
    have hma := hm _ (List.getElem_mem hlt)
    obtain ⟨p, hp⟩ : ∃ p, p = l[i] := ⟨_, rfl⟩
    rw [List.drop_eq_getElem_cons hlt, ← hp, img]
    rw [← hp] at hg hma
    refine Ev.step (f := fun k => (spec_l17Wrong.f k p.f0 p.f1.f0 p.f1.f1).bind fun t203 => (if t203 > 0 then (some (([] : List Int), t203, (i : Int))) else ((spec_l17Inst.f k p.f0 p.f1.f0 p.f1.f1).bind fun t205 => (if z.length + t205.length < 140737488355328 then (spec_PicMake.l0 k l (z ++ t205) ((i + 1 : Nat) : Int)) else (none))))) (fun k => ?_) (Ev.bind (wr_ev _ _ _ hma) ?_)
    · simp only [spec_PicMake.l0]
      rw [if_pos (by omega), if_pos (by omega), hg, w]
    · by_cases c : wr p.f0 p.f1.f0 p.f1.f1 = 0
      · have h3 := ib_length c
        simp only [if_pos c, if_neg (show ¬ (wr p.f0 p.f1.f0 p.f1.f1 > 0) by omega)]
        refine Ev.bind (inst_ev c) ?_
        simp only [if_pos (show z.length + (ib p.f0 p.f1.f0 p.f1.f1).length < 140737488355328 by omega)]
        exact ih (i + 1) _ (by omega) (by omega) (by rw [List.length_append]; omega) (bytes_app hb (ib_bytes _ _ _))
      · have := wr_cases p.f0 p.f1.f0 p.f1.f1
        simp only [if_neg c, if_pos (show wr p.f0 p.f1.f0 p.f1.f1 > 0 by omega)]; exact Ev.now _
theorem spec_pic (l : List S52) (hm : ∀ x ∈ l, x.f1.f1.length ≤ 1048576) : Ev (fun k => spec_PicMake.f k l) (pic l) := by
  unfold spec_PicMake.f pic
  by_cases c : l.length > 1000
  · simp only [if_pos c, if_pos (show (l.length : Int) > 1000 by omega)]; exact Ev.now _
  · simp only [if_neg c, if_neg (show ¬ (l.length : Int) > 1000 by omega)]
    exact spec_loop l (by omega) hm l.length 0 [] (by omega) (by omega) (by simp) (fun x hx => by simp at hx)

theorem holds (a : List S47) (hl : a.length ≤ maxLen) (hm : ∀ x ∈ a, x.f1.f1.length ≤ maxLen) : ∃ k, laws_FnExactPicMake.f k a = some true := by
  refine Tells.rounds ?_
  unfold laws_FnExactPicMake.f
  refine Tells.bind (szInstS_tells a 1048576 (by decide) (by decide) hl hm) fun r hr => ?_
  by_cases c : r < 0
  · simp only [if_pos c]; exact Tells.now rfl
  · simp only [if_neg c]
    obtain ⟨_, hl1, hm1⟩ := hr (by omega)
    have hx : (a.map cI).length ≤ 1048576 := by rw [List.length_map]; exact hl1
    have hy := cI_args a hm1
    have ht := pic_length (a.map cI)
    have hs := spec_pic (a.map cI) hy
    have hi := impl_pic (a.map cI)
    obtain ⟨z, e, g, f⟩ : ∃ z e g, pic (a.map cI) = (z, e, g) := ⟨_, _, _, rfl⟩
    rw [f] at ht hs hi
    simp only at ht
    refine Tells.bindEv (toInstS_ev a hl1 hm1) ?_
    refine Tells.bindEv hs ?_
    refine Tells.bindEv (toInstS_ev a hl1 hm1) ?_
    refine Tells.bindEv hi ?_
    refine Tells.bindEv (eqByteS_self z (by omega)) ?_
    simp only [if_true, eqPicFault_self, Option.bind_some]
    refine Tells.step (fun k => by simp only [laws_FnExactPicMake.j0, Bool.not_true, Bool.false_eq_true, if_false]; rfl) ?_
    refine Tells.bindEv (toInstS_ev a hl1 hm1) ?_
    refine Tells.bindEv (eqInstS_self _ hx hy) ?_
    simp only [if_true]
    refine Tells.bind (markInstS_tells _ hx hy) fun r2 hr2 => ?_
    simp only [if_neg (show ¬ (r2 < 0) by omega)]
    refine Tells.bindEv (eqByteS_self z (by omega)) ?_
    simp only [if_true, eqPicFault_self, Option.bind_some]
    refine Tells.step (fun k => by simp only [laws_FnExactPicMake.j1, Bool.not_true, Bool.false_eq_true, if_false]; rfl) ?_
    refine Tells.bindEv (mark_ev z (by omega)) ?_
    refine Tells.bindEv (held_ev _ (by omega)) ?_
    simp only [if_neg (show ¬ ((z.length : Int) + 1 < 0) by omega), if_true]
    refine Tells.bindEv (toInstS_ev a hl1 hm1) ?_
    refine Tells.bindEv hi ?_
    refine Tells.bindEv (eqByteS_self z (by omega)) ?_
    simp only [if_true, eqPicFault_self, Option.bind_some]
    refine Tells.step (fun k => by simp only [laws_FnExactPicMake.j2, Bool.not_true, Bool.false_eq_true, if_false]; rfl) ?_
    refine Tells.bindEv (held_ev _ (by omega)) ?_
    simp only [if_neg (show ¬ ((z.length : Int) + 1 < 0) by omega), if_true]
    exact Tells.now rfl

end Go.Proofs.Ytpehcdeaboagbaa.BFnExactPicMake
