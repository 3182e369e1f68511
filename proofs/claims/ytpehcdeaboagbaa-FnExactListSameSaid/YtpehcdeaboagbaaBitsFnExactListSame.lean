/- What the printed functions tell that the law FnExactListSame reaches, over numbers and lists alone. -/
import Derived.Test.YtpehcdeaboagbaaLx10
import Derived.Test.YtpehcdeaboagbaaLx2
import Derived.Test.YtpehcdeaboagbaaLx3
import Derived.Test.YtpehcdeaboagbaaLx4
import Derived.Test.YtpehcdeaboagbaaLx5
import Derived.Test.YtpehcdeaboagbaaLx6
import Derived.Test.YtpehcdeaboagbaaLx7
import Derived.Test.YtpehcdeaboagbaaLx8
import Derived.Test.YtpehcdeaboagbaaLx9
import Derived.Test.YtpehcdeaboagbaaTell
namespace Go.Proofs.Ytpehcdeaboagbaa.BFnExactListSame
open Go Go.RowKit Go.Proofs.Ytpehcdeaboagbaa.Tell Go.Proofs.Ytpehcdeaboagbaa.L Go.Proofs.YtpehcdeaboagbaaW.PrintWords Go.Proofs.YtpehcdeaboagbaaW.PrintLast Go.Proofs.YtpehcdeaboagbaaW.PrintMore
set_option linter.unusedVariables false
set_option linter.unusedSimpArgs false

def cD (x : S91) : S54 := ⟨x.f0, x.f1, x.f2⟩
theorem toDevArgS_ev (l : List S91) (hl : l.length ≤ 1099511627776) : Ev (fun k => laws_toDevArgS.f k l) (l.map cD) := by
  unfold laws_toDevArgS.f
  simp only [if_pos (show 0 ≤ (l.length : Int) by omega), Int.toNat_natCast, if_pos (show l.length ≤ 11728124029610 by omega)]
  refine map_loop (L := fun k x i => laws_toDevArgS.l0 k l x i) (fun x => ?_) (fun i h x r hx hr => ?_)
  · refine Ev.step (f := fun _ => some x) (fun k => ?_) (Ev.now _)
    simp only [laws_toDevArgS.l0]; rw [if_neg (by omega)]
  · refine Ev.step (fun k => ?_) hr
    have w : wrap64 ((i : Int) + 1) = ((i + 1 : Nat) : Int) := by unfold wrap64; omega
    have hg : rd_T91 l (i : Int) = l[i] := by unfold rd_T91; rw [Int.toNat_natCast, getD_lt l _ i h]
    simp only [laws_toDevArgS.l0]
    rw [if_pos (by omega), if_pos (by omega), hg, w, Int.toNat_natCast]
    show (if (i : Int) < (x.length : Int) then _ else _) = _
    rw [if_pos (by omega)]; rfl

theorem eqDevArg_self (a b c : Int) : laws_eqDevArg.f a b c a b c = some true := by
  unfold laws_eqDevArg.f; rw [if_pos rfl, if_pos rfl, if_pos rfl]
theorem eqDevArgS_self (l : List S54) (hl : l.length ≤ 1099511627776) : Ev (fun k => laws_eqDevArgS.f k l l) true := by
  unfold laws_eqDevArgS.f
  simp only [if_true]
  refine all_loop (L := fun k i => laws_eqDevArgS.l0 k l l i) (n := l.length) ?_ (fun i h hr => ?_)
  · refine Ev.step (f := fun _ => some true) (fun k => ?_) (Ev.now _)
    simp only [laws_eqDevArgS.l0]; rw [if_neg (by omega)]
  · refine Ev.step (fun k => ?_) hr
    have w : wrap64 ((i : Int) + 1) = ((i + 1 : Nat) : Int) := by unfold wrap64; omega
    simp only [laws_eqDevArgS.l0]
    rw [if_pos (by omega), if_pos (by omega), if_pos (by omega), eqDevArg_self, Option.bind_some, if_pos rfl, w]

theorem szDevArgS_tells (l : List S91) (a : Int) (ha0 : 0 ≤ a) (ha : a ≤ 1048576) (hl : l.length ≤ maxLen) : ∃ r, laws_szDevArgS.f l a = some r ∧ (0 ≤ r → (l.length : Int) ≤ a ∧ r = a - l.length) := by
  unfold maxLen at hl
  unfold laws_szDevArgS.f
  have w : wrap64 (a - (l.length : Int)) = a - l.length := wrap64_in (by omega) (by omega)
  rw [w]
  split
  · exact ⟨-1, rfl, fun h => by omega⟩
  · exact ⟨_, rfl, fun h => by omega⟩

theorem szElem_tells (o : Int) (l : List S91) (n : Int) (ha0 : 0 ≤ n) (ha : n ≤ 1048576) (hl : l.length ≤ maxLen) : ∃ r, laws_szElem.f o l n = some r ∧ (0 ≤ r → (l.length : Int) ≤ n ∧ r = n - l.length) := by
  obtain ⟨r, hr, h⟩ := szDevArgS_tells l n ha0 ha hl
  unfold laws_szElem.f
  rw [hr, Option.bind_some]
  split
  · exact ⟨-1, rfl, fun h => by omega⟩
  · exact ⟨r, rfl, h⟩

theorem szInst_tells (c o : Int) (l : List S91) (n : Int) (ha0 : 0 ≤ n) (ha : n ≤ 1048576) (hl : l.length ≤ maxLen) : ∃ r, laws_szInst.f c o l n = some r ∧ (0 ≤ r → (l.length : Int) ≤ n ∧ r = n - l.length) := by
  obtain ⟨r, hr, h⟩ := szElem_tells o l n ha0 ha hl
  unfold laws_szInst.f
  rw [hr, Option.bind_some]
  split
  · exact ⟨-1, rfl, fun h => by omega⟩
  · exact ⟨r, rfl, h⟩

theorem toElem_ev (o : Int) (l : List S91) (hl : l.length ≤ 1099511627776) : Ev (fun k => laws_toElem.f k o l) (o, l.map cD) := by
  unfold laws_toElem.f
  exact Ev.bind (toDevArgS_ev l hl) (Ev.now _)

theorem eqElem_self (o : Int) (l : List S54) (hl : l.length ≤ 1099511627776) : Ev (fun k => laws_eqElem.f k o l o l) true := by
  unfold laws_eqElem.f
  simp only [if_true]
  exact Ev.bind (eqDevArgS_self l hl) (Ev.now _)

theorem toInst_ev (c o : Int) (l : List S91) (hl : l.length ≤ 1099511627776) : Ev (fun k => laws_toInst.f k c o l) (c, o, l.map cD) := by
  unfold laws_toInst.f
  exact Ev.bind (toElem_ev o l hl) (Ev.now _)

theorem eqInst_self (c o : Int) (l : List S54) (hl : l.length ≤ 1099511627776) : Ev (fun k => laws_eqInst.f k c o l c o l) true := by
  unfold laws_eqInst.f
  simp only [if_true]
  exact Ev.bind (eqElem_self o l hl) (Ev.now _)

def cI (x : S47) : S52 := ⟨x.f0, ⟨x.f1.f0, x.f1.f1.map cD⟩⟩
theorem toInstS_ev (l : List S47) (hl : l.length ≤ 1048576) (ha : ∀ x ∈ l, x.f1.f1.length ≤ 1048576) : Ev (fun k => laws_toInstS.f k l) (l.map cI) := by
  unfold laws_toInstS.f
  simp only [if_pos (show 0 ≤ (l.length : Int) by omega), Int.toNat_natCast, if_pos (show l.length ≤ 7036874417766 by omega)]
  refine map_loop (L := fun k x i => laws_toInstS.l0 k l x i) (fun x => ?_) (fun i h x r hx hr => ?_)
  · refine Ev.step (f := fun _ => some x) (fun k => ?_) (Ev.now _)
    simp only [laws_toInstS.l0]; rw [if_neg (by omega)]
  · have w : wrap64 ((i : Int) + 1) = ((i + 1 : Nat) : Int) := by unfold wrap64; omega
    have hg : rd_T47 l (i : Int) = l[i] := by unfold rd_T47; rw [Int.toNat_natCast, getD_lt l _ i h]
    have hal := ha _ (List.getElem_mem h)
    refine Ev.step (f := fun k => (laws_toInst.f k (l[i]).f0 (l[i]).f1.f0 (l[i]).f1.f1).bind fun bt => (if (i : Int) < (x.length : Int) then (laws_toInstS.l0 k l (x.set i (⟨bt.1, (⟨bt.2.1, bt.2.2⟩ : S50)⟩ : S52)) ((i + 1 : Nat) : Int)) else none)) (fun k => ?_) ?_
    · simp only [laws_toInstS.l0]
      rw [if_pos (by omega), if_pos (by omega), hg, w, Int.toNat_natCast]
    · refine Ev.bind (toInst_ev _ _ _ (by omega)) ?_
      simp only [if_pos (show (i : Int) < (x.length : Int) by omega)]
      exact hr

theorem eqInstS_self (l : List S52) (hl : l.length ≤ 1048576) (ha : ∀ x ∈ l, x.f1.f1.length ≤ 1048576) : Ev (fun k => laws_eqInstS.f k l l) true := by
  unfold laws_eqInstS.f
  simp only [if_true]
  refine all_loop (L := fun k i => laws_eqInstS.l0 k l l i) (n := l.length) ?_ (fun i h hr => ?_)
  · refine Ev.step (f := fun _ => some true) (fun k => ?_) (Ev.now _)
    simp only [laws_eqInstS.l0]; rw [if_neg (by omega)]
  · have w : wrap64 ((i : Int) + 1) = ((i + 1 : Nat) : Int) := by unfold wrap64; omega
    have hg : rd_T52 l (i : Int) = l[i] := by unfold rd_T52; rw [Int.toNat_natCast, getD_lt l _ i h]
    have hal := ha _ (List.getElem_mem h)
    refine Ev.step (f := fun k => (laws_eqInst.f k (l[i]).f0 (l[i]).f1.f0 (l[i]).f1.f1 (l[i]).f0 (l[i]).f1.f0 (l[i]).f1.f1).bind fun t => (if t = true then (laws_eqInstS.l0 k l l ((i + 1 : Nat) : Int)) else (some false))) (fun k => ?_) ?_
    · simp only [laws_eqInstS.l0]
      rw [if_pos (by omega), if_pos (by omega), if_pos (by omega), hg, w]
    · refine Ev.bind (eqInst_self _ _ _ (by omega)) ?_
      simp only [if_true]
      exact hr

theorem szInstS_loop (l : List S47) (hl : l.length ≤ 1048576) (hm : ∀ x ∈ l, x.f1.f1.length ≤ maxLen) (d : Nat) : ∀ (i : Nat) (a : Int), l.length - i = d → i ≤ l.length → 0 ≤ a → a ≤ 1048576 →
    Tells (fun k => laws_szInstS.l0 k l a (i : Int)) (fun r => 0 ≤ r → r ≤ a ∧ ∀ x ∈ l.drop i, x.f1.f1.length ≤ 1048576) := by
  induction d with
  | zero =>
    intro i a hd hi ha0 ha
    obtain rfl : i = l.length := by omega
    refine Tells.step (f := fun _ => some a) (fun k => ?_) (Tells.now fun _ => ⟨Int.le_refl _, fun x hx => by simp at hx⟩)
    simp only [laws_szInstS.l0]; rw [if_neg (by omega)]
  | succ d ih =>
    intro i a hd hi ha0 ha
    have hlt : i < l.length := by omega
    have w : wrap64 ((i : Int) + 1) = ((i + 1 : Nat) : Int) := by unfold wrap64; omega
    have hg : rd_T47 l (i : Int) = l[i] := by unfold rd_T47; rw [Int.toNat_natCast, getD_lt l _ i hlt]
    obtain ⟨r, hr, h⟩ := szInst_tells (l[i]).f0 (l[i]).f1.f0 (l[i]).f1.f1 a ha0 ha (hm _ (List.getElem_mem hlt))
    by_cases c : r < 0
    · refine Tells.step (f := fun _ => some (-1)) (fun k => ?_) (Tells.now fun h => by omega)
      simp only [laws_szInstS.l0]
      rw [if_pos (by omega), if_pos (by omega), hg, hr, Option.bind_some, if_pos c]
    · have hh := h (by omega)
      refine Tells.step (fun k => ?_) ((ih (i + 1) r (by omega) (by omega) (by omega) (by omega)).mono fun r' hr' h0 => ?_)
      · simp only [laws_szInstS.l0]
        rw [if_pos (by omega), if_pos (by omega), hg, hr, Option.bind_some, if_neg c, w]
      · obtain ⟨h1, h2⟩ := hr' h0
        refine ⟨by omega, fun x hx => ?_⟩
        rw [List.drop_eq_getElem_cons hlt] at hx
        rcases List.mem_cons.1 hx with rfl | hx
        · omega
        · exact h2 x hx
theorem szInstS_tells (l : List S47) (a : Int) (ha0 : 0 ≤ a) (ha : a ≤ 1048576) (hl : l.length ≤ maxLen) (hm : ∀ x ∈ l, x.f1.f1.length ≤ maxLen) :
    Tells (fun k => laws_szInstS.f k l a) (fun r => 0 ≤ r → r ≤ a ∧ l.length ≤ 1048576 ∧ ∀ x ∈ l, x.f1.f1.length ≤ 1048576) := by
  unfold maxLen at hl
  unfold laws_szInstS.f
  have w : wrap64 (a - (l.length : Int)) = a - l.length := wrap64_in (by omega) (by omega)
  rw [w]
  by_cases c : a - (l.length : Int) < 0
  · simp only [if_pos c]; exact Tells.now fun h => by omega
  · simp only [if_neg c]
    refine (szInstS_loop l (by omega) hm l.length 0 (a - l.length) (by omega) (by omega) (by omega) (by omega)).mono fun r hr h0 => ?_
    obtain ⟨h1, h2⟩ := hr h0
    exact ⟨by omega, by omega, h2⟩

theorem cI_args (l : List S47) (ha : ∀ x ∈ l, x.f1.f1.length ≤ 1048576) : ∀ x ∈ l.map cI, x.f1.f1.length ≤ 1048576 := fun x hx => by
  obtain ⟨y, hy, rfl⟩ := List.mem_map.1 hx
  simpa [cI] using ha y hy

def ne1 (x y : S54) : Bool := (!(x.f0 == y.f0)) || ((!(x.f1 == y.f1)) || (!(x.f2 == y.f2)))
/-- Whether two rows of equal length have equal entries. -/
def dv : List S54 → List S54 → Bool
  | x :: xs, y :: ys => if ne1 x y = true then false else dv xs ys
  | _, _ => true
def dvs (xs ys : List S54) : Bool := if xs.length = ys.length then dv xs ys else false
theorem impl_DevArg_loop (xs ys : List S54) (hl : xs.length ≤ 1048576) (he : xs.length = ys.length) (d : Nat) : ∀ i : Nat, xs.length - i = d → i ≤ xs.length →
    Ev (fun k => impl_DevArg.l0 k xs ys (xs.length : Int) (i : Int)) (dv (xs.drop i) (ys.drop i)) := by
  induction d with
  | zero =>
    intro i hd hi
    obtain rfl : i = xs.length := by omega
    rw [List.drop_length]
    refine Ev.step (f := fun _ => some true) (fun k => ?_) (Ev.now _)
    simp only [impl_DevArg.l0]; rw [if_neg (by omega)]
  | succ d ih =>
    intro i hd hi
    have h1 : i < xs.length := by omega
    have h2 : i < ys.length := by omega
    have w : wrap64 ((i : Int) + 1) = ((i + 1 : Nat) : Int) := by unfold wrap64; omega
    have g1 : rd_T54 xs (i : Int) = xs[i] := by unfold rd_T54; rw [Int.toNat_natCast, getD_lt xs _ i h1]
    have g2 : rd_T54 ys (i : Int) = ys[i] := by unfold rd_T54; rw [Int.toNat_natCast, getD_lt ys _ i h2]
    have hr := ih (i + 1) (by omega) (by omega)
    rw [List.drop_eq_getElem_cons h1, List.drop_eq_getElem_cons h2]
    by_cases c : ne1 xs[i] ys[i] = true
    · refine Ev.step (f := fun _ => some false) (fun k => ?_) ?_
      · simp only [impl_DevArg.l0]
        rw [if_pos (by omega), if_pos (by omega), if_pos (by omega), if_pos (by omega), g1, g2]
        exact if_pos c
      · rw [dv, if_pos c]; exact Ev.now _
    · refine Ev.step (f := fun k => impl_DevArg.l0 k xs ys (xs.length : Int) ((i + 1 : Nat) : Int)) (fun k => ?_) ?_
      · simp only [impl_DevArg.l0]
        rw [if_pos (by omega), if_pos (by omega), if_pos (by omega), if_pos (by omega), g1, g2, w]
        exact if_neg c
      · rw [dv, if_neg c]; exact hr
theorem impl_DevArg_ev (xs ys : List S54) (hl : xs.length ≤ 1048576) : Ev (fun k => impl_DevArg.f k xs ys) (dvs xs ys) := by
  unfold impl_DevArg.f dvs
  by_cases c : xs.length = ys.length
  · simp only [if_pos c, if_pos (show (xs.length : Int) = (ys.length : Int) by omega)]
    exact impl_DevArg_loop xs ys hl c xs.length 0 (by omega) (by omega)
  · simp only [if_neg c, if_neg (show ¬ (xs.length : Int) = (ys.length : Int) by omega)]
    exact Ev.now _

def em (x y : S52) : Bool := if x.f0 = y.f0 then (if x.f1.f0 = y.f1.f0 then dvs x.f1.f1 y.f1.f1 else false) else false
/-- Whether two lists of equal length have equal entries. -/
def ls : List S52 → List S52 → Bool
  | x :: xs, y :: ys => if em x y = true then ls xs ys else false
  | _, _ => true
theorem em_ev (x y : S52) (hl : x.f1.f1.length ≤ 1048576) : Ev (fun k => impl_ListSame_1.f k x.f0 x.f1.f0 x.f1.f1 y.f0 y.f1.f0 y.f1.f1) (em x y) := by
  unfold impl_ListSame_1.f impl_elemSame.f em
  by_cases c : x.f0 = y.f0
  · simp only [if_pos c]
    by_cases c1 : x.f1.f0 = y.f1.f0
    · simp only [if_pos c1]
      exact Ev.bind (Ev.bind (impl_DevArg_ev _ _ hl) (Ev.now _)) (Ev.now _)
    · simp only [if_neg c1]
      exact Ev.now _
  · simp only [if_neg c]
    exact Ev.now _
theorem impl_ListSame_loop (xs ys : List S52) (hl : xs.length ≤ 1048576) (ha : ∀ x ∈ xs, x.f1.f1.length ≤ 1048576) (he : xs.length = ys.length) (d : Nat) : ∀ i : Nat, xs.length - i = d → i ≤ xs.length →
    Ev (fun k => impl_ListSame.l0 k ys xs (xs.length : Int) (i : Int)) (ls (xs.drop i) (ys.drop i)) := by
  induction d with
  | zero =>
    intro i hd hi
    obtain rfl : i = xs.length := by omega
    rw [List.drop_length]
    refine Ev.step (f := fun _ => some true) (fun k => ?_) (Ev.now _)
    simp only [impl_ListSame.l0]; rw [if_neg (by omega)]
  | succ d ih =>
    intro i hd hi
    have h1 : i < xs.length := by omega
    have h2 : i < ys.length := by omega
    have w : wrap64 ((i : Int) + 1) = ((i + 1 : Nat) : Int) := by unfold wrap64; omega
    have g1 : rd_T52 xs (i : Int) = xs[i] := by unfold rd_T52; rw [Int.toNat_natCast, getD_lt xs _ i h1]
    have g2 : rd_T52 ys (i : Int) = ys[i] := by unfold rd_T52; rw [Int.toNat_natCast, getD_lt ys _ i h2]
    have hal := ha _ (List.getElem_mem h1)
    have hr := ih (i + 1) (by omega) (by omega)
    rw [List.drop_eq_getElem_cons h1, List.drop_eq_getElem_cons h2]
    refine Ev.step (f := fun k => (impl_ListSame_1.f k xs[i].f0 xs[i].f1.f0 xs[i].f1.f1 ys[i].f0 ys[i].f1.f0 ys[i].f1.f1).bind fun t => if t = true then impl_ListSame.l0 k ys xs (xs.length : Int) ((i + 1 : Nat) : Int) else some false) (fun k => ?_) ?_
    · simp only [impl_ListSame.l0]
      rw [if_pos (by omega), if_pos (by omega), if_pos (by omega), if_pos (by omega), g1, g2, w]
    · refine Ev.bind (em_ev _ _ hal) ?_
      rw [ls]
      cases em xs[i] ys[i]
      · exact Ev.now _
      · exact hr
def lss (xs ys : List S52) : Bool := if xs.length = ys.length then ls xs ys else false
theorem impl_ListSame_ev (xs ys : List S52) (hl : xs.length ≤ 1048576) (ha : ∀ x ∈ xs, x.f1.f1.length ≤ 1048576) : Ev (fun k => impl_ListSame.f k xs ys) (lss xs ys) := by
  unfold impl_ListSame.f lss
  by_cases c : xs.length = ys.length
  · simp only [if_pos c, if_pos (show (xs.length : Int) = (ys.length : Int) by omega)]
    exact impl_ListSame_loop xs ys hl ha c xs.length 0 (by omega) (by omega)
  · simp only [if_neg c, if_neg (show ¬ (xs.length : Int) = (ys.length : Int) by omega)]
    exact Ev.now _

theorem spec_args_loop (xs ys : List S52) (i : Nat) (h1 : i < xs.length) (h2 : i < ys.length) (hl : xs.length ≤ 1048576) (hal : xs[i].f1.f1.length ≤ 1048576) (he : xs[i].f1.f1.length = ys[i].f1.f1.length) {V : Bool}
    (hV : Ev (fun k => spec_ListSame.l0 k xs ys ((i + 1 : Nat) : Int)) V) (d : Nat) : ∀ j : Nat, xs[i].f1.f1.length - j = d → j ≤ xs[i].f1.f1.length →
    Ev (fun k => spec_ListSame.l1 k xs ys (i : Int) (j : Int)) (if dv (xs[i].f1.f1.drop j) (ys[i].f1.f1.drop j) = true then V else false) := by
  have w : wrap64 ((i : Int) + 1) = ((i + 1 : Nat) : Int) := by unfold wrap64; omega
  have g1 : rd_T52 xs (i : Int) = xs[i] := by unfold rd_T52; rw [Int.toNat_natCast, getD_lt xs _ i h1]
  have g2 : rd_T52 ys (i : Int) = ys[i] := by unfold rd_T52; rw [Int.toNat_natCast, getD_lt ys _ i h2]
  induction d with
  | zero =>
    intro j hd hi
    obtain rfl : j = xs[i].f1.f1.length := by omega
    rw [List.drop_length]
    refine Ev.step (f := fun k => spec_ListSame.l0 k xs ys ((i + 1 : Nat) : Int)) (fun k => ?_) hV
    simp only [spec_ListSame.l1]
    rw [if_pos (by omega), if_pos (by omega), g1, if_neg (by omega), w]
  | succ d ih =>
    intro j hd hi
    have k1 : j < xs[i].f1.f1.length := by omega
    have k2 : j < ys[i].f1.f1.length := by omega
    have w2 : wrap64 ((j : Int) + 1) = ((j + 1 : Nat) : Int) := by unfold wrap64; omega
    have e1 : rd_T54 xs[i].f1.f1 (j : Int) = xs[i].f1.f1[j] := by unfold rd_T54; rw [Int.toNat_natCast, getD_lt _ _ j k1]
    have e2 : rd_T54 ys[i].f1.f1 (j : Int) = ys[i].f1.f1[j] := by unfold rd_T54; rw [Int.toNat_natCast, getD_lt _ _ j k2]
    have hr := ih (j + 1) (by omega) (by omega)
    rw [List.drop_eq_getElem_cons k1, List.drop_eq_getElem_cons k2]
    by_cases c : ne1 xs[i].f1.f1[j] ys[i].f1.f1[j] = true
    · refine Ev.step (f := fun _ => some false) (fun k => ?_) ?_
      · simp only [spec_ListSame.l1]
        rw [if_pos (by omega), if_pos (by omega), g1, g2, if_pos (by omega), if_pos (by omega), if_pos (by omega), if_pos (by omega), e1, e2]
        exact if_pos c
      · rw [dv, if_pos c]; exact Ev.now _
    · refine Ev.step (f := fun k => spec_ListSame.l1 k xs ys (i : Int) ((j + 1 : Nat) : Int)) (fun k => ?_) ?_
      · simp only [spec_ListSame.l1]
        rw [if_pos (by omega), if_pos (by omega), g1, g2, if_pos (by omega), if_pos (by omega), if_pos (by omega), if_pos (by omega), e1, e2, w2]
        exact if_neg c
      · rw [dv, if_neg c]; exact hr
theorem spec_ListSame_loop (xs ys : List S52) (hl : xs.length ≤ 1048576) (ha : ∀ x ∈ xs, x.f1.f1.length ≤ 1048576) (he : xs.length = ys.length) (d : Nat) : ∀ i : Nat, xs.length - i = d → i ≤ xs.length →
    Ev (fun k => spec_ListSame.l0 k xs ys (i : Int)) (ls (xs.drop i) (ys.drop i)) := by
  induction d with
  | zero =>
    intro i hd hi
    obtain rfl : i = xs.length := by omega
    rw [List.drop_length]
    refine Ev.step (f := fun _ => some true) (fun k => ?_) (Ev.now _)
    simp only [spec_ListSame.l0]; rw [if_neg (by omega)]
  | succ d ih =>
    intro i hd hi
    have h1 : i < xs.length := by omega
    have h2 : i < ys.length := by omega
    have g1 : rd_T52 xs (i : Int) = xs[i] := by unfold rd_T52; rw [Int.toNat_natCast, getD_lt xs _ i h1]
    have g2 : rd_T52 ys (i : Int) = ys[i] := by unfold rd_T52; rw [Int.toNat_natCast, getD_lt ys _ i h2]
    have hal := ha _ (List.getElem_mem h1)
    have hr := ih (i + 1) (by omega) (by omega)
    rw [List.drop_eq_getElem_cons h1, List.drop_eq_getElem_cons h2]
    have bad : em xs[i] ys[i] = false → Ev (fun k => spec_ListSame.j1 k xs ys (i : Int) true) (ls (xs[i] :: xs.drop (i + 1)) (ys[i] :: ys.drop (i + 1))) := fun h => by
      rw [ls, h]
      refine Ev.step (f := fun _ => some false) (fun k => ?_) (Ev.now _)
      simp only [spec_ListSame.j1, if_true]
    by_cases c0 : xs[i].f0 = ys[i].f0
    · by_cases c1 : xs[i].f1.f0 = ys[i].f1.f0
      · refine Ev.step (f := fun k => spec_ListSame.j1 k xs ys (i : Int) (((xs[i].f1.f1).length : Int) != ((ys[i].f1.f1).length : Int))) (fun k => ?_) ?_
        · simp only [spec_ListSame.l0]
          rw [if_pos (by omega), if_pos (by omega), if_pos (by omega), g1, g2, if_pos c0, if_pos c1]
        · by_cases c2 : xs[i].f1.f1.length = ys[i].f1.f1.length
          · have hd0 := spec_args_loop xs ys i h1 h2 hl hal c2 hr xs[i].f1.f1.length 0 (by omega) (by omega)
            refine Ev.step (f := fun k => spec_ListSame.l1 k xs ys (i : Int) 0) (fun k => ?_) ?_
            · simp only [spec_ListSame.j1]
              rw [if_neg (by simp [c2])]
            · have em1 : em xs[i] ys[i] = dv xs[i].f1.f1 ys[i].f1.f1 := by unfold em dvs; rw [if_pos c0, if_pos c1, if_pos c2]
              rw [ls, em1]
              exact hd0
          · have e : (((xs[i].f1.f1).length : Int) != ((ys[i].f1.f1).length : Int)) = true := bne_iff_ne.mpr (by omega)
            rw [e]
            exact bad (by unfold em dvs; rw [if_pos c0, if_pos c1, if_neg c2])
      · refine Ev.step (f := fun k => spec_ListSame.j1 k xs ys (i : Int) true) (fun k => ?_) (bad (by unfold em; rw [if_pos c0, if_neg c1]))
        simp only [spec_ListSame.l0]
        rw [if_pos (by omega), if_pos (by omega), if_pos (by omega), g1, g2, if_pos c0, if_neg c1]
    · refine Ev.step (f := fun k => spec_ListSame.j1 k xs ys (i : Int) true) (fun k => ?_) (bad (by unfold em; rw [if_neg c0]))
      simp only [spec_ListSame.l0]
      rw [if_pos (by omega), if_pos (by omega), if_pos (by omega), g1, g2, if_neg c0]
theorem spec_ListSame_ev (xs ys : List S52) (hl : xs.length ≤ 1048576) (ha : ∀ x ∈ xs, x.f1.f1.length ≤ 1048576) : Ev (fun k => spec_ListSame.f k xs ys) (lss xs ys) := by
  unfold spec_ListSame.f lss
  by_cases c : xs.length = ys.length
  · simp only [if_pos c, if_pos (show (xs.length : Int) = (ys.length : Int) by omega)]
    exact spec_ListSame_loop xs ys hl ha c xs.length 0 (by omega) (by omega)
  · simp only [if_neg c, if_neg (show ¬ (xs.length : Int) = (ys.length : Int) by omega)]
    exact Ev.now _

theorem holds (a b : List S47) (hl : a.length ≤ maxLen) (hm : ∀ x ∈ a, x.f1.f1.length ≤ maxLen) (hl' : b.length ≤ maxLen) (hm' : ∀ x ∈ b, x.f1.f1.length ≤ maxLen) : ∃ k, laws_FnExactListSame.f k a b = some true := by
  refine Tells.rounds ?_
  unfold laws_FnExactListSame.f
  refine Tells.bind (szInstS_tells a 1048576 (by decide) (by decide) hl hm) fun r hr => ?_
  by_cases c : r < 0
  · simp only [if_pos c]; exact Tells.now rfl
  · simp only [if_neg c]
    obtain ⟨ra, hl1, hm1⟩ := hr (by omega)
    refine Tells.bind (szInstS_tells b r (by omega) ra hl' hm') fun r2 hr2 => ?_
    by_cases c2 : r2 < 0
    · simp only [if_pos c2]; exact Tells.now rfl
    · simp only [if_neg c2]
      obtain ⟨_, hl2, hm2⟩ := hr2 (by omega)
      have hx : (a.map cI).length ≤ 1048576 := by rw [List.length_map]; exact hl1
      have hy : (b.map cI).length ≤ 1048576 := by rw [List.length_map]; exact hl2
      refine Tells.bindEv (toInstS_ev a hl1 hm1) ?_
      refine Tells.bindEv (toInstS_ev b hl2 hm2) ?_
      refine Tells.bindEv (spec_ListSame_ev _ _ hx (cI_args a hm1)) ?_
      refine Tells.bindEv (toInstS_ev a hl1 hm1) ?_
      refine Tells.bindEv (toInstS_ev b hl2 hm2) ?_
      refine Tells.bindEv (impl_ListSame_ev _ _ hx (cI_args a hm1)) ?_
      simp only [bne_self_eq_false, Bool.false_eq_true, if_false]
      refine Tells.bindEv (toInstS_ev a hl1 hm1) ?_
      refine Tells.bindEv (eqInstS_self _ hx (cI_args a hm1)) ?_
      simp only [if_true]
      refine Tells.bindEv (toInstS_ev b hl2 hm2) ?_
      refine Tells.bindEv (eqInstS_self _ hy (cI_args b hm2)) ?_
      simp only [if_true]
      exact Tells.now rfl

end Go.Proofs.Ytpehcdeaboagbaa.BFnExactListSame
