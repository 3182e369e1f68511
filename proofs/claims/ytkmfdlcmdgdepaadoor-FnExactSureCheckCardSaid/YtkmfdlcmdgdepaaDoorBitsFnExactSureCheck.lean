/- What the printed functions tell that the law FnExactSureCheck reaches, over numbers and lists alone. -/
import Derived.Test.YtkmfdlcmdgdepaaDoorUx1
import Derived.Test.YtkmfdlcmdgdepaaDoorUx10
import Derived.Test.YtkmfdlcmdgdepaaDoorUx11
import Derived.Test.YtkmfdlcmdgdepaaDoorUx12
import Derived.Test.YtkmfdlcmdgdepaaDoorUx13
import Derived.Test.YtkmfdlcmdgdepaaDoorUx14
import Derived.Test.YtkmfdlcmdgdepaaDoorUx15
import Derived.Test.YtkmfdlcmdgdepaaDoorUx16
import Derived.Test.YtkmfdlcmdgdepaaDoorUx17
import Derived.Test.YtkmfdlcmdgdepaaDoorUx18
import Derived.Test.YtkmfdlcmdgdepaaDoorUx19
import Derived.Test.YtkmfdlcmdgdepaaDoorUx2
import Derived.Test.YtkmfdlcmdgdepaaDoorUx20
import Derived.Test.YtkmfdlcmdgdepaaDoorUx21
import Derived.Test.YtkmfdlcmdgdepaaDoorUx22
import Derived.Test.YtkmfdlcmdgdepaaDoorUx23
import Derived.Test.YtkmfdlcmdgdepaaDoorUx24
import Derived.Test.YtkmfdlcmdgdepaaDoorUx25
import Derived.Test.YtkmfdlcmdgdepaaDoorUx26
import Derived.Test.YtkmfdlcmdgdepaaDoorUx3
import Derived.Test.YtkmfdlcmdgdepaaDoorUx4
import Derived.Test.YtkmfdlcmdgdepaaDoorUx5
import Derived.Test.YtkmfdlcmdgdepaaDoorUx6
import Derived.Test.YtkmfdlcmdgdepaaDoorUx8
import Derived.Test.YtkmfdlcmdgdepaaDoorUx9
import Derived.Test.YtkmfdlcmdgdepaaDoorUzTell
namespace Go.Proofs.YtkmfdlcmdgdepaaDoor.BFnExactSureCheck
open Go Go.RowKit Go.Proofs.YtkmfdlcmdgdepaaDoor.Tell Go.Proofs.YtkmfdlcmdgdepaaDoor.U Go.Proofs.YtkmfdlcmdgdepaaDoorW.PrintWords Go.Proofs.YtkmfdlcmdgdepaaDoorW.PrintLast Go.Proofs.YtkmfdlcmdgdepaaDoorW.PrintMore
set_option linter.unusedVariables false
set_option linter.unusedSimpArgs false

theorem in_eq (a l h : Int) : impl_in.f a l h = some (decide (l ≤ a ∧ a ≤ h)) := by
 unfold impl_in.f
 by_cases c : l ≤ a
 ·rw [if_pos c]; simp [c]
 ·rw [if_neg c]; simp [c]

def cD (x : S74) : S55 := ⟨x.f0, x.f1, x.f2⟩
theorem toDevArgS_ev (l : List S74) (hl : l.length ≤ 1099511627776) : Ev (fun k => laws_toDevArgS.f k l) (l.map cD) := by
 unfold laws_toDevArgS.f
 simp only [if_pos (show 0 ≤ (l.length : Int) by omega), Int.toNat_natCast, if_pos (show l.length ≤ 11728124029610 by omega)]
 refine map_loop (L := fun k x i => laws_toDevArgS.l0 k l x i) (fun x => ?_) (fun i h x r hx hr => ?_)
 ·refine Ev.step (f := fun _ => some x) (fun k => ?_) (Ev.now _)
  simp only [laws_toDevArgS.l0]; rw [if_neg (by omega)]
 ·refine Ev.step (fun k => ?_) hr
  have w : wrap64 ((i : Int) + 1) = ((i + 1 : Nat) : Int) := by unfold wrap64; omega
  have hg : rd_T74 l (i : Int) = l[i] := by unfold rd_T74; rw [Int.toNat_natCast, getD_lt l _ i h]
  simp only [laws_toDevArgS.l0]
  rw [if_pos (by omega), if_pos (by omega), hg, w, Int.toNat_natCast]
  show (if (i : Int) < (x.length : Int) then _ else _) = _
  rw [if_pos (by omega)]; rfl

theorem eqDevArg_self (a b c : Int) : laws_eqDevArg.f a b c a b c = some true := by
 unfold laws_eqDevArg.f; rw [if_pos rfl, if_pos rfl, if_pos rfl]
theorem eqDevArgS_self (l : List S55) (hl : l.length ≤ 1099511627776) : Ev (fun k => laws_eqDevArgS.f k l l) true := by
 unfold laws_eqDevArgS.f
 simp only [if_true]
 refine all_loop (L := fun k i => laws_eqDevArgS.l0 k l l i) (n := l.length) ?_ (fun i h hr => ?_)
 ·refine Ev.step (f := fun _ => some true) (fun k => ?_) (Ev.now _)
  simp only [laws_eqDevArgS.l0]; rw [if_neg (by omega)]
 ·refine Ev.step (fun k => ?_) hr
  have w : wrap64 ((i : Int) + 1) = ((i + 1 : Nat) : Int) := by unfold wrap64; omega
  simp only [laws_eqDevArgS.l0]
  rw [if_pos (by omega), if_pos (by omega), if_pos (by omega), eqDevArg_self, Option.bind_some, if_pos rfl, w]

theorem szDevArgS_tells (l : List S74) (a : Int) (ha0 : 0 ≤ a) (ha : a ≤ 1048576) (hl : l.length ≤ maxLen) : ∃ r, laws_szDevArgS.f l a = some r ∧ (0 ≤ r → (l.length : Int) ≤ a ∧ r = a - l.length) := by
 unfold maxLen at hl
 unfold laws_szDevArgS.f
 have w : wrap64 (a - (l.length : Int)) = a - l.length := wrap64_in (by omega) (by omega)
 rw [w]
 split
 ·exact ⟨-1, rfl, fun h => by omega⟩
 ·exact ⟨_, rfl, fun h => by omega⟩

theorem szElem_tells (o : Int) (l : List S74) (n : Int) (ha0 : 0 ≤ n) (ha : n ≤ 1048576) (hl : l.length ≤ maxLen) : ∃ r, laws_szElem.f o l n = some r ∧ (0 ≤ r → (l.length : Int) ≤ n ∧ r = n - l.length) := by
 obtain ⟨r, hr, h⟩ := szDevArgS_tells l n ha0 ha hl
 unfold laws_szElem.f
 rw [hr, Option.bind_some]
 split
 ·exact ⟨-1, rfl, fun h => by omega⟩
 ·exact ⟨r, rfl, h⟩

theorem szInst_tells (c o : Int) (l : List S74) (n : Int) (ha0 : 0 ≤ n) (ha : n ≤ 1048576) (hl : l.length ≤ maxLen) : ∃ r, laws_szInst.f c o l n = some r ∧ (0 ≤ r → (l.length : Int) ≤ n ∧ r = n - l.length) := by
 obtain ⟨r, hr, h⟩ := szElem_tells o l n ha0 ha hl
 unfold laws_szInst.f
 rw [hr, Option.bind_some]
 split
 ·exact ⟨-1, rfl, fun h => by omega⟩
 ·exact ⟨r, rfl, h⟩

theorem toElem_ev (o : Int) (l : List S74) (hl : l.length ≤ 1099511627776) : Ev (fun k => laws_toElem.f k o l) (o, l.map cD) := by
 unfold laws_toElem.f
 exact Ev.bind (toDevArgS_ev l hl) (Ev.now _)

theorem eqElem_self (o : Int) (l : List S55) (hl : l.length ≤ 1099511627776) : Ev (fun k => laws_eqElem.f k o l o l) true := by
 unfold laws_eqElem.f
 simp only [if_true]
 exact Ev.bind (eqDevArgS_self l hl) (Ev.now _)

theorem toInst_ev (c o : Int) (l : List S74) (hl : l.length ≤ 1099511627776) : Ev (fun k => laws_toInst.f k c o l) (c, o, l.map cD) := by
 unfold laws_toInst.f
 exact Ev.bind (toElem_ev o l hl) (Ev.now _)

theorem eqInst_self (c o : Int) (l : List S55) (hl : l.length ≤ 1099511627776) : Ev (fun k => laws_eqInst.f k c o l c o l) true := by
 unfold laws_eqInst.f
 simp only [if_true]
 exact Ev.bind (eqElem_self o l hl) (Ev.now _)

def cI (x : S34) : S38 := ⟨x.f0, ⟨x.f1.f0, x.f1.f1.map cD⟩⟩
theorem toInstS_ev (l : List S34) (hl : l.length ≤ 1048576) (ha : ∀ x ∈ l, x.f1.f1.length ≤ 1048576) : Ev (fun k => laws_toInstS.f k l) (l.map cI) := by
 unfold laws_toInstS.f
 simp only [if_pos (show 0 ≤ (l.length : Int) by omega), Int.toNat_natCast, if_pos (show l.length ≤ 7036874417766 by omega)]
 refine map_loop (L := fun k x i => laws_toInstS.l0 k l x i) (fun x => ?_) (fun i h x r hx hr => ?_)
 ·refine Ev.step (f := fun _ => some x) (fun k => ?_) (Ev.now _)
  simp only [laws_toInstS.l0]; rw [if_neg (by omega)]
 ·have w : wrap64 ((i : Int) + 1) = ((i + 1 : Nat) : Int) := by unfold wrap64; omega
  have hg : rd_T34 l (i : Int) = l[i] := by unfold rd_T34; rw [Int.toNat_natCast, getD_lt l _ i h]
  have hal := ha _ (List.getElem_mem h)
  refine Ev.step (f := fun k => (laws_toInst.f k (l[i]).f0 (l[i]).f1.f0 (l[i]).f1.f1).bind fun bt => (if (i : Int) < (x.length : Int) then (laws_toInstS.l0 k l (x.set i (⟨bt.1, (⟨bt.2.1, bt.2.2⟩ : S29)⟩ : S38)) ((i + 1 : Nat) : Int)) else none)) (fun k => ?_) ?_
  ·simp only [laws_toInstS.l0]
   rw [if_pos (by omega), if_pos (by omega), hg, w, Int.toNat_natCast]
  ·refine Ev.bind (toInst_ev _ _ _ (by omega)) ?_
   simp only [if_pos (show (i : Int) < (x.length : Int) by omega)]
   exact hr

theorem eqInstS_self (l : List S38) (hl : l.length ≤ 1048576) (ha : ∀ x ∈ l, x.f1.f1.length ≤ 1048576) : Ev (fun k => laws_eqInstS.f k l l) true := by
 unfold laws_eqInstS.f
 simp only [if_true]
 refine all_loop (L := fun k i => laws_eqInstS.l0 k l l i) (n := l.length) ?_ (fun i h hr => ?_)
 ·refine Ev.step (f := fun _ => some true) (fun k => ?_) (Ev.now _)
  simp only [laws_eqInstS.l0]; rw [if_neg (by omega)]
 ·have w : wrap64 ((i : Int) + 1) = ((i + 1 : Nat) : Int) := by unfold wrap64; omega
  have hg : rd_T38 l (i : Int) = l[i] := by unfold rd_T38; rw [Int.toNat_natCast, getD_lt l _ i h]
  have hal := ha _ (List.getElem_mem h)
  refine Ev.step (f := fun k => (laws_eqInst.f k (l[i]).f0 (l[i]).f1.f0 (l[i]).f1.f1 (l[i]).f0 (l[i]).f1.f0 (l[i]).f1.f1).bind fun t => (if t = true then (laws_eqInstS.l0 k l l ((i + 1 : Nat) : Int)) else (some false))) (fun k => ?_) ?_
  ·simp only [laws_eqInstS.l0]
   rw [if_pos (by omega), if_pos (by omega), if_pos (by omega), hg, w]
  ·refine Ev.bind (eqInst_self _ _ _ (by omega)) ?_
   simp only [if_true]
   exact hr

theorem szInstS_loop (l : List S34) (hl : l.length ≤ 1048576) (hm : ∀ x ∈ l, x.f1.f1.length ≤ maxLen) (d : Nat) : ∀ (i : Nat) (a : Int), l.length - i = d → i ≤ l.length → 0 ≤ a → a ≤ 1048576 →
  Tells (fun k => laws_szInstS.l0 k l a (i : Int)) (fun r => 0 ≤ r → r ≤ a ∧ ∀ x ∈ l.drop i, x.f1.f1.length ≤ 1048576) := by
 induction d with
 | zero =>
  intro i a hd hi ha0 ha
  obtain rfl : i = l.length := by omega
  refine Tells.step (f := fun _ => some a) (fun k => ?_) (Tells.now fun _ => ⟨Int.le_refl _, fun x hx => by simp at hx⟩)
  simp only [laws_szInstS.l0]; rw [if_neg (by omega)]
 | succ d ih =>
  intro i a hd hi ha0 ha
  have hlt : i < l.length := by omega
  have w : wrap64 ((i : Int) + 1) = ((i + 1 : Nat) : Int) := by unfold wrap64; omega
  have hg : rd_T34 l (i : Int) = l[i] := by unfold rd_T34; rw [Int.toNat_natCast, getD_lt l _ i hlt]
  obtain ⟨r, hr, h⟩ := szInst_tells (l[i]).f0 (l[i]).f1.f0 (l[i]).f1.f1 a ha0 ha (hm _ (List.getElem_mem hlt))
  by_cases c : r < 0
  ·refine Tells.step (f := fun _ => some (-1)) (fun k => ?_) (Tells.now fun h => by omega)
   simp only [laws_szInstS.l0]
   rw [if_pos (by omega), if_pos (by omega), hg, hr, Option.bind_some, if_pos c]
  ·have hh := h (by omega)
   refine Tells.step (fun k => ?_) ((ih (i + 1) r (by omega) (by omega) (by omega) (by omega)).mono fun r' hr' h0 => ?_)
   ·simp only [laws_szInstS.l0]
    rw [if_pos (by omega), if_pos (by omega), hg, hr, Option.bind_some, if_neg c, w]
   ·obtain ⟨h1, h2⟩ := hr' h0
    refine ⟨by omega, fun x hx => ?_⟩
    rw [List.drop_eq_getElem_cons hlt] at hx
    rcases List.mem_cons.1 hx with rfl | hx
    ·omega
    ·exact h2 x hx
theorem szInstS_tells (l : List S34) (a : Int) (ha0 : 0 ≤ a) (ha : a ≤ 1048576) (hl : l.length ≤ maxLen) (hm : ∀ x ∈ l, x.f1.f1.length ≤ maxLen) :
  Tells (fun k => laws_szInstS.f k l a) (fun r => 0 ≤ r → r ≤ a ∧ l.length ≤ 1048576 ∧ ∀ x ∈ l, x.f1.f1.length ≤ 1048576) := by
 unfold maxLen at hl
 unfold laws_szInstS.f
 have w : wrap64 (a - (l.length : Int)) = a - l.length := wrap64_in (by omega) (by omega)
 rw [w]
 by_cases c : a - (l.length : Int) < 0
 ·simp only [if_pos c]; exact Tells.now fun h => by omega
 ·simp only [if_neg c]
  refine (szInstS_loop l (by omega) hm l.length 0 (a - l.length) (by omega) (by omega) (by omega) (by omega)).mono fun r hr h0 => ?_
  obtain ⟨h1, h2⟩ := hr h0
  exact ⟨by omega, by omega, h2⟩

theorem cI_args (l : List S34) (ha : ∀ x ∈ l, x.f1.f1.length ≤ 1048576) : ∀ x ∈ l.map cI, x.f1.f1.length ≤ 1048576 := fun x hx => by
 obtain ⟨y, hy, rfl⟩ := List.mem_map.1 hx
 simpa [cI] using ha y hy

/-- How many there are of a kind. -/
def dsz (k : Int) : Int := if k = 1 ∨ k = 2 ∨ k = 5 ∨ k = 9 then 32 else if k = 3 then 64 else if k = 4 ∨ k = 7 ∨ k = 8 ∨ k = 10 then 16 else if k = 6 then 5 else 0
theorem dsz_in {k : Int} (h : 0 < dsz k) : 1 ≤ k ∧ k ≤ 10 := by
 unfold dsz at h
 repeat' split at h
 all_goals omega

theorem spec_size_j1 (a : Int) (x : Bool) (hx : x = decide (a = 4 ∨ a = 7 ∨ a = 8 ∨ a = 10)) (hn : ¬ (a = 1 ∨ a = 2 ∨ a = 5 ∨ a = 9) ∧ a ≠ 3) : Ev (fun k => spec_DevSize.j1 k a x) (dsz a) := by
 refine Ev.step (f := fun _ => some (dsz a)) (fun k => ?_) (Ev.now _)
 simp only [spec_DevSize.j1, hx, decide_eq_true_eq]
 unfold dsz
 rw [if_neg hn.1, if_neg hn.2]
 repeat' split
 all_goals rfl
theorem spec_size_j0 (a : Int) (x : Bool) (hx : x = decide (a = 1 ∨ a = 2 ∨ a = 5 ∨ a = 9)) : Ev (fun k => spec_DevSize.j0 k a x) (dsz a) := by
 by_cases c : a = 1 ∨ a = 2 ∨ a = 5 ∨ a = 9
 ·refine Ev.step (f := fun _ => some (dsz a)) (fun k => ?_) (Ev.now _)
  simp only [spec_DevSize.j0, hx, decide_eq_true_eq, if_pos c]
  unfold dsz; rw [if_pos c]
 ·by_cases c3 : a = 3
  ·refine Ev.step (f := fun _ => some (dsz a)) (fun k => ?_) (Ev.now _)
   simp only [spec_DevSize.j0, hx, decide_eq_true_eq, if_neg c, if_pos c3]
   unfold dsz; rw [if_neg c, if_pos c3]
  ·refine Ev.step (f := fun k => spec_DevSize.j1 k a (decide (a = 4 ∨ a = 7 ∨ a = 8 ∨ a = 10))) (fun k => ?_) (spec_size_j1 a _ rfl ⟨c, c3⟩)
   simp only [spec_DevSize.j0, hx, decide_eq_true_eq, if_neg c, if_neg c3]
   repeat' split
   all_goals
    congr 1
    rw [Bool.eq_iff_iff]
    simp only [beq_iff_eq, decide_eq_true_eq]
    omega
theorem spec_size_ev (a : Int) : Ev (fun k => spec_DevSize.f k a) (dsz a) := by
 have key : ∀ b : Bool, b = decide (a = 1 ∨ a = 2 ∨ a = 5 ∨ a = 9) → Ev (fun k => spec_DevSize.j0 k a b) (dsz a) := fun b hb => spec_size_j0 a b hb
 unfold spec_DevSize.f
 by_cases c1 : a = 1
 ·simp only [if_pos c1]; exact key _ (by rw [Bool.eq_iff_iff]; simp only [beq_iff_eq, decide_eq_true_eq]; omega)
 simp only [if_neg c1]
 by_cases c2 : a = 2
 ·simp only [if_pos c2]; exact key _ (by rw [Bool.eq_iff_iff]; simp only [beq_iff_eq, decide_eq_true_eq]; omega)
 simp only [if_neg c2]
 by_cases c3 : a = 5
 ·simp only [if_pos c3]; exact key _ (by rw [Bool.eq_iff_iff]; simp only [beq_iff_eq, decide_eq_true_eq]; omega)
 simp only [if_neg c3]
 exact key _ (by rw [Bool.eq_iff_iff]; simp only [beq_iff_eq, decide_eq_true_eq]; omega)

theorem impl_size_j1 (a : Int) (x : Bool) (hx : x = decide (a = 4 ∨ a = 7 ∨ a = 8 ∨ a = 10)) (hn : ¬ (a = 1 ∨ a = 2 ∨ a = 5 ∨ a = 9) ∧ a ≠ 3) : Ev (fun k => impl_DevSize.j1 k a x) (dsz a) := by
 refine Ev.step (f := fun _ => some (dsz a)) (fun k => ?_) (Ev.now _)
 simp only [impl_DevSize.j1, hx, decide_eq_true_eq]
 unfold dsz
 rw [if_neg hn.1, if_neg hn.2]
 repeat' split
 all_goals rfl
theorem impl_size_j0 (a : Int) (x : Bool) (hx : x = decide (a = 1 ∨ a = 2 ∨ a = 5 ∨ a = 9)) : Ev (fun k => impl_DevSize.j0 k a x) (dsz a) := by
 by_cases c : a = 1 ∨ a = 2 ∨ a = 5 ∨ a = 9
 ·refine Ev.step (f := fun _ => some (dsz a)) (fun k => ?_) (Ev.now _)
  simp only [impl_DevSize.j0, hx, decide_eq_true_eq, if_pos c]
  unfold dsz; rw [if_pos c]
 ·by_cases c3 : a = 3
  ·refine Ev.step (f := fun _ => some (dsz a)) (fun k => ?_) (Ev.now _)
   simp only [impl_DevSize.j0, hx, decide_eq_true_eq, if_neg c, if_pos c3]
   unfold dsz; rw [if_neg c, if_pos c3]
  ·refine Ev.step (f := fun k => impl_DevSize.j1 k a (decide (a = 4 ∨ a = 7 ∨ a = 8 ∨ a = 10))) (fun k => ?_) (impl_size_j1 a _ rfl ⟨c, c3⟩)
   simp only [impl_DevSize.j0, hx, decide_eq_true_eq, if_neg c, if_neg c3]
   repeat' split
   all_goals
    congr 1
    rw [Bool.eq_iff_iff]
    simp only [beq_iff_eq, decide_eq_true_eq]
    omega
theorem impl_size_ev (a : Int) : Ev (fun k => impl_DevSize.f k a) (dsz a) := by
 have key : ∀ b : Bool, b = decide (a = 1 ∨ a = 2 ∨ a = 5 ∨ a = 9) → Ev (fun k => impl_DevSize.j0 k a b) (dsz a) := fun b hb => impl_size_j0 a b hb
 unfold impl_DevSize.f
 by_cases c1 : a = 1
 ·simp only [if_pos c1]; exact key _ (by rw [Bool.eq_iff_iff]; simp only [beq_iff_eq, decide_eq_true_eq]; omega)
 simp only [if_neg c1]
 by_cases c2 : a = 2
 ·simp only [if_pos c2]; exact key _ (by rw [Bool.eq_iff_iff]; simp only [beq_iff_eq, decide_eq_true_eq]; omega)
 simp only [if_neg c2]
 by_cases c3 : a = 5
 ·simp only [if_pos c3]; exact key _ (by rw [Bool.eq_iff_iff]; simp only [beq_iff_eq, decide_eq_true_eq]; omega)
 simp only [if_neg c3]
 exact key _ (by rw [Bool.eq_iff_iff]; simp only [beq_iff_eq, decide_eq_true_eq]; omega)

/-- Whether an operand is ok. -/
def dok (a b c : Int) : Bool := if a = 11 then decide (-32768 ≤ b ∧ b ≤ 32767 ∧ c = 0) else if a = 12 then decide (-999999999 ≤ b ∧ b ≤ 999999999 ∧ 1 ≤ c ∧ c ≤ 6 ∧ (c = 1 ∨ Int.tmod b 10 ≠ 0)) else if a = 13 then decide (0 ≤ b ∧ b ≤ 3 ∧ c = 0) else decide (0 ≤ b ∧ b < dsz a ∧ c = 0)
theorem dok_in {a b c : Int} (h : dok a b c = true) : 1 ≤ a ∧ a ≤ 13 := by
 unfold dok at h
 split at h
 ·omega
 ·split at h
  ·omega
  ·split at h
   ·omega
   ·have := of_decide_eq_true h
    have := dsz_in (k := a) (by omega)
    omega
theorem spec_dok_ev (a b c : Int) : Ev (fun k => spec_DevOk.f k a b c) (dok a b c) := by
 unfold spec_DevOk.f dok
 by_cases c1 : a = 11
 ·simp only [if_pos c1]
  refine Ev.congr (f := fun _ => some _) (fun k => ?_) (Ev.now _)
  repeat' split
  all_goals
   rw [Option.some.injEq, Bool.eq_iff_iff]
   simp only [beq_iff_eq, decide_eq_true_eq, Bool.false_eq_true, false_iff, true_iff]
   omega
 simp only [if_neg c1]
 by_cases c2 : a = 12
 ·simp only [if_pos c2]
  refine Ev.congr (f := fun _ => some _) (fun k => ?_) (Ev.now _)
  generalize Int.tmod b 10 = q
  repeat' split
  all_goals
   rw [Option.some.injEq, Bool.eq_iff_iff]
   simp only [bne_iff_ne, ne_eq, decide_eq_true_eq, Bool.false_eq_true, false_iff, true_iff]
   omega
 simp only [if_neg c2]
 by_cases c3 : a = 13
 ·simp only [if_pos c3]
  refine Ev.congr (f := fun _ => some _) (fun k => ?_) (Ev.now _)
  repeat' split
  all_goals
   rw [Option.some.injEq, Bool.eq_iff_iff]
   simp only [beq_iff_eq, decide_eq_true_eq, Bool.false_eq_true, false_iff, true_iff]
   omega
 simp only [if_neg c3]
 by_cases c4 : b ≥ 0
 ·simp only [if_pos c4]
  refine Ev.bind (spec_size_ev a) ?_
  refine Ev.congr (f := fun _ => some _) (fun k => ?_) (Ev.now _)
  generalize dsz a = q
  split
  all_goals
   rw [Option.some.injEq, Bool.eq_iff_iff]
   simp only [beq_iff_eq, decide_eq_true_eq, Bool.false_eq_true, false_iff, true_iff]
   omega
 ·simp only [if_neg c4]
  rw [decide_eq_false (by omega)]
  exact Ev.now _

theorem impl_dok_ev (a b c : Int) : Ev (fun k => impl_DevOk.f k a b c) (dok a b c) := by
 unfold impl_DevOk.f dok
 simp only [in_eq, Option.bind_some, decide_eq_true_eq]
 by_cases c1 : a = 11
 ·simp only [if_pos c1]
  refine Ev.congr (f := fun _ => some _) (fun k => ?_) (Ev.now _)
  repeat' split
  all_goals
   rw [Option.some.injEq, Bool.eq_iff_iff]
   simp only [beq_iff_eq, decide_eq_true_eq, Bool.false_eq_true, false_iff, true_iff]
   omega
 simp only [if_neg c1]
 by_cases c2 : a = 12
 ·simp only [if_pos c2]
  refine Ev.congr (f := fun _ => some _) (fun k => ?_) (Ev.now _)
  generalize Int.tmod b 10 = q
  repeat' split
  all_goals
   rw [Option.some.injEq, Bool.eq_iff_iff]
   simp only [bne_iff_ne, ne_eq, decide_eq_true_eq, Bool.false_eq_true, false_iff, true_iff]
   omega
 simp only [if_neg c2]
 by_cases c3 : a = 13
 ·simp only [if_pos c3]
  refine Ev.congr (f := fun _ => some _) (fun k => ?_) (Ev.now _)
  repeat' split
  all_goals
   rw [Option.some.injEq, Bool.eq_iff_iff]
   simp only [beq_iff_eq, decide_eq_true_eq, Bool.false_eq_true, false_iff, true_iff]
   omega
 simp only [if_neg c3]
 by_cases c4 : b ≥ 0
 ·simp only [if_pos c4]
  refine Ev.bind (impl_size_ev a) ?_
  refine Ev.congr (f := fun _ => some _) (fun k => ?_) (Ev.now _)
  generalize dsz a = q
  split
  all_goals
   rw [Option.some.injEq, Bool.eq_iff_iff]
   simp only [beq_iff_eq, decide_eq_true_eq, Bool.false_eq_true, false_iff, true_iff]
   omega
 ·simp only [if_neg c4]
  rw [decide_eq_false (by omega)]
  exact Ev.now _

theorem index_loop (l : List Int) (x : Int) (hl : l.length ≤ 1048576) (d : Nat) : ∀ i : Nat, l.length - i = d → i ≤ l.length →
  Tells (fun k => slices_Index_int_int.l0 k l x (l.length : Int) (i : Int)) (fun r => decide (r ≥ 0) = decide (x ∈ l.drop i)) := by
 induction d with
 | zero =>
  intro i hd hi
  obtain rfl : i = l.length := by omega
  rw [List.drop_length]
  refine Tells.step (f := fun _ => some (-1)) (fun k => ?_) (Tells.now (by simp))
  simp only [slices_Index_int_int.l0]; rw [if_neg (by omega)]
 | succ d ih =>
  intro i hd hi
  have hlt : i < l.length := by omega
  have w : wrap64 ((i : Int) + 1) = ((i + 1 : Nat) : Int) := by unfold wrap64; omega
  have hr : rd l (i : Int) = l[i] := by unfold rd; simp [List.getD_eq_getElem?_getD, hlt]
  rw [List.drop_eq_getElem_cons hlt]
  by_cases c : x = l[i]
  ·refine Tells.step (f := fun _ => some (i : Int)) (fun k => ?_) (Tells.now ?_)
   ·simp only [slices_Index_int_int.l0]
    rw [if_pos (by omega), if_pos (by omega), if_pos (by omega), hr, if_pos c]
   ·rw [decide_eq_true (by omega), decide_eq_true (by rw [c]; exact List.mem_cons_self ..)]
  ·refine Tells.step (fun k => ?_) ((ih (i + 1) (by omega) (by omega)).mono fun r hr2 => ?_)
   ·simp only [slices_Index_int_int.l0]
    rw [if_pos (by omega), if_pos (by omega), if_pos (by omega), hr, if_neg c, w]
   ·rw [hr2, decide_eq_decide, List.mem_cons]
    exact ⟨fun h => .inr h, fun h => h.resolve_left c⟩
theorem contains_ev (l : List Int) (x : Int) (hl : l.length ≤ 1048576) : Ev (fun k => slices_Contains_int_int.f k l x) (decide (x ∈ l)) := by
 obtain ⟨r, h1, h2⟩ := index_loop l x hl l.length 0 (by omega) (by omega)
 rw [List.drop_zero] at h2
 unfold slices_Contains_int_int.f
 rw [← h2]
 exact Ev.bind h1 (Ev.now _)

theorem kindIs_ev (a b c : Int) (l : List Int) (hl : l.length ≤ 1048576) : Ev (fun k => impl_DevArg_kindIs.f k a b c l) (dok a b c && decide (a ∈ l)) := by
 unfold impl_DevArg_kindIs.f
 refine Ev.bind (impl_dok_ev a b c) ?_
 cases dok a b c
 ·exact Ev.now _
 ·simp only [if_true, Bool.true_and]
  exact Ev.bind (contains_ev l a hl) (Ev.now _)

def isB (a b c : Int) : Bool := dok a b c && decide (a ≤ 4 ∨ a = 6 ∨ a = 7 ∨ a = 8)
theorem spec_isB_ev (a b c : Int) : Ev (fun k => spec_DevIsBit.f k a b c) (isB a b c) := by
 unfold spec_DevIsBit.f isB
 refine Ev.bind (spec_dok_ev a b c) ?_
 cases dok a b c
 ·exact Ev.now _
 ·simp only [if_true, Bool.true_and]
  refine Ev.congr (f := fun _ => some _) (fun k => ?_) (Ev.now _)
  repeat' split
  all_goals
   rw [Option.some.injEq, Bool.eq_iff_iff]
   simp only [beq_iff_eq, decide_eq_true_eq, true_iff]
   omega

theorem impl_isB_ev (a b c : Int) : Ev (fun k => impl_DevIsBit.f k a b c) (isB a b c) := by
 have e : (dok a b c && decide (a ∈ ([1, 2, 3, 4, 6, 7, 8] : List Int))) = isB a b c := by
  unfold isB
  cases h : dok a b c
  ·rfl
  ·have := dok_in h
   rw [Bool.true_and, Bool.true_and, decide_eq_decide]
   simp only [List.mem_cons, List.not_mem_nil, or_false]
   omega
 unfold impl_DevIsBit.f
 rw [← e]
 exact Ev.bind (kindIs_ev a b c _ (by decide)) (Ev.now _)

def isW (a b c : Int) : Bool := dok a b c && decide (a = 7 ∨ a = 8 ∨ a = 9 ∨ a = 11)
theorem spec_isW_ev (a b c : Int) : Ev (fun k => spec_DevIsWhole.f k a b c) (isW a b c) := by
 unfold spec_DevIsWhole.f isW
 refine Ev.bind (spec_dok_ev a b c) ?_
 cases dok a b c
 ·exact Ev.now _
 ·simp only [if_true, Bool.true_and]
  refine Ev.congr (f := fun _ => some _) (fun k => ?_) (Ev.now _)
  repeat' split
  all_goals
   rw [Option.some.injEq, Bool.eq_iff_iff]
   simp only [beq_iff_eq, decide_eq_true_eq, true_iff]
   omega

theorem impl_isW_ev (a b c : Int) : Ev (fun k => impl_DevIsWhole.f k a b c) (isW a b c) := by
 have e : (dok a b c && decide (a ∈ ([7, 8, 9, 11] : List Int))) = isW a b c := by
  unfold isW
  congr 1
  rw [decide_eq_decide]
  simp only [List.mem_cons, List.not_mem_nil, or_false]
 unfold impl_DevIsWhole.f
 rw [← e]
 exact Ev.bind (kindIs_ev a b c _ (by decide)) (Ev.now _)

def isR (a b c : Int) : Bool := dok a b c && decide (a = 10 ∨ a = 12 ∨ a = 13)
theorem spec_isR_ev (a b c : Int) : Ev (fun k => spec_DevIsReal.f k a b c) (isR a b c) := by
 unfold spec_DevIsReal.f isR
 refine Ev.bind (spec_dok_ev a b c) ?_
 cases dok a b c
 ·exact Ev.now _
 ·simp only [if_true, Bool.true_and]
  refine Ev.congr (f := fun _ => some _) (fun k => ?_) (Ev.now _)
  repeat' split
  all_goals
   rw [Option.some.injEq, Bool.eq_iff_iff]
   simp only [beq_iff_eq, decide_eq_true_eq, true_iff]
   omega

theorem impl_isR_ev (a b c : Int) : Ev (fun k => impl_DevIsReal.f k a b c) (isR a b c) := by
 have e : (dok a b c && decide (a ∈ ([10, 12, 13] : List Int))) = isR a b c := by
  unfold isR
  congr 1
  rw [decide_eq_decide]
  simp only [List.mem_cons, List.not_mem_nil, or_false]
 unfold impl_DevIsReal.f
 rw [← e]
 exact Ev.bind (kindIs_ev a b c _ (by decide)) (Ev.now _)

theorem allW_loop (l : List S55) (hl : l.length ≤ 1048576) (d : Nat) : ∀ i : Nat, l.length - i = d → i ≤ l.length →
  Ev (fun k => impl_all.l0 k l (l.length : Int) (i : Int)) ((l.drop i).all fun x => isW x.f0 x.f1 x.f2) := by
 induction d with
 | zero =>
  intro i hd hi
  obtain rfl : i = l.length := by omega
  rw [List.drop_length]
  refine Ev.step (f := fun _ => some true) (fun k => ?_) (Ev.now _)
  simp only [impl_all.l0]; rw [if_neg (by omega)]
 | succ d ih =>
  intro i hd hi
  have hlt : i < l.length := by omega
  have w : wrap64 ((i : Int) + 1) = ((i + 1 : Nat) : Int) := by unfold wrap64; omega
  have hg : rd_T55 l (i : Int) = l[i] := by unfold rd_T55; rw [Int.toNat_natCast, getD_lt l _ i hlt]
  have hr := ih (i + 1) (by omega) (by omega)
  rw [List.drop_eq_getElem_cons hlt, List.all_cons]
  refine Ev.step (f := fun k => (impl_all_1.f k l[i].f0 l[i].f1 l[i].f2).bind fun t196 => (if t196 = true then (some false) else (impl_all.l0 k l (l.length : Int) ((i + 1 : Nat) : Int)))) (fun k => ?_) ?_
  ·simp only [impl_all.l0]
   rw [if_pos (by omega), if_pos (by omega), if_pos (by omega), hg, w]
  ·refine Ev.bind (a := !(isW l[i].f0 l[i].f1 l[i].f2)) (by unfold impl_all_1.f; exact Ev.bind (impl_isW_ev _ _ _) (Ev.now _)) ?_
   cases isW l[i].f0 l[i].f1 l[i].f2
   ·exact Ev.now _
   ·exact hr
theorem allW_ev (l : List S55) (hl : l.length ≤ 1048576) : Ev (fun k => impl_all.f k l) (l.all fun x => isW x.f0 x.f1 x.f2) := by
 unfold impl_all.f
 exact allW_loop l hl l.length 0 (by omega) (by omega)

theorem allR_loop (l : List S55) (hl : l.length ≤ 1048576) (d : Nat) : ∀ i : Nat, l.length - i = d → i ≤ l.length →
  Ev (fun k => impl_DevArg_62.l0 k l (l.length : Int) (i : Int)) ((l.drop i).all fun x => isR x.f0 x.f1 x.f2) := by
 induction d with
 | zero =>
  intro i hd hi
  obtain rfl : i = l.length := by omega
  rw [List.drop_length]
  refine Ev.step (f := fun _ => some true) (fun k => ?_) (Ev.now _)
  simp only [impl_DevArg_62.l0]; rw [if_neg (by omega)]
 | succ d ih =>
  intro i hd hi
  have hlt : i < l.length := by omega
  have w : wrap64 ((i : Int) + 1) = ((i + 1 : Nat) : Int) := by unfold wrap64; omega
  have hg : rd_T55 l (i : Int) = l[i] := by unfold rd_T55; rw [Int.toNat_natCast, getD_lt l _ i hlt]
  have hr := ih (i + 1) (by omega) (by omega)
  rw [List.drop_eq_getElem_cons hlt, List.all_cons]
  refine Ev.step (f := fun k => (impl_DevArg_66.f k l[i].f0 l[i].f1 l[i].f2).bind fun t196 => (if t196 = true then (some false) else (impl_DevArg_62.l0 k l (l.length : Int) ((i + 1 : Nat) : Int)))) (fun k => ?_) ?_
  ·simp only [impl_DevArg_62.l0]
   rw [if_pos (by omega), if_pos (by omega), if_pos (by omega), hg, w]
  ·refine Ev.bind (a := !(isR l[i].f0 l[i].f1 l[i].f2)) (by unfold impl_DevArg_66.f; exact Ev.bind (impl_isR_ev _ _ _) (Ev.now _)) ?_
   cases isR l[i].f0 l[i].f1 l[i].f2
   ·exact Ev.now _
   ·exact hr
theorem allR_ev (l : List S55) (hl : l.length ≤ 1048576) : Ev (fun k => impl_DevArg_62.f k l) (l.all fun x => isR x.f0 x.f1 x.f2) := by
 unfold impl_DevArg_62.f
 exact allR_loop l hl l.length 0 (by omega) (by omega)

theorem numbers_ev (l : List S55) (hl : l.length ≤ 1048576) : Ev (fun k => impl_numbers.f k l) ((l.all fun x => isW x.f0 x.f1 x.f2) || (l.all fun x => isR x.f0 x.f1 x.f2)) := by
 unfold impl_numbers.f
 refine Ev.bind (allW_ev l hl) ?_
 cases (l.all fun x => isW x.f0 x.f1 x.f2)
 ·exact Ev.bind (allR_ev l hl) (Ev.now _)
 ·exact Ev.now _

def ar (x : Int) : Int := if x = 1 ∨ x = 2 ∨ (21 ≤ x ∧ x ≤ 23) ∨ x = 25 then 1 else if 31 ≤ x ∧ x ≤ 35 then 3 else if (1 ≤ x ∧ x ≤ 10) ∨ (21 ≤ x ∧ x ≤ 37) then 2 else 0
theorem sAr_j1 (x : Int) (b : Bool) (hb : b = decide (31 ≤ x ∧ x ≤ 35)) (h1 : ¬ (x = 1 ∨ x = 2 ∨ (21 ≤ x ∧ x ≤ 23) ∨ x = 25)) : Ev (fun k => spec_ElemArity.j1 k x b) (ar x) := by
 refine Ev.step (f := fun _ => some (ar x)) (fun k => ?_) (Ev.now _)
 simp only [spec_ElemArity.j1, hb, decide_eq_true_eq]
 unfold ar
 rw [if_neg h1]
 repeat' split
 all_goals first | rfl | omega
theorem sAr_j0 (x : Int) (b : Bool) (hb : b = decide (x = 1 ∨ x = 2 ∨ (21 ≤ x ∧ x ≤ 23) ∨ x = 25)) : Ev (fun k => spec_ElemArity.j0 k x x b) (ar x) := by
 by_cases h1 : x = 1 ∨ x = 2 ∨ (21 ≤ x ∧ x ≤ 23) ∨ x = 25
 ·refine Ev.step (f := fun _ => some (ar x)) (fun k => ?_) (Ev.now _)
  simp only [spec_ElemArity.j0, hb, decide_eq_true_eq, if_pos h1]
  unfold ar; rw [if_pos h1]
 ·refine Ev.step (f := fun k => spec_ElemArity.j1 k x (decide (31 ≤ x ∧ x ≤ 35))) (fun k => ?_) (sAr_j1 x _ rfl h1)
  simp only [spec_ElemArity.j0, hb, decide_eq_true_eq, if_neg h1]
  repeat' split
  all_goals
   congr 1
   rw [Bool.eq_iff_iff]
   simp only [beq_iff_eq, decide_eq_true_eq]
   omega
theorem sAr_ev (x : Int) : Ev (fun k => spec_ElemArity.f k x) (ar x) := by
 have key : ∀ b : Bool, b = decide (x = 1 ∨ x = 2 ∨ (21 ≤ x ∧ x ≤ 23) ∨ x = 25) → Ev (fun k => spec_ElemArity.j0 k x x b) (ar x) := fun b hb => sAr_j0 x b hb
 unfold spec_ElemArity.f
 by_cases c1 : x = 1
 ·simp only [if_pos c1]; exact key _ (by rw [Bool.eq_iff_iff]; simp only [beq_iff_eq, decide_eq_true_eq]; omega)
 simp only [if_neg c1]
 by_cases c2 : x = 2
 ·simp only [if_pos c2]; exact key _ (by rw [Bool.eq_iff_iff]; simp only [beq_iff_eq, decide_eq_true_eq]; omega)
 simp only [if_neg c2]
 by_cases c3 : x = 21
 ·simp only [if_pos c3]; exact key _ (by rw [Bool.eq_iff_iff]; simp only [beq_iff_eq, decide_eq_true_eq]; omega)
 simp only [if_neg c3]
 by_cases c4 : x = 22
 ·simp only [if_pos c4]; exact key _ (by rw [Bool.eq_iff_iff]; simp only [beq_iff_eq, decide_eq_true_eq]; omega)
 simp only [if_neg c4]
 by_cases c5 : x = 23
 ·simp only [if_pos c5]; exact key _ (by rw [Bool.eq_iff_iff]; simp only [beq_iff_eq, decide_eq_true_eq]; omega)
 simp only [if_neg c5]
 exact key _ (by rw [Bool.eq_iff_iff]; simp only [beq_iff_eq, decide_eq_true_eq]; omega)
theorem iAr_j0 (x : Int) (b : Bool) (hb : b = decide (x = 1 ∨ x = 2 ∨ (21 ≤ x ∧ x ≤ 23) ∨ x = 25)) : Ev (fun k => impl_ElemArity.j0 k x b) (ar x) := by
 refine Ev.step (f := fun _ => some (ar x)) (fun k => ?_) (Ev.now _)
 simp only [impl_ElemArity.j0, hb, decide_eq_true_eq, in_eq, Option.bind_some]
 unfold ar
 repeat' split
 all_goals first | rfl | omega
theorem iAr_ev (x : Int) : Ev (fun k => impl_ElemArity.f k x) (ar x) := by
 have key : ∀ b : Bool, b = decide (x = 1 ∨ x = 2 ∨ (21 ≤ x ∧ x ≤ 23) ∨ x = 25) → Ev (fun k => impl_ElemArity.j0 k x b) (ar x) := fun b hb => iAr_j0 x b hb
 unfold impl_ElemArity.f
 by_cases c1 : x = 1
 ·simp only [if_pos c1]; exact key _ (by rw [Bool.eq_iff_iff]; simp only [beq_iff_eq, decide_eq_true_eq]; omega)
 simp only [if_neg c1]
 by_cases c2 : x = 2
 ·simp only [if_pos c2]; exact key _ (by rw [Bool.eq_iff_iff]; simp only [beq_iff_eq, decide_eq_true_eq]; omega)
 simp only [if_neg c2, in_eq, Option.bind_some, decide_eq_true_eq]
 by_cases c3 : 21 ≤ x ∧ x ≤ 23
 ·simp only [if_pos c3]; exact key _ (by rw [decide_eq_decide]; omega)
 simp only [if_neg c3]
 exact key _ (by rw [Bool.eq_iff_iff]; simp only [beq_iff_eq, decide_eq_true_eq]; omega)

/-- Whether something is a contact. -/
def con (op : Int) : List S55 → Bool
 | [x] => decide (op = 1 ∨ op = 2) && isB x.f0 x.f1 x.f2
 | [x, y] => if op = 3 ∨ op = 4 then isB x.f0 x.f1 x.f2 && (dok y.f0 y.f1 y.f2 && y.f0 == 5) else if 5 ≤ op ∧ op ≤ 10 then (isW x.f0 x.f1 x.f2 && isW y.f0 y.f1 y.f2) || (isR x.f0 x.f1 x.f2 && isR y.f0 y.f1 y.f2) else false
 | _ => false
theorem ar_con {op : Int} (h : 1 ≤ op ∧ op ≤ 10) : ar op = if op ≤ 2 then 1 else 2 := by
 unfold ar
 by_cases c : op ≤ 2
 ·rw [if_pos c, if_pos (by omega)]
 ·rw [if_neg c, if_neg (by omega), if_neg (by omega), if_pos (by omega)]
theorem con_bad {op : Int} {l : List S55} (h : ¬ (1 ≤ op ∧ op ≤ 10) ∨ (l.length : Int) ≠ ar op) : con op l = false := by
 rcases l with _ | ⟨x, _ | ⟨y, _ | ⟨z, l⟩⟩⟩
 ·rfl
 ·have : ¬ (op = 1 ∨ op = 2) := fun h2 => by
   rcases h with h | h
   ·omega
   ·rw [ar_con (by omega), if_pos (by omega)] at h; exact h rfl
  show (decide (op = 1 ∨ op = 2) && _) = false
  rw [decide_eq_false this]; rfl
 ·have : ¬ (3 ≤ op ∧ op ≤ 10) := fun h2 => by
   rcases h with h | h
   ·omega
   ·rw [ar_con (by omega), if_neg (by omega)] at h; exact h rfl
  show (if op = 3 ∨ op = 4 then _ else if 5 ≤ op ∧ op ≤ 10 then _ else false) = false
  rw [if_neg (by omega), if_neg (by omega)]
 ·rfl
theorem rd_0 (x : S55) (l : List S55) : rd_T55 (x :: l) 0 = x := rfl
theorem rd_1 (x y : S55) (l : List S55) : rd_T55 (x :: y :: l) 1 = y := rfl
theorem spec_con_j0 (op : Int) (l : List S55) (b : Bool) (hb : b = decide (¬ (1 ≤ op ∧ op ≤ 10) ∨ (l.length : Int) ≠ ar op)) : Ev (fun k => spec_ElemIsContact.j0 k b op l) (con op l) := by
 by_cases c : ¬ (1 ≤ op ∧ op ≤ 10) ∨ (l.length : Int) ≠ ar op
 ·rw [decide_eq_true c] at hb
  subst hb
  rw [con_bad c]
  exact Ev.step (f := fun _ => some false) (fun k => by simp only [spec_ElemIsContact.j0, if_true]) (Ev.now _)
 ·rw [decide_eq_false c] at hb
  subst hb
  have h1 : 1 ≤ op ∧ op ≤ 10 := by omega
  have h2 : (l.length : Int) = ar op := by omega
  rw [ar_con h1] at h2
  by_cases c2 : op ≤ 2
  ·rw [if_pos c2] at h2
   rcases l with _ | ⟨x, _ | ⟨y, l⟩⟩
   ·simp at h2
   ·refine Ev.step (f := fun k => (spec_DevIsBit.f k x.f0 x.f1 x.f2).bind fun t114 => (some t114)) (fun k => ?_) ?_
    ·simp only [spec_ElemIsContact.j0, if_neg (show ¬ (false = true) by decide), if_pos c2, rd_0]
     rfl
    ·show Ev _ (decide (op = 1 ∨ op = 2) && isB x.f0 x.f1 x.f2)
     rw [decide_eq_true (by omega), Bool.true_and]
     exact Ev.bind (spec_isB_ev _ _ _) (Ev.now _)
   ·simp at h2; omega
  ·rw [if_neg c2] at h2
   rcases l with _ | ⟨x, _ | ⟨y, _ | ⟨z, l⟩⟩⟩
   ·simp at h2
   ·simp at h2
   ·show Ev _ (if op = 3 ∨ op = 4 then isB x.f0 x.f1 x.f2 && (dok y.f0 y.f1 y.f2 && y.f0 == 5) else if 5 ≤ op ∧ op ≤ 10 then (isW x.f0 x.f1 x.f2 && isW y.f0 y.f1 y.f2) || (isR x.f0 x.f1 x.f2 && isR y.f0 y.f1 y.f2) else false)
    by_cases c4 : op ≤ 4
    ·rw [if_pos (by omega)]
     refine Ev.step (f := fun k => (spec_DevIsBit.f k x.f0 x.f1 x.f2).bind fun t116 => (if t116 = true then ((spec_DevOk.f k y.f0 y.f1 y.f2).bind fun t118 => (if t118 = true then (some (y.f0 == 5)) else (some false))) else (some false))) (fun k => ?_) ?_
     ·simp only [spec_ElemIsContact.j0, if_neg (show ¬ (false = true) by decide), if_neg c2, if_pos c4, rd_0, rd_1]
      rfl
     ·refine Ev.bind (spec_isB_ev _ _ _) ?_
      cases isB x.f0 x.f1 x.f2
      ·exact Ev.now _
      ·refine Ev.bind (spec_dok_ev _ _ _) ?_
       cases dok y.f0 y.f1 y.f2 <;> exact Ev.now _
    ·rw [if_neg (by omega), if_pos (by omega)]
     refine Ev.step (f := fun k => (spec_DevIsWhole.f k x.f0 x.f1 x.f2).bind fun t121 => (if t121 = true then ((spec_DevIsWhole.f k y.f0 y.f1 y.f2).bind fun t123 => (if t123 = true then (some true) else ((spec_DevIsReal.f k x.f0 x.f1 x.f2).bind fun t125 => (if t125 = true then ((spec_DevIsReal.f k y.f0 y.f1 y.f2).bind fun t127 => (some t127)) else (some false))))) else ((spec_DevIsReal.f k x.f0 x.f1 x.f2).bind fun t129 => (if t129 = true then ((spec_DevIsReal.f k y.f0 y.f1 y.f2).bind fun t131 => (some t131)) else (some false))))) (fun k => ?_) ?_
     ·simp only [spec_ElemIsContact.j0, if_neg (show ¬ (false = true) by decide), if_neg c2, if_neg c4, rd_0, rd_1]
      rfl
     ·have hR : Ev (fun k => (spec_DevIsReal.f k x.f0 x.f1 x.f2).bind fun t125 => (if t125 = true then ((spec_DevIsReal.f k y.f0 y.f1 y.f2).bind fun t127 => (some t127)) else (some false))) (isR x.f0 x.f1 x.f2 && isR y.f0 y.f1 y.f2) := by
       refine Ev.bind (spec_isR_ev _ _ _) ?_
       cases isR x.f0 x.f1 x.f2
       ·exact Ev.now _
       ·exact Ev.bind (spec_isR_ev _ _ _) (Ev.now _)
      refine Ev.bind (spec_isW_ev _ _ _) ?_
      cases isW x.f0 x.f1 x.f2
      ·exact hR
      ·refine Ev.bind (spec_isW_ev _ _ _) ?_
       cases isW y.f0 y.f1 y.f2
       ·exact hR
       ·exact Ev.now _
   ·simp at h2; omega
theorem spec_con_ev (op : Int) (l : List S55) : Ev (fun k => spec_ElemIsContact.f k op l) (con op l) := by
 unfold spec_ElemIsContact.f
 by_cases c1 : op < 1
 ·simp only [if_pos c1]; exact spec_con_j0 op l _ (decide_eq_true (.inl (by omega))).symm
 simp only [if_neg c1]
 by_cases c2 : op > 10
 ·simp only [if_pos c2]; exact spec_con_j0 op l _ (decide_eq_true (.inl (by omega))).symm
 simp only [if_neg c2]
 refine Ev.bind (sAr_ev op) ?_
 refine spec_con_j0 op l _ ?_
 rw [Bool.eq_iff_iff]
 simp only [bne_iff_ne, ne_eq, decide_eq_true_eq]
 omega

theorem impl_con_j2 (op : Int) (x y : S55) (b : Bool) (hb : b = decide (op = 3 ∨ op = 4)) (h1 : 3 ≤ op ∧ op ≤ 10) : Ev (fun k => impl_ElemIsContact.j2 k b op [x, y]) (con op [x, y]) := by
 show Ev _ (if op = 3 ∨ op = 4 then isB x.f0 x.f1 x.f2 && (dok y.f0 y.f1 y.f2 && y.f0 == 5) else if 5 ≤ op ∧ op ≤ 10 then (isW x.f0 x.f1 x.f2 && isW y.f0 y.f1 y.f2) || (isR x.f0 x.f1 x.f2 && isR y.f0 y.f1 y.f2) else false)
 by_cases c : op = 3 ∨ op = 4
 ·rw [decide_eq_true c] at hb
  subst hb
  rw [if_pos c]
  refine Ev.step (f := fun k => (impl_DevIsBit.f k x.f0 x.f1 x.f2).bind fun t205 => (if t205 = true then ((impl_DevArg_kindIs.f k y.f0 y.f1 y.f2 (([5] : List Int))).bind fun t210 => (some t210)) else (some false))) (fun k => ?_) ?_
  ·simp only [impl_ElemIsContact.j2, if_true, rd_0, rd_1]
   rfl
  ·refine Ev.bind (impl_isB_ev _ _ _) ?_
   cases isB x.f0 x.f1 x.f2
   ·exact Ev.now _
   ·have e : (dok y.f0 y.f1 y.f2 && decide (y.f0 ∈ ([5] : List Int))) = (dok y.f0 y.f1 y.f2 && y.f0 == 5) := by
     congr 1
     rw [Bool.eq_iff_iff]
     simp only [beq_iff_eq, decide_eq_true_eq, List.mem_cons, List.not_mem_nil, or_false]
    rw [Bool.true_and, ← e]
    exact Ev.bind (kindIs_ev _ _ _ _ (by decide)) (Ev.now _)
 ·rw [decide_eq_false c] at hb
  subst hb
  rw [if_neg c, if_pos (by omega)]
  refine Ev.step (f := fun k => (impl_numbers.f k [x, y]).bind fun t211 => (some t211)) (fun k => by simp only [impl_ElemIsContact.j2, if_neg (show ¬ (false = true) by decide)]) ?_
  have h := numbers_ev [x, y] (by simp)
  simp only [List.all_cons, List.all_nil, Bool.and_true] at h
  exact Ev.bind h (Ev.now _)
theorem impl_con_j1 (op : Int) (l : List S55) (b : Bool) (hb : b = decide (op = 1 ∨ op = 2)) (h1 : 1 ≤ op ∧ op ≤ 10) (h2 : (l.length : Int) = ar op) : Ev (fun k => impl_ElemIsContact.j1 k op b op l) (con op l) := by
 rw [ar_con h1] at h2
 by_cases c2 : op ≤ 2
 ·rw [if_pos c2] at h2
  rw [decide_eq_true (by omega)] at hb
  subst hb
  rcases l with _ | ⟨x, _ | ⟨y, l⟩⟩
  ·simp at h2
  ·refine Ev.step (f := fun k => (impl_DevIsBit.f k x.f0 x.f1 x.f2).bind fun t114 => (some t114)) (fun k => ?_) ?_
   ·simp only [impl_ElemIsContact.j1, if_true, rd_0]
    rfl
   ·show Ev _ (decide (op = 1 ∨ op = 2) && isB x.f0 x.f1 x.f2)
    rw [decide_eq_true (by omega), Bool.true_and]
    exact Ev.bind (impl_isB_ev _ _ _) (Ev.now _)
  ·simp at h2; omega
 ·rw [if_neg c2] at h2
  rw [decide_eq_false (by omega)] at hb
  subst hb
  rcases l with _ | ⟨x, _ | ⟨y, _ | ⟨z, l⟩⟩⟩
  ·simp at h2
  ·simp at h2
  ·by_cases c3 : op = 3
   ·refine Ev.step (f := fun k => impl_ElemIsContact.j2 k (op == 3) op [x, y]) (fun k => by simp only [impl_ElemIsContact.j1, if_neg (show ¬ (false = true) by decide), if_pos c3]) ?_
    exact impl_con_j2 op x y _ (by rw [Bool.eq_iff_iff]; simp only [beq_iff_eq, decide_eq_true_eq]; omega) (by omega)
   ·refine Ev.step (f := fun k => impl_ElemIsContact.j2 k (op == 4) op [x, y]) (fun k => by simp only [impl_ElemIsContact.j1, if_neg (show ¬ (false = true) by decide), if_neg c3]) ?_
    exact impl_con_j2 op x y _ (by rw [Bool.eq_iff_iff]; simp only [beq_iff_eq, decide_eq_true_eq]; omega) (by omega)
  ·simp at h2; omega
theorem impl_con_j0 (op : Int) (l : List S55) (b : Bool) (hb : b = decide (¬ (1 ≤ op ∧ op ≤ 10) ∨ (l.length : Int) ≠ ar op)) : Ev (fun k => impl_ElemIsContact.j0 k b op l) (con op l) := by
 by_cases c : ¬ (1 ≤ op ∧ op ≤ 10) ∨ (l.length : Int) ≠ ar op
 ·rw [decide_eq_true c] at hb
  subst hb
  rw [con_bad c]
  exact Ev.step (f := fun _ => some false) (fun k => by simp only [impl_ElemIsContact.j0, if_true]) (Ev.now _)
 ·rw [decide_eq_false c] at hb
  subst hb
  by_cases c1 : op = 1
  ·refine Ev.step (f := fun k => impl_ElemIsContact.j1 k op (op == 1) op l) (fun k => by simp only [impl_ElemIsContact.j0, if_neg (show ¬ (false = true) by decide), if_pos c1]) ?_
   exact impl_con_j1 op l _ (by rw [Bool.eq_iff_iff]; simp only [beq_iff_eq, decide_eq_true_eq]; omega) (by omega) (by omega)
  ·refine Ev.step (f := fun k => impl_ElemIsContact.j1 k op (op == 2) op l) (fun k => by simp only [impl_ElemIsContact.j0, if_neg (show ¬ (false = true) by decide), if_neg c1]) ?_
   exact impl_con_j1 op l _ (by rw [Bool.eq_iff_iff]; simp only [beq_iff_eq, decide_eq_true_eq]; omega) (by omega) (by omega)
theorem impl_con_ev (op : Int) (l : List S55) : Ev (fun k => impl_ElemIsContact.f k op l) (con op l) := by
 unfold impl_ElemIsContact.f
 simp only [in_eq, Option.bind_some, decide_eq_true_eq]
 by_cases c1 : 1 ≤ op ∧ op ≤ 10
 ·simp only [if_pos c1]
  refine Ev.bind (iAr_ev op) ?_
  refine impl_con_j0 op l _ ?_
  rw [Bool.eq_iff_iff]
  simp only [bne_iff_ne, ne_eq, decide_eq_true_eq]
  omega
 ·simp only [if_neg c1]; exact impl_con_j0 op l _ (decide_eq_true (.inl c1)).symm

/-- Whether an instruction is ok. -/
def lok (c op : Int) (l : List S55) : Bool := if c < 1 ∨ c > 11 then false else if c ≤ 3 then con op l else if c = 10 then coil op l else (op == 0 && (l.length : Int) == 0)
theorem lok_j0 (c op : Int) (l : List S55) (b : Bool) (hb : b = decide (c < 1 ∨ c > 11)) : Ev (fun k => spec_ListOk.j0 k b c op l) (lok c op l) := by
 unfold lok
 by_cases h : c < 1 ∨ c > 11
 ·rw [decide_eq_true h] at hb
  subst hb
  rw [if_pos h]
  exact Ev.step (f := fun _ => some false) (fun k => by simp only [spec_ListOk.j0, if_true]) (Ev.now _)
 ·rw [decide_eq_false h] at hb
  subst hb
  rw [if_neg h]
  by_cases h3 : c ≤ 3
  ·rw [if_pos h3]
   refine Ev.step (f := fun k => (spec_ElemIsContact.f k op l).bind fun t => some t) (fun k => by simp only [spec_ListOk.j0, if_neg (show ¬ (false = true) by decide), if_pos h3]) ?_
   exact Ev.bind (spec_con_ev op l) (Ev.now _)
  ·rw [if_neg h3]
   refine Ev.step (f := fun _ => some _) (fun k => ?_) (Ev.now _)
   simp only [spec_ListOk.j0, if_neg (show ¬ (false = true) by decide), if_neg h3, spec_ElemIsCoil.f, Option.bind_some]
   by_cases h10 : c = 10
   ·rw [if_pos h10, if_pos h10]
   ·rw [if_neg h10, if_neg h10]
    by_cases h0 : op = 0
    ·rw [if_pos h0, h0]; rfl
    ·rw [if_neg h0, show (op == 0) = false from beq_eq_false_iff_ne.mpr h0]; rfl
theorem spec_lok_ev (c op : Int) (l : List S55) : Ev (fun k => spec_ListOk.f k c op l) (lok c op l) := by
 unfold spec_ListOk.f
 by_cases h : c < 1
 ·simp only [if_pos h]; exact lok_j0 c op l _ (decide_eq_true (Or.inl h)).symm
 ·simp only [if_neg h]; exact lok_j0 c op l _ (by rw [decide_eq_decide]; omega)

theorem impl_lok_ev (c op : Int) (l : List S55) : Ev (fun k => impl_ListOk.f k c op l) (lok c op l) := by
 unfold impl_ListOk.f lok
 simp only [in_eq, Option.bind_some, decide_eq_true_eq, impl_ElemIsCoil.f, impl_Elem_bare.f]
 by_cases h3 : 1 ≤ c ∧ c ≤ 3
 ·simp only [if_pos h3, if_neg (show ¬ (c < 1 ∨ c > 11) by omega), if_pos h3.2]
  exact Ev.bind (impl_con_ev op l) (Ev.now _)
 ·simp only [if_neg h3]
  refine Ev.congr (f := fun _ => some _) (fun k => ?_) (Ev.now _)
  by_cases h10 : c = 10
  ·rw [if_pos h10, if_neg (by omega), if_neg (by omega), if_pos h10]
  ·rw [if_neg h10]
   by_cases h4 : 4 ≤ c ∧ c ≤ 11
   ·rw [if_pos h4, if_neg (show ¬ (c < 1 ∨ c > 11) by omega), if_neg (show ¬ c ≤ 3 by omega), if_neg h10]
    by_cases h0 : op = 0
    ·rw [if_pos h0, h0]; rfl
    ·rw [if_neg h0, show (op == 0) = false from beq_eq_false_iff_ne.mpr h0]; rfl
   ·rw [if_neg h4, if_pos (by omega)]

def nds (c : Int) : Int := if c = 1 then 0 else if c = 4 ∨ c = 5 then 2 else 1
theorem spec_nds (c : Int) : spec_l12Needs.f c = some (nds c) := by
 unfold spec_l12Needs.f nds
 repeat' split
 all_goals first | rfl | omega

theorem impl_nds (c : Int) : impl_needs.f c = some (nds c) := by
 unfold impl_needs.f nds
 repeat' split
 all_goals first | rfl | omega

/-- What is wrong with an entry whose element is ok (or not): b bits, f forks, whether a coil or a fork is ahead, whether a coil is. -/
def wrg (ok : Bool) (b f : Int) (bs cl : Bool) (c : Int) : Int := if ok = false then 2 else if b < nds c then 3 else if c = 1 ∧ 16 ≤ b then 4 else if 7 ≤ c ∧ 1 < b then 5 else if bs = true ∧ (((c = 3 ∨ c = 6) ∧ b = 1) ∨ (c = 5 ∧ b = 2)) then 6 else if (c = 7 ∧ 8 ≤ f) ∨ ((c = 8 ∨ c = 9) ∧ f = 0) ∨ (c = 11 ∧ f ≠ 0) then 7 else if (c = 8 ∨ c = 9 ∨ c = 11) ∧ cl = false then 8 else 0
theorem wrg_j6 (c b f : Int) (bs cl : Bool) : Ev (fun k => spec_l12Wrong.j6 k c false b f bs cl) (if (c = 8 ∨ c = 9 ∨ c = 11) ∧ cl = false then 8 else 0) := by
 refine Ev.step (f := fun _ => some _) (fun k => ?_) (Ev.now _)
 simp only [spec_l12Wrong.j6, if_neg (show ¬ (false = true) by decide)]
 cases cl
 ·repeat' split
  all_goals first | rfl | (exfalso; simp at *; done) | (exfalso; simp at *; omega)
 ·repeat' split
  all_goals first | rfl | (exfalso; simp at *; done) | (exfalso; simp at *; omega)
theorem wrg_j5 (c b f : Int) (bs cl : Bool) (x : Bool) (hx : x = decide ((c = 8 ∨ c = 9) ∧ f = 0)) (h7 : ¬ (c = 7 ∧ 8 ≤ f)) (hf : 0 ≤ f) : Ev (fun k => spec_l12Wrong.j5 k c x b f bs cl) (if (c = 7 ∧ 8 ≤ f) ∨ ((c = 8 ∨ c = 9) ∧ f = 0) ∨ (c = 11 ∧ f ≠ 0) then 7 else if (c = 8 ∨ c = 9 ∨ c = 11) ∧ cl = false then 8 else 0) := by
 by_cases h : (c = 8 ∨ c = 9) ∧ f = 0
 ·rw [decide_eq_true h] at hx
  subst hx
  rw [if_pos (.inr (.inl h))]
  exact Ev.step (f := fun _ => some 7) (fun k => by simp only [spec_l12Wrong.j5, if_true]) (Ev.now _)
 ·rw [decide_eq_false h] at hx
  subst hx
  by_cases h11 : c = 11 ∧ f ≠ 0
  ·rw [if_pos (.inr (.inr h11))]
   refine Ev.step (f := fun k => spec_l12Wrong.j6 k c true b f bs cl) (fun k => by simp only [spec_l12Wrong.j5, if_neg (show ¬ (false = true) by decide), if_pos h11.1, decide_eq_true (show f > 0 by omega)]) ?_
   exact Ev.step (f := fun _ => some 7) (fun k => by simp only [spec_l12Wrong.j6, if_true]) (Ev.now _)
  ·rw [if_neg (by omega)]
   refine Ev.step (f := fun k => spec_l12Wrong.j6 k c false b f bs cl) (fun k => ?_) (wrg_j6 c b f bs cl)
   simp only [spec_l12Wrong.j5, if_neg (show ¬ (false = true) by decide)]
   split
   ·rw [decide_eq_false (by omega)]
   ·rfl
theorem wrg_j4 (c b f : Int) (bs cl : Bool) (x : Bool) (hx : x = decide (c = 7 ∧ 8 ≤ f)) (hf : 0 ≤ f) : Ev (fun k => spec_l12Wrong.j4 k c x b f bs cl) (if (c = 7 ∧ 8 ≤ f) ∨ ((c = 8 ∨ c = 9) ∧ f = 0) ∨ (c = 11 ∧ f ≠ 0) then 7 else if (c = 8 ∨ c = 9 ∨ c = 11) ∧ cl = false then 8 else 0) := by
 by_cases h : c = 7 ∧ 8 ≤ f
 ·rw [decide_eq_true h] at hx
  subst hx
  rw [if_pos (.inl h)]
  exact Ev.step (f := fun _ => some 7) (fun k => by simp only [spec_l12Wrong.j4, if_true]) (Ev.now _)
 ·rw [decide_eq_false h] at hx
  subst hx
  refine Ev.step (f := fun k => spec_l12Wrong.j5 k c (decide ((c = 8 ∨ c = 9) ∧ f = 0)) b f bs cl) (fun k => ?_) (wrg_j5 c b f bs cl _ rfl h hf)
  simp only [spec_l12Wrong.j4, if_neg (show ¬ (false = true) by decide)]
  repeat' split
  all_goals
   congr 1
   rw [Bool.eq_iff_iff]
   simp only [beq_iff_eq, decide_eq_true_eq, Bool.false_eq_true, false_iff]
   omega
theorem wrg_j3 (c b f : Int) (bs cl : Bool) (x : Bool) (hx : x = decide (bs = true ∧ (((c = 3 ∨ c = 6) ∧ b = 1) ∨ (c = 5 ∧ b = 2)))) (hf : 0 ≤ f) (hf8 : f ≤ 8) : Ev (fun k => spec_l12Wrong.j3 k c x b f bs cl) (if bs = true ∧ (((c = 3 ∨ c = 6) ∧ b = 1) ∨ (c = 5 ∧ b = 2)) then 6 else if (c = 7 ∧ 8 ≤ f) ∨ ((c = 8 ∨ c = 9) ∧ f = 0) ∨ (c = 11 ∧ f ≠ 0) then 7 else if (c = 8 ∨ c = 9 ∨ c = 11) ∧ cl = false then 8 else 0) := by
 by_cases h : bs = true ∧ (((c = 3 ∨ c = 6) ∧ b = 1) ∨ (c = 5 ∧ b = 2))
 ·rw [decide_eq_true h] at hx
  subst hx
  rw [if_pos h]
  exact Ev.step (f := fun _ => some 6) (fun k => by simp only [spec_l12Wrong.j3, if_true]) (Ev.now _)
 ·rw [decide_eq_false h] at hx
  subst hx
  rw [if_neg h]
  refine Ev.step (f := fun k => spec_l12Wrong.j4 k c (decide (c = 7 ∧ 8 ≤ f)) b f bs cl) (fun k => ?_) (wrg_j4 c b f bs cl _ rfl hf)
  simp only [spec_l12Wrong.j3, if_neg (show ¬ (false = true) by decide)]
  split
  all_goals
   congr 1
   rw [Bool.eq_iff_iff]
   simp only [beq_iff_eq, decide_eq_true_eq, Bool.false_eq_true, false_iff]
   omega
theorem wrg_j2 (c b f : Int) (bs cl : Bool) (x : Bool) (hx : x = decide (7 ≤ c ∧ 1 < b)) (hf : 0 ≤ f) (hf8 : f ≤ 8) : Ev (fun k => spec_l12Wrong.j2 k c (if c = 5 then 2 else 1) x b f bs cl) (if 7 ≤ c ∧ 1 < b then 5 else if bs = true ∧ (((c = 3 ∨ c = 6) ∧ b = 1) ∨ (c = 5 ∧ b = 2)) then 6 else if (c = 7 ∧ 8 ≤ f) ∨ ((c = 8 ∨ c = 9) ∧ f = 0) ∨ (c = 11 ∧ f ≠ 0) then 7 else if (c = 8 ∨ c = 9 ∨ c = 11) ∧ cl = false then 8 else 0) := by
 by_cases h : 7 ≤ c ∧ 1 < b
 ·rw [decide_eq_true h] at hx
  subst hx
  rw [if_pos h]
  exact Ev.step (f := fun _ => some 5) (fun k => by simp only [spec_l12Wrong.j2, if_true]) (Ev.now _)
 ·rw [decide_eq_false h] at hx
  subst hx
  rw [if_neg h]
  refine Ev.step (f := fun k => spec_l12Wrong.j3 k c (decide (bs = true ∧ (((c = 3 ∨ c = 6) ∧ b = 1) ∨ (c = 5 ∧ b = 2)))) b f bs cl) (fun k => ?_) (wrg_j3 c b f bs cl _ rfl hf hf8)
  simp only [spec_l12Wrong.j2, if_neg (show ¬ (false = true) by decide)]
  cases bs
  ·simp
  ·simp only [if_true, true_and]
   repeat' split
   all_goals first | (congr 1; rw [Bool.eq_iff_iff]; simp only [beq_iff_eq, decide_eq_true_eq, Bool.false_eq_true, false_iff, true_iff]; omega) | omega
theorem spec_wrg_ev (b f : Int) (bs cl : Bool) (c op : Int) (l : List S55) (hb : b ≤ 16) (hf : 0 ≤ f) (hf8 : f ≤ 8) : Ev (fun k => spec_l12Wrong.f k b f bs cl c op l) (wrg (lok c op l) b f bs cl c) := by
 have key : ∀ x : Bool, x = decide (7 ≤ c) → Ev (fun k => spec_l12Wrong.j0 k c x (if c = 5 then 2 else 1) b f bs cl c op l) (wrg (lok c op l) b f bs cl c) := by
  intro x hx
  refine Ev.step (f := fun k => (spec_ListOk.f k c op l).bind fun t152 => (if t152 = true then (if b < nds c then (some 3) else (if c = 1 then (spec_l12Wrong.j1 k c x (if c = 5 then 2 else 1) (b == 16) b f bs cl) else (spec_l12Wrong.j1 k c x (if c = 5 then 2 else 1) false b f bs cl))) else (some 2))) (fun k => by simp only [spec_l12Wrong.j0, spec_nds, Option.bind_some]) (Ev.bind (spec_lok_ev c op l) ?_)
  unfold wrg
  cases lok c op l
  ·exact Ev.now _
  ·simp only [if_true, if_neg (show ¬ (true = false) by decide)]
   by_cases h3 : b < nds c
   ·simp only [if_pos h3]; exact Ev.now _
   ·simp only [if_neg h3]
    have j1 : ∀ y : Bool, y = decide (c = 1 ∧ 16 ≤ b) → Ev (fun k => spec_l12Wrong.j1 k c x (if c = 5 then 2 else 1) y b f bs cl) (if c = 1 ∧ 16 ≤ b then 4 else if 7 ≤ c ∧ 1 < b then 5 else if bs = true ∧ (((c = 3 ∨ c = 6) ∧ b = 1) ∨ (c = 5 ∧ b = 2)) then 6 else if (c = 7 ∧ 8 ≤ f) ∨ ((c = 8 ∨ c = 9) ∧ f = 0) ∨ (c = 11 ∧ f ≠ 0) then 7 else if (c = 8 ∨ c = 9 ∨ c = 11) ∧ cl = false then 8 else 0) := by
     intro y hy
     by_cases h : c = 1 ∧ 16 ≤ b
     ·rw [decide_eq_true h] at hy
      subst hy
      rw [if_pos h]
      exact Ev.step (f := fun _ => some 4) (fun k => by simp only [spec_l12Wrong.j1, if_true]) (Ev.now _)
     ·rw [decide_eq_false h] at hy
      subst hy
      rw [if_neg h]
      refine Ev.step (f := fun k => spec_l12Wrong.j2 k c (if c = 5 then 2 else 1) (decide (7 ≤ c ∧ 1 < b)) b f bs cl) (fun k => ?_) (wrg_j2 c b f bs cl _ rfl hf hf8)
      simp only [spec_l12Wrong.j1, if_neg (show ¬ (false = true) by decide), hx, decide_eq_true_eq]
      split
      all_goals
       congr 1
       rw [Bool.eq_iff_iff]
       simp only [decide_eq_true_eq, Bool.false_eq_true, false_iff]
       omega
    by_cases h1 : c = 1
    ·have hj := j1 (b == 16) (by rw [Bool.eq_iff_iff]; simp only [beq_iff_eq, decide_eq_true_eq]; omega)
     simp only [if_pos h1]; exact hj
    ·have hj := j1 false (decide_eq_false (fun h => h1 h.1)).symm
     simp only [if_neg h1]; exact hj
 unfold spec_l12Wrong.f
 have hk := key (decide (c ≥ 7)) (by rw [decide_eq_decide])
 by_cases h5 : c = 5
 ·simp only [if_pos h5] at hk ⊢; exact hk
 ·simp only [if_neg h5] at hk ⊢; exact hk

theorem iwr_j4 (c : Int) (cl : Bool) (x : Bool) : Ev (fun k => impl_SureState_wrong.j4 k cl c x) (if x = true then 7 else if (c = 8 ∨ c = 9 ∨ c = 11) ∧ cl = false then 8 else 0) := by
 refine Ev.step (f := fun _ => some _) (fun k => ?_) (Ev.now _)
 simp only [impl_SureState_wrong.j4]
 cases x
 ·simp only [if_neg (show ¬ (false = true) by decide)]
  cases cl
  ·repeat' split
   all_goals first | rfl | (exfalso; simp at *; done) | (exfalso; simp at *; omega)
  ·repeat' split
   all_goals first | rfl | (exfalso; simp at *; done) | (exfalso; simp at *; omega)
 ·rfl
theorem iwr_j3 (c b f : Int) (cl : Bool) (x : Bool) (hx : x = decide (c = 7 ∧ 8 ≤ f)) : Ev (fun k => impl_SureState_wrong.j3 k cl c x b f) (if (c = 7 ∧ 8 ≤ f) ∨ ((c = 8 ∨ c = 9) ∧ f = 0) ∨ (c = 11 ∧ f ≠ 0) then 7 else if (c = 8 ∨ c = 9 ∨ c = 11) ∧ cl = false then 8 else 0) := by
 have e : (if (c = 7 ∧ 8 ≤ f) ∨ ((c = 8 ∨ c = 9) ∧ f = 0) ∨ (c = 11 ∧ f ≠ 0) then (7 : Int) else if (c = 8 ∨ c = 9 ∨ c = 11) ∧ cl = false then 8 else 0) = if decide ((c = 7 ∧ 8 ≤ f) ∨ ((c = 8 ∨ c = 9) ∧ f = 0) ∨ (c = 11 ∧ f ≠ 0)) = true then 7 else if (c = 8 ∨ c = 9 ∨ c = 11) ∧ cl = false then 8 else 0 := by simp only [decide_eq_true_eq]
 rw [e]
 refine Ev.step (f := fun k => impl_SureState_wrong.j4 k cl c (decide ((c = 7 ∧ 8 ≤ f) ∨ ((c = 8 ∨ c = 9) ∧ f = 0) ∨ (c = 11 ∧ f ≠ 0)))) (fun k => ?_) (iwr_j4 c cl _)
 simp only [impl_SureState_wrong.j3, hx, decide_eq_true_eq]
 repeat' split
 all_goals
  congr 1
  rw [Bool.eq_iff_iff]
  simp only [beq_iff_eq, bne_iff_ne, ne_eq, decide_eq_true_eq, Bool.false_eq_true, false_iff]
  omega
theorem iwr_j2 (c b f : Int) (bs cl : Bool) (x : Bool) (hx : x = decide (bs = true ∧ (((c = 3 ∨ c = 6) ∧ b = 1) ∨ (c = 5 ∧ b = 2)))) : Ev (fun k => impl_SureState_wrong.j2 k cl c x b f) (if bs = true ∧ (((c = 3 ∨ c = 6) ∧ b = 1) ∨ (c = 5 ∧ b = 2)) then 6 else if (c = 7 ∧ 8 ≤ f) ∨ ((c = 8 ∨ c = 9) ∧ f = 0) ∨ (c = 11 ∧ f ≠ 0) then 7 else if (c = 8 ∨ c = 9 ∨ c = 11) ∧ cl = false then 8 else 0) := by
 by_cases h : bs = true ∧ (((c = 3 ∨ c = 6) ∧ b = 1) ∨ (c = 5 ∧ b = 2))
 ·rw [decide_eq_true h] at hx
  subst hx
  rw [if_pos h]
  exact Ev.step (f := fun _ => some 6) (fun k => by simp only [impl_SureState_wrong.j2, if_true]) (Ev.now _)
 ·rw [decide_eq_false h] at hx
  subst hx
  rw [if_neg h]
  refine Ev.step (f := fun k => impl_SureState_wrong.j3 k cl c (decide (c = 7 ∧ 8 ≤ f)) b f) (fun k => ?_) (iwr_j3 c b f cl _ rfl)
  simp only [impl_SureState_wrong.j2, if_neg (show ¬ (false = true) by decide)]
  split
  all_goals
   congr 1
   rw [Bool.eq_iff_iff]
   simp only [decide_eq_true_eq, Bool.false_eq_true, false_iff]
   omega
theorem iwr_j1 (c b f : Int) (bs cl : Bool) (x : Bool) (hx : x = decide (7 ≤ c ∧ 1 < b)) : Ev (fun k => impl_SureState_wrong.j1 k bs cl c x b f) (if 7 ≤ c ∧ 1 < b then 5 else if bs = true ∧ (((c = 3 ∨ c = 6) ∧ b = 1) ∨ (c = 5 ∧ b = 2)) then 6 else if (c = 7 ∧ 8 ≤ f) ∨ ((c = 8 ∨ c = 9) ∧ f = 0) ∨ (c = 11 ∧ f ≠ 0) then 7 else if (c = 8 ∨ c = 9 ∨ c = 11) ∧ cl = false then 8 else 0) := by
 by_cases h : 7 ≤ c ∧ 1 < b
 ·rw [decide_eq_true h] at hx
  subst hx
  rw [if_pos h]
  exact Ev.step (f := fun _ => some 5) (fun k => by simp only [impl_SureState_wrong.j1, if_true]) (Ev.now _)
 ·rw [decide_eq_false h] at hx
  subst hx
  rw [if_neg h]
  refine Ev.step (f := fun k => impl_SureState_wrong.j2 k cl c (decide (bs = true ∧ (((c = 3 ∨ c = 6) ∧ b = 1) ∨ (c = 5 ∧ b = 2)))) b f) (fun k => ?_) (iwr_j2 c b f bs cl _ rfl)
  simp only [impl_SureState_wrong.j1, if_neg (show ¬ (false = true) by decide)]
  cases bs
  ·simp
  ·simp only [if_true, true_and]
   repeat' split
   all_goals first | (congr 1; rw [Bool.eq_iff_iff]; simp only [beq_iff_eq, decide_eq_true_eq, Bool.false_eq_true, false_iff, true_iff]; omega) | omega
theorem impl_wrg_ev (b f : Int) (bs cl : Bool) (c op : Int) (l : List S55) : Ev (fun k => impl_SureState_wrong.f k b f c op l bs cl) (wrg (lok c op l) b f bs cl c) := by
 unfold impl_SureState_wrong.f wrg
 refine Ev.bind (impl_lok_ev c op l) ?_
 cases lok c op l
 ·exact Ev.now _
 ·simp only [if_true, if_neg (show ¬ (true = false) by decide), impl_nds, Option.bind_some]
  by_cases h3 : b < nds c
  ·simp only [if_pos h3]; exact Ev.now _
  ·simp only [if_neg h3]
   have j0 : ∀ y : Bool, y = decide (c = 1 ∧ 16 ≤ b) → Ev (fun k => impl_SureState_wrong.j0 k bs cl c y b f) (if c = 1 ∧ 16 ≤ b then 4 else if 7 ≤ c ∧ 1 < b then 5 else if bs = true ∧ (((c = 3 ∨ c = 6) ∧ b = 1) ∨ (c = 5 ∧ b = 2)) then 6 else if (c = 7 ∧ 8 ≤ f) ∨ ((c = 8 ∨ c = 9) ∧ f = 0) ∨ (c = 11 ∧ f ≠ 0) then 7 else if (c = 8 ∨ c = 9 ∨ c = 11) ∧ cl = false then 8 else 0) := by
    intro y hy
    by_cases h : c = 1 ∧ 16 ≤ b
    ·rw [decide_eq_true h] at hy
     subst hy
     rw [if_pos h]
     exact Ev.step (f := fun _ => some 4) (fun k => by simp only [impl_SureState_wrong.j0, if_true]) (Ev.now _)
    ·rw [decide_eq_false h] at hy
     subst hy
     rw [if_neg h]
     refine Ev.step (f := fun k => impl_SureState_wrong.j1 k bs cl c (decide (7 ≤ c ∧ 1 < b)) b f) (fun k => ?_) (iwr_j1 c b f bs cl _ rfl)
     simp only [impl_SureState_wrong.j0, if_neg (show ¬ (false = true) by decide)]
     split
     all_goals
      congr 1
      rw [Bool.eq_iff_iff]
      simp only [decide_eq_true_eq, Bool.false_eq_true, false_iff]
      omega
   by_cases h1 : c = 1
   ·have hj := j0 (decide (b ≥ 16)) (by rw [decide_eq_decide]; omega)
    simp only [if_pos h1]; exact hj
   ·have hj := j0 false (decide_eq_false (fun h => h1 h.1)).symm
    simp only [if_neg h1]; exact hj

def nb (b c : Int) : Int := if c = 1 then b + 1 else if c = 4 ∨ c = 5 then b - 1 else if c = 11 then 0 else b
def nf (f c : Int) : Int := if c = 7 then f + 1 else if c = 9 then f - 1 else if c = 11 then 0 else f
def nbs (bs : Bool) (c : Int) : Bool := decide (c ≠ 11 ∧ (bs = true ∨ c = 10 ∨ c = 7))
theorem nxt_j0 (b f : Int) (bs cl : Bool) (c : Int) (x : Bool) (hx : x = decide (c = 4 ∨ c = 5)) (h1 : c ≠ 1) (hb : 0 ≤ b) (hb2 : b ≤ 16) (hf : 0 ≤ f) (hf8 : f ≤ 8) : Ev (fun k => spec_l12Next.j0 k c c x b f bs cl) (nb b c, nf f c, nbs bs c, (c == 10)) := by
 refine Ev.step (f := fun _ => some _) (fun k => ?_) (Ev.now _)
 have w1 : wrap64 (b - 1) = b - 1 := wrap64_in (by omega) (by omega)
 have w2 : wrap64 (f + 1) = f + 1 := wrap64_in (by omega) (by omega)
 have w3 : wrap64 (f - 1) = f - 1 := wrap64_in (by omega) (by omega)
 simp only [spec_l12Next.j0, hx, decide_eq_true_eq, w1, w2, w3]
 unfold nb nf nbs
 cases bs
 ·simp only [if_neg (show ¬ (false = true) by decide)]
  repeat' split
  all_goals first | omega | (simp [*]; done) | (simp only [Option.some.injEq, Prod.mk.injEq, true_and, and_true]; rw [Bool.eq_iff_iff]; simp only [beq_iff_eq, decide_eq_true_eq, Bool.false_eq_true, false_or, true_iff, false_iff]; omega)
 ·simp only [if_true]
  repeat' split
  all_goals first | omega | (simp [*]; done) | (simp only [Option.some.injEq, Prod.mk.injEq, true_and, and_true]; rw [Bool.eq_iff_iff]; simp only [beq_iff_eq, decide_eq_true_eq, true_iff, false_iff]; omega)
theorem spec_nxt_ev (b f : Int) (bs cl : Bool) (c : Int) (hb : 0 ≤ b) (hb2 : b ≤ 16) (hf : 0 ≤ f) (hf8 : f ≤ 8) : Ev (fun k => spec_l12Next.f k b f bs cl c) (nb b c, nf f c, nbs bs c, (c == 10)) := by
 unfold spec_l12Next.f
 by_cases h1 : c = 1
 ·have w1 : wrap64 (b + 1) = b + 1 := wrap64_in (by omega) (by omega)
  subst h1
  simp only [w1, if_pos (show (1 : Int) = 1 from rfl), if_neg (show ¬ ((1 : Int) = 10) by decide)]
  refine Ev.congr (f := fun _ => some _) (fun k => ?_) (Ev.now _)
  cases bs <;> rfl
 ·simp only [if_neg h1]
  by_cases h4 : c = 4
  ·simp only [if_pos h4]; exact nxt_j0 b f bs cl c _ (by rw [Bool.eq_iff_iff]; simp only [beq_iff_eq, decide_eq_true_eq]; omega) h1 hb hb2 hf hf8
  ·simp only [if_neg h4]; exact nxt_j0 b f bs cl c _ (by rw [Bool.eq_iff_iff]; simp only [beq_iff_eq, decide_eq_true_eq]; omega) h1 hb hb2 hf hf8
theorem wrg_next {ok bs cl : Bool} {b f c : Int} (h : wrg ok b f bs cl c = 0) (hb : 0 ≤ b) (hb2 : b ≤ 16) (hf : 0 ≤ f) (hf8 : f ≤ 8) : (0 ≤ nb b c ∧ nb b c ≤ 16) ∧ (0 ≤ nf f c ∧ nf f c ≤ 8) ∧ (c = 11 → b = 1 ∧ f = 0) := by
 unfold wrg nds at h
 unfold nb nf
 repeat' split at h
 all_goals first | (exfalso; omega) | (refine ⟨⟨?_, ?_⟩, ⟨?_, ?_⟩, ?_⟩ <;> (repeat' split) <;> omega)
theorem wrg_ge (ok bs cl : Bool) (b f c : Int) : 0 ≤ wrg ok b f bs cl c := by
 unfold wrg
 repeat' split
 all_goals omega

theorem impl_nxt_ev (b f : Int) (c : Int) (hb : 0 ≤ b) (hb2 : b ≤ 16) (hf : 0 ≤ f) (hf8 : f ≤ 8) (h11 : c = 11 → b = 1 ∧ f = 0) : Ev (fun k => impl_SureState_behind.f k b f c) (nb b c, nf f c) := by
 have w0 : wrap64 (b + 1) = b + 1 := wrap64_in (by omega) (by omega)
 have w1 : wrap64 (b - 1) = b - 1 := wrap64_in (by omega) (by omega)
 have w2 : wrap64 (f + 1) = f + 1 := wrap64_in (by omega) (by omega)
 have w3 : wrap64 (f - 1) = f - 1 := wrap64_in (by omega) (by omega)
 have j0 : ∀ x : Bool, x = decide (c = 4 ∨ c = 5 ∨ c = 11) → c ≠ 1 → Ev (fun k => impl_SureState_behind.j0 k c x b f) (nb b c, nf f c) := by
  intro x hx h1
  refine Ev.step (f := fun _ => some _) (fun k => ?_) (Ev.now _)
  simp only [impl_SureState_behind.j0, hx, decide_eq_true_eq, w1, w2, w3]
  unfold nb nf
  by_cases c11 : c = 11
  ·obtain ⟨rfl, rfl⟩ := h11 c11
   subst c11
   rfl
  ·repeat' split
   all_goals first | rfl | omega
 unfold impl_SureState_behind.f
 by_cases h1 : c = 1
 ·simp only [if_pos h1, w0]
  unfold nb nf
  rw [if_pos h1, if_neg (by omega), if_neg (by omega), if_neg (by omega)]
  exact Ev.now _
 ·simp only [if_neg h1]
  by_cases h4 : c = 4
  ·simp only [if_pos h4]; exact j0 _ (by rw [Bool.eq_iff_iff]; simp only [beq_iff_eq, decide_eq_true_eq]; omega) h1
  ·simp only [if_neg h4]
   by_cases h5 : c = 5
   ·simp only [if_pos h5]; exact j0 _ (by rw [Bool.eq_iff_iff]; simp only [beq_iff_eq, decide_eq_true_eq]; omega) h1
   ·simp only [if_neg h5]; exact j0 _ (by rw [Bool.eq_iff_iff]; simp only [beq_iff_eq, decide_eq_true_eq]; omega) h1

/-- What is wrong with a list, from an entry on. -/
def chk (n : Nat) : List S38 → Nat → Int → Int → Bool → Bool → Int × Int
 | [], _, b, _, _, _ => if 0 < b then (9, (n : Int)) else (0, 0)
 | x :: l, i, b, f, bs, cl => if wrg (lok x.f0 x.f1.f0 x.f1.f1) b f bs cl x.f0 = 0 then chk n l (i + 1) (nb b x.f0) (nf f x.f0) (nbs bs x.f0) (x.f0 == 10) else (wrg (lok x.f0 x.f1.f0 x.f1.f1) b f bs cl x.f0, (i : Int))
def sck (l : List S38) : Int × Int := if l.length > 1000 then (1, 0) else chk l.length l 0 0 0 false false
theorem spec_chk (l : List S38) (hl : l.length ≤ 1000) (d : Nat) : ∀ (i : Nat) (b f : Int) (bs cl : Bool), l.length - i = d → i ≤ l.length → 0 ≤ b → b ≤ 16 → 0 ≤ f → f ≤ 8 →
  Ev (fun k => spec_SureCheck.l0 k l (i : Int) b f bs cl) (chk l.length (l.drop i) i b f bs cl) := by
 induction d with
 | zero =>
  intro i b f bs cl hd hi hb hb2 hf hf8
  obtain rfl : i = l.length := by omega
  rw [List.drop_length]
  refine Ev.step (f := fun _ => some _) (fun k => ?_) (Ev.now _)
  simp only [spec_SureCheck.l0]
  rw [if_neg (by omega), chk]
  split <;> first | rfl | omega
 | succ d ih =>
  intro i b f bs cl hd hi hb hb2 hf hf8
  have hlt : i < l.length := by omega
  have w : wrap64 ((i : Int) + 1) = ((i + 1 : Nat) : Int) := by unfold wrap64; omega
  have hg : rd_T38 l (i : Int) = l[i] := by unfold rd_T38; rw [Int.toNat_natCast, getD_lt l _ i hlt]
  obtain ⟨p, hp⟩ : ∃ p, p = l[i] := ⟨_, rfl⟩
  rw [List.drop_eq_getElem_cons hlt, ← hp, chk]
  rw [← hp] at hg
  have hge := wrg_ge (lok p.f0 p.f1.f0 p.f1.f1) bs cl b f p.f0
  refine Ev.step (f := fun k => (spec_l12Wrong.f k b f bs cl p.f0 p.f1.f0 p.f1.f1).bind fun t159 => (if t159 > 0 then (some (t159, (i : Int))) else ((spec_l12Next.f k b f bs cl p.f0).bind fun bt161 => (spec_SureCheck.l0 k l ((i + 1 : Nat) : Int) bt161.1 bt161.2.1 bt161.2.2.1 bt161.2.2.2)))) (fun k => ?_) (Ev.bind (spec_wrg_ev b f bs cl _ _ _ hb2 hf hf8) ?_)
  ·simp only [spec_SureCheck.l0]
   rw [if_pos (by omega), if_pos (by omega), hg, w]
  ·by_cases c : wrg (lok p.f0 p.f1.f0 p.f1.f1) b f bs cl p.f0 = 0
   ·obtain ⟨n1, n2, _⟩ := wrg_next c hb hb2 hf hf8
    simp only [if_pos c, if_neg (show ¬ (wrg (lok p.f0 p.f1.f0 p.f1.f1) b f bs cl p.f0 > 0) by omega)]
    refine Ev.bind (spec_nxt_ev b f bs cl _ hb hb2 hf hf8) ?_
    exact ih (i + 1) _ _ _ _ (by omega) (by omega) n1.1 n1.2 n2.1 n2.2
   ·simp only [if_neg c, if_pos (show wrg (lok p.f0 p.f1.f0 p.f1.f1) b f bs cl p.f0 > 0 by omega)]; exact Ev.now _
theorem spec_sck (l : List S38) : Ev (fun k => spec_SureCheck.f k l) (sck l) := by
 unfold spec_SureCheck.f sck
 by_cases c : l.length > 1000
 ·simp only [if_pos c, if_pos (show (l.length : Int) > 1000 by omega)]; exact Ev.now _
 ·simp only [if_neg c, if_neg (show ¬ (l.length : Int) > 1000 by omega)]
  exact spec_chk l (by omega) l.length 0 0 0 false false (by omega) (by omega) (by decide) (by decide) (by decide) (by decide)

theorem impl_chk (l : List S38) (hl : l.length ≤ 1000) (d : Nat) : ∀ (i : Nat) (b f : Int) (bs cl : Bool), l.length - i = d → i ≤ l.length → 0 ≤ b → b ≤ 16 → 0 ≤ f → f ≤ 8 →
  Ev (fun k => impl_SureCheck.l0 k l bs cl l (l.length : Int) (i : Int) b f) (chk l.length (l.drop i) i b f bs cl) := by
 induction d with
 | zero =>
  intro i b f bs cl hd hi hb hb2 hf hf8
  obtain rfl : i = l.length := by omega
  rw [List.drop_length]
  refine Ev.step (f := fun _ => some _) (fun k => ?_) (Ev.now _)
  simp only [impl_SureCheck.l0]
  rw [if_neg (by omega), chk]
  repeat' split
  all_goals first | rfl | omega
 | succ d ih =>
  intro i b f bs cl hd hi hb hb2 hf hf8
  have hlt : i < l.length := by omega
  have w : wrap64 ((i : Int) + 1) = ((i + 1 : Nat) : Int) := by unfold wrap64; omega
  have hg : rd_T38 l (i : Int) = l[i] := by unfold rd_T38; rw [Int.toNat_natCast, getD_lt l _ i hlt]
  obtain ⟨p, hp⟩ : ∃ p, p = l[i] := ⟨_, rfl⟩
  rw [List.drop_eq_getElem_cons hlt, ← hp, chk]
  rw [← hp] at hg
  refine Ev.step (f := fun k => (impl_SureState_wrong.f k b f p.f0 p.f1.f0 p.f1.f1 bs cl).bind fun t270 => (if t270 = 0 then ((impl_SureState_behind.f k b f p.f0).bind fun bt271 => (impl_SureCheck.l0 k l (nbs bs p.f0) (p.f0 == 10) l (l.length : Int) ((i + 1 : Nat) : Int) bt271.1 bt271.2)) else (some (t270, (i : Int))))) (fun k => ?_) (Ev.bind (impl_wrg_ev b f bs cl _ _ _) ?_)
  ·simp only [impl_SureCheck.l0]
   rw [if_pos (by omega), if_pos (by omega), if_pos (by omega), hg, w]
   congr 1
   funext t270
   split
   ·congr 1
    funext bt
    have e : ∀ x : Bool, x = nbs bs p.f0 → impl_SureCheck.l0 k l x (p.f0 == 10) l (l.length : Int) ((i + 1 : Nat) : Int) bt.1 bt.2 = impl_SureCheck.l0 k l (nbs bs p.f0) (p.f0 == 10) l (l.length : Int) ((i + 1 : Nat) : Int) bt.1 bt.2 := fun x hx => by rw [hx]
    by_cases c11 : p.f0 = 11
    ·rw [if_pos c11]; exact e _ (by unfold nbs; simp [c11])
    ·rw [if_neg c11]
     by_cases cb : bs = true
     ·rw [if_pos cb]; exact e _ (by unfold nbs; simp [c11, cb])
     ·rw [if_neg cb]
      by_cases c10 : p.f0 = 10
      ·rw [if_pos c10]; exact e _ (by unfold nbs; simp [c10])
      ·rw [if_neg c10]; exact e _ (by unfold nbs; simp [c11, cb, c10]; rw [Bool.eq_iff_iff]; simp)
   ·rfl
  ·by_cases c : wrg (lok p.f0 p.f1.f0 p.f1.f1) b f bs cl p.f0 = 0
   ·obtain ⟨n1, n2, n3⟩ := wrg_next c hb hb2 hf hf8
    simp only [if_pos c]
    refine Ev.bind (impl_nxt_ev b f _ hb hb2 hf hf8 n3) ?_
    exact ih (i + 1) _ _ _ _ (by omega) (by omega) n1.1 n1.2 n2.1 n2.2
   ·simp only [if_neg c]; exact Ev.now _
theorem impl_sck (l : List S38) : Ev (fun k => impl_SureCheck.f k l) (sck l) := by
 unfold impl_SureCheck.f sck
 by_cases c : l.length > 1000
 ·simp only [if_pos c, if_pos (show (l.length : Int) > 1000 by omega)]; exact Ev.now _
 ·simp only [if_neg c, if_neg (show ¬ (l.length : Int) > 1000 by omega)]
  exact impl_chk l (by omega) l.length 0 0 0 false false (by omega) (by omega) (by decide) (by decide) (by decide) (by decide)

theorem eqSureFault_self (a b : Int) : laws_eqSureFault.f a b a b = some true := by unfold laws_eqSureFault.f; rw [if_pos rfl, if_pos rfl]

theorem holds (a : List S34) (hl : a.length ≤ maxLen) (hm : ∀ x ∈ a, x.f1.f1.length ≤ maxLen) : ∃ k, laws_FnExactSureCheck.f k a = some true := by
 refine Tells.rounds ?_
 unfold laws_FnExactSureCheck.f
 refine Tells.bind (szInstS_tells a 1048576 (by decide) (by decide) hl hm) fun r hr => ?_
 by_cases c : r < 0
 ·simp only [if_pos c]; exact Tells.now rfl
 ·simp only [if_neg c]
  obtain ⟨_, hl1, hm1⟩ := hr (by omega)
  have hx : (a.map cI).length ≤ 1048576 := by rw [List.length_map]; exact hl1
  have hy := cI_args a hm1
  refine Tells.bindEv (toInstS_ev a hl1 hm1) ?_
  refine Tells.bindEv (spec_sck _) ?_
  refine Tells.bindEv (toInstS_ev a hl1 hm1) ?_
  refine Tells.bindEv (impl_sck _) ?_
  simp only [eqSureFault_self, Option.bind_some, if_true]
  refine Tells.bindEv (toInstS_ev a hl1 hm1) ?_
  refine Tells.bindEv (eqInstS_self _ hx hy) ?_
  simp only [if_true]
  exact Tells.now rfl

end Go.Proofs.YtkmfdlcmdgdepaaDoor.BFnExactSureCheck
