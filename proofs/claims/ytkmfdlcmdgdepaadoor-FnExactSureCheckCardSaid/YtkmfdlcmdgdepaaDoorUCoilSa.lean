/- What spec.ElemIsCoil answers, and that it does. -/
import Derived.Test.YtkmfdlcmdgdepaaDoorProg
import Derived.Test.YtkmfdlcmdgdepaaDoorMW
import Derived.Test.YtkmfdlcmdgdepaaDoorUzTell
import Derived.WalkKit
import Derived.Deep.LoopGhost
import Derived.Deep.DeepCutAuto
import Derived.BigFrame
import Derived.Deep.QuietTactic
import Derived.BigQuiet
import Derived.Test.YtkmfdlcmdgdepaaDoorUx3
import Derived.Test.YtkmfdlcmdgdepaaDoorUx4
import Derived.Test.YtkmfdlcmdgdepaaDoorUx5
import Derived.Test.YtkmfdlcmdgdepaaDoorUx7
namespace Go.Proofs.YtkmfdlcmdgdepaaDoor.U
open Go Go.RowKit Go.Proofs.YtkmfdlcmdgdepaaDoor.Tell Go.Proofs.YtkmfdlcmdgdepaaDoorW Go.Proofs.YtkmfdlcmdgdepaaDoorW.PrintWords Go.Proofs.YtkmfdlcmdgdepaaDoorW.PrintLast Go.Proofs.YtkmfdlcmdgdepaaDoorW.PrintMore Go.Proofs.YtkmfdlcmdgdepaaDoor.MW
set_option linter.unusedVariables false
set_option linter.unusedSimpArgs false
set_option maxRecDepth 100000
/-- How many there are of a kind. -/
def dsz (k : Int) : Int := if k = 1 ∨ k = 2 ∨ k = 5 ∨ k = 9 then 32 else if k = 3 then 64 else if k = 4 ∨ k = 7 ∨ k = 8 ∨ k = 10 then 16 else if k = 6 then 5 else 0
theorem dsz_in {k : Int} (h : 0 < dsz k) : 1 ≤ k ∧ k ≤ 10 := by
 unfold dsz at h
 repeat' split at h
 all_goals omega

theorem spec_size_j1 (a : Int) (x : Bool) (hx : x = decide (a = 4 ∨ a = 7 ∨ a = 8 ∨ a = 10)) (hn : ¬ (a = 1 ∨ a = 2 ∨ a = 5 ∨ a = 9) ∧ a ≠ 3) : Ev (fun k => spec_DevSize.j1 k a x) (dsz a) := by
 refine Ev.step (f := fun _ => some (dsz a)) (fun k => ?_) (Ev.now _)
 simp only [spec_DevSize.j1, hx, decide_eq_true_eq]
 unfold dsz
 rw [if_neg hn.1, if_neg hn.2]
 repeat' split
 all_goals rfl
theorem spec_size_j0 (a : Int) (x : Bool) (hx : x = decide (a = 1 ∨ a = 2 ∨ a = 5 ∨ a = 9)) : Ev (fun k => spec_DevSize.j0 k a x) (dsz a) := by
 by_cases c : a = 1 ∨ a = 2 ∨ a = 5 ∨ a = 9
 ·refine Ev.step (f := fun _ => some (dsz a)) (fun k => ?_) (Ev.now _)
  simp only [spec_DevSize.j0, hx, decide_eq_true_eq, if_pos c]
  unfold dsz; rw [if_pos c]
 ·by_cases c3 : a = 3
  ·refine Ev.step (f := fun _ => some (dsz a)) (fun k => ?_) (Ev.now _)
   simp only [spec_DevSize.j0, hx, decide_eq_true_eq, if_neg c, if_pos c3]
   unfold dsz; rw [if_neg c, if_pos c3]
  ·refine Ev.step (f := fun k => spec_DevSize.j1 k a (decide (a = 4 ∨ a = 7 ∨ a = 8 ∨ a = 10))) (fun k => ?_) (spec_size_j1 a _ rfl ⟨c, c3⟩)
   simp only [spec_DevSize.j0, hx, decide_eq_true_eq, if_neg c, if_neg c3]
   repeat' split
   all_goals
    congr 1
    rw [Bool.eq_iff_iff]
    simp only [beq_iff_eq, decide_eq_true_eq]
    omega
theorem spec_size_ev (a : Int) : Ev (fun k => spec_DevSize.f k a) (dsz a) := by
 have key : ∀ b : Bool, b = decide (a = 1 ∨ a = 2 ∨ a = 5 ∨ a = 9) → Ev (fun k => spec_DevSize.j0 k a b) (dsz a) := fun b hb => spec_size_j0 a b hb
 unfold spec_DevSize.f
 by_cases c1 : a = 1
 ·simp only [if_pos c1]; exact key _ (by rw [Bool.eq_iff_iff]; simp only [beq_iff_eq, decide_eq_true_eq]; omega)
 simp only [if_neg c1]
 by_cases c2 : a = 2
 ·simp only [if_pos c2]; exact key _ (by rw [Bool.eq_iff_iff]; simp only [beq_iff_eq, decide_eq_true_eq]; omega)
 simp only [if_neg c2]
 by_cases c3 : a = 5
 ·simp only [if_pos c3]; exact key _ (by rw [Bool.eq_iff_iff]; simp only [beq_iff_eq, decide_eq_true_eq]; omega)
 simp only [if_neg c3]
 exact key _ (by rw [Bool.eq_iff_iff]; simp only [beq_iff_eq, decide_eq_true_eq]; omega)

/-- Whether an operand is ok. -/
def dok (a b c : Int) : Bool := if a = 11 then decide (-32768 ≤ b ∧ b ≤ 32767 ∧ c = 0) else if a = 12 then decide (-999999999 ≤ b ∧ b ≤ 999999999 ∧ 1 ≤ c ∧ c ≤ 6 ∧ (c = 1 ∨ Int.tmod b 10 ≠ 0)) else if a = 13 then decide (0 ≤ b ∧ b ≤ 3 ∧ c = 0) else decide (0 ≤ b ∧ b < dsz a ∧ c = 0)
theorem dok_in {a b c : Int} (h : dok a b c = true) : 1 ≤ a ∧ a ≤ 13 := by
 unfold dok at h
 split at h
 ·omega
 ·split at h
  ·omega
  ·split at h
   ·omega
   ·have := of_decide_eq_true h
    have := dsz_in (k := a) (by omega)
    omega
theorem spec_dok_ev (a b c : Int) : Ev (fun k => spec_DevOk.f k a b c) (dok a b c) := by
 unfold spec_DevOk.f dok
 by_cases c1 : a = 11
 ·simp only [if_pos c1]
  refine Ev.congr (f := fun _ => some _) (fun k => ?_) (Ev.now _)
  repeat' split
  all_goals
   rw [Option.some.injEq, Bool.eq_iff_iff]
   simp only [beq_iff_eq, decide_eq_true_eq, Bool.false_eq_true, false_iff, true_iff]
   omega
 simp only [if_neg c1]
 by_cases c2 : a = 12
 ·simp only [if_pos c2]
  refine Ev.congr (f := fun _ => some _) (fun k => ?_) (Ev.now _)
  generalize Int.tmod b 10 = q
  repeat' split
  all_goals
   rw [Option.some.injEq, Bool.eq_iff_iff]
   simp only [bne_iff_ne, ne_eq, decide_eq_true_eq, Bool.false_eq_true, false_iff, true_iff]
   omega
 simp only [if_neg c2]
 by_cases c3 : a = 13
 ·simp only [if_pos c3]
  refine Ev.congr (f := fun _ => some _) (fun k => ?_) (Ev.now _)
  repeat' split
  all_goals
   rw [Option.some.injEq, Bool.eq_iff_iff]
   simp only [beq_iff_eq, decide_eq_true_eq, Bool.false_eq_true, false_iff, true_iff]
   omega
 simp only [if_neg c3]
 by_cases c4 : b ≥ 0
 ·simp only [if_pos c4]
  refine Ev.bind (spec_size_ev a) ?_
  refine Ev.congr (f := fun _ => some _) (fun k => ?_) (Ev.now _)
  generalize dsz a = q
  split
  all_goals
   rw [Option.some.injEq, Bool.eq_iff_iff]
   simp only [beq_iff_eq, decide_eq_true_eq, Bool.false_eq_true, false_iff, true_iff]
   omega
 ·simp only [if_neg c4]
  rw [decide_eq_false (by omega)]
  exact Ev.now _

def isW (a b c : Int) : Bool := dok a b c && decide (a = 7 ∨ a = 8 ∨ a = 9 ∨ a = 11)
theorem spec_isW_ev (a b c : Int) : Ev (fun k => spec_DevIsWhole.f k a b c) (isW a b c) := by
 unfold spec_DevIsWhole.f isW
 refine Ev.bind (spec_dok_ev a b c) ?_
 cases dok a b c
 ·exact Ev.now _
 ·simp only [if_true, Bool.true_and]
  refine Ev.congr (f := fun _ => some _) (fun k => ?_) (Ev.now _)
  repeat' split
  all_goals
   rw [Option.some.injEq, Bool.eq_iff_iff]
   simp only [beq_iff_eq, decide_eq_true_eq, true_iff]
   omega

def isR (a b c : Int) : Bool := dok a b c && decide (a = 10 ∨ a = 12 ∨ a = 13)
theorem spec_isR_ev (a b c : Int) : Ev (fun k => spec_DevIsReal.f k a b c) (isR a b c) := by
 unfold spec_DevIsReal.f isR
 refine Ev.bind (spec_dok_ev a b c) ?_
 cases dok a b c
 ·exact Ev.now _
 ·simp only [if_true, Bool.true_and]
  refine Ev.congr (f := fun _ => some _) (fun k => ?_) (Ev.now _)
  repeat' split
  all_goals
   rw [Option.some.injEq, Bool.eq_iff_iff]
   simp only [beq_iff_eq, decide_eq_true_eq, true_iff]
   omega

def ar (x : Int) : Int := if x = 1 ∨ x = 2 ∨ (21 ≤ x ∧ x ≤ 23) ∨ x = 25 then 1 else if 31 ≤ x ∧ x ≤ 35 then 3 else if (1 ≤ x ∧ x ≤ 10) ∨ (21 ≤ x ∧ x ≤ 37) then 2 else 0
theorem sAr_j1 (x : Int) (b : Bool) (hb : b = decide (31 ≤ x ∧ x ≤ 35)) (h1 : ¬ (x = 1 ∨ x = 2 ∨ (21 ≤ x ∧ x ≤ 23) ∨ x = 25)) : Ev (fun k => spec_ElemArity.j1 k x b) (ar x) := by
 refine Ev.step (f := fun _ => some (ar x)) (fun k => ?_) (Ev.now _)
 simp only [spec_ElemArity.j1, hb, decide_eq_true_eq]
 unfold ar
 rw [if_neg h1]
 repeat' split
 all_goals first | rfl | omega
theorem sAr_j0 (x : Int) (b : Bool) (hb : b = decide (x = 1 ∨ x = 2 ∨ (21 ≤ x ∧ x ≤ 23) ∨ x = 25)) : Ev (fun k => spec_ElemArity.j0 k x x b) (ar x) := by
 by_cases h1 : x = 1 ∨ x = 2 ∨ (21 ≤ x ∧ x ≤ 23) ∨ x = 25
 ·refine Ev.step (f := fun _ => some (ar x)) (fun k => ?_) (Ev.now _)
  simp only [spec_ElemArity.j0, hb, decide_eq_true_eq, if_pos h1]
  unfold ar; rw [if_pos h1]
 ·refine Ev.step (f := fun k => spec_ElemArity.j1 k x (decide (31 ≤ x ∧ x ≤ 35))) (fun k => ?_) (sAr_j1 x _ rfl h1)
  simp only [spec_ElemArity.j0, hb, decide_eq_true_eq, if_neg h1]
  repeat' split
  all_goals
   congr 1
   rw [Bool.eq_iff_iff]
   simp only [beq_iff_eq, decide_eq_true_eq]
   omega
theorem sAr_ev (x : Int) : Ev (fun k => spec_ElemArity.f k x) (ar x) := by
 have key : ∀ b : Bool, b = decide (x = 1 ∨ x = 2 ∨ (21 ≤ x ∧ x ≤ 23) ∨ x = 25) → Ev (fun k => spec_ElemArity.j0 k x x b) (ar x) := fun b hb => sAr_j0 x b hb
 unfold spec_ElemArity.f
 by_cases c1 : x = 1
 ·simp only [if_pos c1]; exact key _ (by rw [Bool.eq_iff_iff]; simp only [beq_iff_eq, decide_eq_true_eq]; omega)
 simp only [if_neg c1]
 by_cases c2 : x = 2
 ·simp only [if_pos c2]; exact key _ (by rw [Bool.eq_iff_iff]; simp only [beq_iff_eq, decide_eq_true_eq]; omega)
 simp only [if_neg c2]
 by_cases c3 : x = 21
 ·simp only [if_pos c3]; exact key _ (by rw [Bool.eq_iff_iff]; simp only [beq_iff_eq, decide_eq_true_eq]; omega)
 simp only [if_neg c3]
 by_cases c4 : x = 22
 ·simp only [if_pos c4]; exact key _ (by rw [Bool.eq_iff_iff]; simp only [beq_iff_eq, decide_eq_true_eq]; omega)
 simp only [if_neg c4]
 by_cases c5 : x = 23
 ·simp only [if_pos c5]; exact key _ (by rw [Bool.eq_iff_iff]; simp only [beq_iff_eq, decide_eq_true_eq]; omega)
 simp only [if_neg c5]
 exact key _ (by rw [Bool.eq_iff_iff]; simp only [beq_iff_eq, decide_eq_true_eq]; omega)

/-- Whether an operand is ok and of one of two kinds. -/
def lk (x : S55) (k j : Int) : Bool := dok x.f0 x.f1 x.f2 && decide (x.f0 = k ∨ x.f0 = j)
def wW (x : S55) : Bool := isW x.f0 x.f1 x.f2
def wR (x : S55) : Bool := isR x.f0 x.f1 x.f2
/-- Whether a coil puts numbers of one sort into a register of that sort. -/
def reck (op : Int) (x : S55) (l : List S55) : Bool := (lk x 9 9 && l.all wW) || (lk x 10 10 && (l.all wR && decide (op ≠ 35)))
/-- Whether something is a coil. -/
def coil (op : Int) : List S55 → Bool
 | [x] => if op = 21 then lk x 2 3 else if op = 22 then lk x 2 3 || lk x 4 4 else if op = 23 then lk x 2 3 || (lk x 4 7 || lk x 8 8) else if op = 25 then lk x 4 4 else false
 | [x, y] => if op = 24 then lk x 2 3 && lk y 5 5 else if op = 26 ∨ op = 27 ∨ op = 28 then lk x 7 7 && (lk y 11 11 && decide (0 ≤ y.f1)) else if op = 29 then lk x 8 8 && (lk y 11 11 && decide (0 ≤ y.f1)) else if op = 36 then lk x 10 10 && wW y else if op = 37 then lk x 9 9 && wR y else if op = 30 then reck op x [y] else false
 | [x, y, z] => if 31 ≤ op ∧ op ≤ 35 then reck op x [y, z] else false
 | _ => false
theorem ar_coil {op : Int} (h : 21 ≤ op ∧ op ≤ 37) : ar op = if op = 21 ∨ op = 22 ∨ op = 23 ∨ op = 25 then 1 else if 31 ≤ op ∧ op ≤ 35 then 3 else 2 := by
 unfold ar
 by_cases c : op = 21 ∨ op = 22 ∨ op = 23 ∨ op = 25
 ·rw [if_pos c, if_pos (by omega)]
 ·rw [if_neg c, if_neg (by omega)]
  by_cases c2 : 31 ≤ op ∧ op ≤ 35
  ·rw [if_pos c2, if_pos c2]
  ·rw [if_neg c2, if_neg c2, if_pos (by omega)]
theorem coil_bad {op : Int} {l : List S55} (h : ¬ (21 ≤ op ∧ op ≤ 37) ∨ (l.length : Int) ≠ ar op) : coil op l = false := by
 have key : ∀ n : Int, (l.length : Int) = n → 21 ≤ op ∧ op ≤ 37 → (if op = 21 ∨ op = 22 ∨ op = 23 ∨ op = 25 then (1 : Int) else if 31 ≤ op ∧ op ≤ 35 then 3 else 2) = n → False := fun n h1 h2 h3 => by
  rcases h with h | h
  ·exact h h2
  ·rw [ar_coil h2, h3] at h; exact h h1
 rcases l with _ | ⟨x, _ | ⟨y, _ | ⟨z, _ | ⟨u, l⟩⟩⟩⟩
 ·rfl
 ·simp only [coil]
  have h1 : ¬ (op = 21 ∨ op = 22 ∨ op = 23 ∨ op = 25) := fun c => key 1 rfl (by omega) (if_pos c)
  rw [if_neg (by omega), if_neg (by omega), if_neg (by omega), if_neg (by omega)]
 ·simp only [coil]
  have h1 : ¬ (21 ≤ op ∧ op ≤ 37 ∧ ¬ (op = 21 ∨ op = 22 ∨ op = 23 ∨ op = 25) ∧ ¬ (31 ≤ op ∧ op ≤ 35)) := fun c => key 2 rfl (by omega) (by rw [if_neg c.2.2.1, if_neg c.2.2.2])
  rw [if_neg (by omega), if_neg (by omega), if_neg (by omega), if_neg (by omega), if_neg (by omega), if_neg (by omega)]
 ·simp only [coil]
  have h1 : ¬ (31 ≤ op ∧ op ≤ 35) := fun c => key 3 rfl (by omega) (by rw [if_neg (by omega), if_pos c])
  rw [if_neg h1]
 ·rfl
/-- What the length says. -/
theorem coil_len {op : Int} {l : List S55} (h : 21 ≤ op ∧ op ≤ 37) (hl : (l.length : Int) = ar op) :
  (∃ x, l = [x] ∧ (op = 21 ∨ op = 22 ∨ op = 23 ∨ op = 25)) ∨ (∃ x y, l = [x, y] ∧ (op = 24 ∨ op = 26 ∨ op = 27 ∨ op = 28 ∨ op = 29 ∨ op = 30 ∨ op = 36 ∨ op = 37)) ∨ (∃ x y z, l = [x, y, z] ∧ (op = 31 ∨ op = 32 ∨ op = 33 ∨ op = 34 ∨ op = 35)) := by
 rw [ar_coil h] at hl
 by_cases c : op = 21 ∨ op = 22 ∨ op = 23 ∨ op = 25
 ·rw [if_pos c] at hl
  rcases l with _ | ⟨x, _ | ⟨y, l⟩⟩
  ·simp at hl
  ·exact .inl ⟨x, rfl, c⟩
  ·simp at hl; omega
 ·rw [if_neg c] at hl
  by_cases c2 : 31 ≤ op ∧ op ≤ 35
  ·rw [if_pos c2] at hl
   rcases l with _ | ⟨x, _ | ⟨y, _ | ⟨z, _ | ⟨u, l⟩⟩⟩⟩
   ·simp at hl
   ·simp at hl
   ·simp at hl
   ·exact .inr (.inr ⟨x, y, z, rfl, by omega⟩)
   ·simp at hl; omega
  ·rw [if_neg c2] at hl
   rcases l with _ | ⟨x, _ | ⟨y, _ | ⟨z, l⟩⟩⟩
   ·simp at hl
   ·simp at hl
   ·exact .inr (.inl ⟨x, y, rfl, by omega⟩)
   ·simp at hl; omega
theorem l4Kind_ev (x : S55) (k j : Int) : Ev (fun n => spec_l4Kind.f n x.f0 x.f1 x.f2 k j) (lk x k j) := by
 unfold spec_l4Kind.f lk
 refine Ev.bind (spec_dok_ev _ _ _) ?_
 cases dok x.f0 x.f1 x.f2
 ·exact Ev.now _
 ·simp only [if_true, Bool.true_and]
  refine Ev.congr (f := fun _ => some _) (fun n => ?_) (Ev.now _)
  split
  all_goals
   rw [Option.some.injEq, Bool.eq_iff_iff]
   simp only [beq_iff_eq, decide_eq_true_eq, true_iff]
   omega
theorem calc_loop (op : Int) (x : S55) (l : List S55) (b : Bool) (hl : l.length ≤ 1000) (d : Nat) : ∀ i : Nat, l.length + 1 - i = d → 1 ≤ i → i ≤ l.length + 1 →
  Ev (fun k => spec_l4Calc.l0 k b (i : Int) op (x :: l)) (if b = true then (l.drop (i - 1)).all wW else (l.drop (i - 1)).all wR && decide (op ≠ 35)) := by
 induction d with
 | zero =>
  intro i hd h1 hi
  obtain rfl : i = l.length + 1 := by omega
  rw [Nat.add_sub_cancel, List.drop_length]
  refine Ev.step (f := fun _ => some _) (fun k => ?_) (Ev.now _)
  simp only [spec_l4Calc.l0]
  rw [if_neg (by simp only [List.length_cons]; omega)]
  cases b
  ·simp only [List.all_nil, Bool.true_and, if_neg (show ¬ (false = true) by decide)]
   congr 1
   rw [Bool.eq_iff_iff]; simp only [bne_iff_ne, decide_eq_true_eq]
  ·rfl
 | succ d ih =>
  intro i hd h1 hi
  obtain ⟨j, rfl⟩ : ∃ j, i = j + 1 := ⟨i - 1, by omega⟩
  have hlt : j < l.length := by omega
  have w : wrap64 (((j + 1 : Nat) : Int) + 1) = ((j + 1 + 1 : Nat) : Int) := by unfold wrap64; omega
  have hg : rd_T55 (x :: l) ((j + 1 : Nat) : Int) = l[j] := by unfold rd_T55; rw [Int.toNat_natCast, List.getD_cons_succ, getD_lt l _ j hlt]
  have hr := ih (j + 1 + 1) (by omega) (by omega) (by omega)
  rw [Nat.add_sub_cancel] at hr ⊢
  rw [List.drop_eq_getElem_cons hlt, List.all_cons, List.all_cons]
  cases b
  ·refine Ev.step (f := fun k => (spec_DevIsReal.f k l[j].f0 l[j].f1 l[j].f2).bind fun t143 => (if t143 = true then (spec_l4Calc.l0 k false ((j + 1 + 1 : Nat) : Int) op (x :: l)) else (some false))) (fun k => ?_) (Ev.bind (spec_isR_ev _ _ _) ?_)
   ·simp only [spec_l4Calc.l0]
    rw [if_pos (by simp only [List.length_cons]; omega), if_neg (by decide), if_pos (by omega), hg, w]
   ·simp only [if_neg (show ¬ (false = true) by decide)] at hr ⊢
    show Ev _ ((isR l[j].f0 l[j].f1 l[j].f2 && _) && _)
    cases isR l[j].f0 l[j].f1 l[j].f2
    ·exact Ev.now _
    ·simp only [if_true, Bool.true_and]; exact hr
  ·refine Ev.step (f := fun k => (spec_DevIsWhole.f k l[j].f0 l[j].f1 l[j].f2).bind fun t143 => (if t143 = true then (spec_l4Calc.l0 k true ((j + 1 + 1 : Nat) : Int) op (x :: l)) else (some false))) (fun k => ?_) (Ev.bind (spec_isW_ev _ _ _) ?_)
   ·simp only [spec_l4Calc.l0]
    rw [if_pos (by simp only [List.length_cons]; omega), if_pos trivial, if_pos (by omega), hg, w]
   ·simp only [if_true] at hr ⊢
    show Ev _ (isW l[j].f0 l[j].f1 l[j].f2 && _)
    cases isW l[j].f0 l[j].f1 l[j].f2
    ·exact Ev.now _
    ·simp only [if_true, Bool.true_and]; exact hr
theorem l4Calc_ev (op : Int) (x : S55) (l : List S55) (hl : l.length ≤ 1000) : Ev (fun k => spec_l4Calc.f k op (x :: l)) (reck op x l) := by
 unfold spec_l4Calc.f
 refine Ev.congr (f := fun k => (spec_l4Kind.f k x.f0 x.f1 x.f2 9 10).bind fun t138 => (if t138 = true then (spec_l4Calc.l0 k (x.f0 == 9) 1 op (x :: l)) else (some false))) (fun k => if_pos (show 0 < ((x :: l).length : Int) by simp)) ?_
 refine Ev.bind (l4Kind_ev x 9 10) ?_
 have h := calc_loop op x l (x.f0 == 9) hl l.length 1 (by omega) (by omega) (by omega)
 rw [show 1 - 1 = 0 from rfl, List.drop_zero] at h
 cases hk : lk x 9 10
 ·have e : reck op x l = false := by
   unfold reck
   have h9 : lk x 9 9 = false := by
    unfold lk at hk ⊢
    cases hd : dok x.f0 x.f1 x.f2
    ·rfl
    ·rw [hd, Bool.true_and] at hk; rw [Bool.true_and]; exact decide_eq_false (by have := of_decide_eq_false hk; omega)
   have h10 : lk x 10 10 = false := by
    unfold lk at hk ⊢
    cases hd : dok x.f0 x.f1 x.f2
    ·rfl
    ·rw [hd, Bool.true_and] at hk; rw [Bool.true_and]; exact decide_eq_false (by have := of_decide_eq_false hk; omega)
   rw [h9, h10]; rfl
  rw [e]; exact Ev.now _
 ·simp only [if_true]
  have hd : dok x.f0 x.f1 x.f2 = true := by unfold lk at hk; rw [Bool.and_eq_true] at hk; exact hk.1
  have h2 : x.f0 = 9 ∨ x.f0 = 10 := by unfold lk at hk; rw [Bool.and_eq_true] at hk; exact of_decide_eq_true hk.2
  have e : reck op x l = if (x.f0 == 9) = true then l.all wW else l.all wR && decide (op ≠ 35) := by
   unfold reck lk
   rw [hd]
   rcases h2 with h2 | h2 <;> rw [h2] <;> simp
  rw [e]; exact h
theorem tell_ {α : Type} {g : Nat → Option α} {r : α} (h : Ev g r) : ∃ k, g k = some r := Ev.rounds h

theorem sK (x : S55) (k j : Int) (w : World) : Calls Tryd.prog 53 #[.agg #[.int .i64 x.f0, .int .i64 x.f1, .int .i64 x.f2], .int .i64 k, .int .i64 j] w (MW.Ret w (· = .bool (lk x k j))) := by
 obtain ⟨n, hn⟩ := tell_ (l4Kind_ev x k j)
 exact MW.Ret.of_eq (spec_l4Kind.calls n _ _ _ _ _ _ w hn)
theorem sW (x : S55) (w : World) : Calls Tryd.prog 24 #[.agg #[.int .i64 x.f0, .int .i64 x.f1, .int .i64 x.f2]] w (MW.Ret w (· = .bool (wW x))) := by
 obtain ⟨n, hn⟩ := tell_ (spec_isW_ev x.f0 x.f1 x.f2)
 exact MW.Ret.of_eq (spec_DevIsWhole.calls n _ _ _ _ w hn)
theorem sR (x : S55) (w : World) : Calls Tryd.prog 43 #[.agg #[.int .i64 x.f0, .int .i64 x.f1, .int .i64 x.f2]] w (MW.Ret w (· = .bool (wR x))) := by
 obtain ⟨n, hn⟩ := tell_ (spec_isR_ev x.f0 x.f1 x.f2)
 exact MW.Ret.of_eq (spec_DevIsReal.calls n _ _ _ _ w hn)
theorem sC (op : Int) (x : S55) (l : List S55) (hl : l.length ≤ 1000) (B : Option Addr) (m c : Nat) (hm : m = (x :: l).length) (w : World) (hr : Kd.C k55 w B (x :: l).length (x :: l)) (hc : (x :: l).length ≤ c) : Calls Tryd.prog 54 #[.agg #[.int .i64 op, .slice B m c]] w (MW.Ret w (· = .bool (reck op x l))) := by
 subst hm
 obtain ⟨n, hn⟩ := tell_ (l4Calc_ev op x l hl)
 exact MW.Ret.of_eq (spec_l4Calc.calls n _ _ _ _ _ w hr hc hn)
theorem bool_or (b : Bool) : b = true ∨ b = false := by cases b <;> simp
theorem regen_c {P : Program} {w W : World} {L : List (Nat × Array Value)} {c : Code} {Q : Exit → Act → World → Prop} {a : Act} (H : MW.Priv w W L) (h : ∀ W', MW.Priv w W' L → c.wp P Q a W') : c.wp P Q a W := h W H
theorem rd_cons0 (x : S55) (l : List S55) : rd_T55 (x :: l) 0 = x := rfl
theorem rd_cons1 (x y : S55) (l : List S55) : rd_T55 (x :: y :: l) 1 = y := rfl
theorem fo29_0 : fieldOff Tryd.prog 29 0 = some 0 := by kernel_rfl
theorem on3 : oneT Tryd.prog 3 = true := by kernel_rfl
theorem fo29_1 : fieldOff Tryd.prog 29 1 = some 1 := by kernel_rfl
theorem on27 : oneT Tryd.prog 27 = true := by kernel_rfl
theorem ag55 : aggSize Tryd.prog 55 = some 3 := by kernel_rfl
theorem ze55 : zeroOf Tryd.prog 55 = some (#[.int .i64 0, .int .i64 0, .int .i64 0]) := by kernel_rfl
theorem fo55_1 : fieldOff Tryd.prog 55 1 = some 1 := by kernel_rfl
theorem ag29 : aggSize Tryd.prog 29 = some 2 := by kernel_rfl
set_option maxHeartbeats 16000000 in
set_option maxRecDepth 100000 in
theorem spec_coil_bad (op : Int) (l : List S55) (B : Option Addr) (c : Nat) (w : World) (hl : l.length ≤ 9223372036854775807) (h : ¬ (21 ≤ op ∧ op ≤ 37) ∨ (l.length : Int) ≠ ar op) :
  Calls Tryd.prog 32 #[.agg #[.int .i64 op, .slice B l.length c]] w fun e w' => e = .returned (.bool false) ∧ Below w.heap.size w w' := by
 have HS := Aside0.mk (Priv.nil w)
 have HL := Aside0.mk hl
 clear hl
 by_cases h1 : op < 21
 ·have c1 : decide (op < 21) = true := decide_eq_true h1
  clear h h1
  go_enter Tryd.func32, Tryd.ntmps32
  go_upto_region 1 with (first | ((with_reducible refine gate_dst (N := 1) rfl ?_); (with_reducible refine box_new HS.out rfl rfl (by first | exact eval_tmp rfl | exact eval_const) ?_); intro g1 W1_ HP; clear HS; have HS := Aside0.mk HP; clear HP; (try simp only [Act.put, List.setIfInBounds_toArray, List.set_cons_zero, List.set_cons_succ])))
  (try simp only [Act.put, List.setIfInBounds_toArray, List.set_cons_zero, List.set_cons_succ])
  obtain ⟨t1_, hb1_⟩ := HS.out.at_ at0
  have hz0_ : W1_.cell? ⟨g1, 0, none⟩ = some (.int .i64 _) := (blk_cell hb1_ 0).trans rfl
  have hz1_ : W1_.cell? ⟨g1, 1, none⟩ = some (.slice B l.length c) := (blk_cell hb1_ 1).trans rfl
  have hf0_ := blk_frozen hb1_ 0
  have hf1_ := blk_frozen hb1_ 1
  go_wp2_with (first | (go_at_call 40; (with_reducible refine (spec_ElemArity.calls _ _ _ _ hAr.out).mono ?_); rintro e_ w_ ⟨rfl, ⟨nd, rfl⟩⟩; (try first | exact ⟨rfl, _, World.drewN_drewN _ _ _⟩ | exact ⟨rfl, _, Eq.trans (World.drewN_drewN _ _ _) (congrArg (World.drewN _) (Nat.add_assoc _ _ _))⟩)))
  repeat (go_quiet (first | (go_at_call 40; (with_reducible refine (spec_ElemArity.calls _ _ _ _ hAr.out).mono ?_); rintro e_ w_ ⟨rfl, ⟨nd, rfl⟩⟩; (try first | exact ⟨rfl, _, World.drewN_drewN _ _ _⟩ | exact ⟨rfl, _, Eq.trans (World.drewN_drewN _ _ _) (congrArg (World.drewN _) (Nat.add_assoc _ _ _))⟩))); try go_wp2_with (first | (go_at_call 40; (with_reducible refine (spec_ElemArity.calls _ _ _ _ hAr.out).mono ?_); rintro e_ w_ ⟨rfl, ⟨nd, rfl⟩⟩; (try first | exact ⟨rfl, _, World.drewN_drewN _ _ _⟩ | exact ⟨rfl, _, Eq.trans (World.drewN_drewN _ _ _) (congrArg (World.drewN _) (Nat.add_assoc _ _ _))⟩))))
  go_ret
  exact ⟨rfl, by first | exact HS.out.below | exact (HS.out.drewN _).below | exact ((HS.out.drewN _).drewN _).below⟩
 by_cases h2 : 37 < op
 ·have c1 : decide (op < 21) = false := decide_eq_false h1
  have c2 : decide (37 < op) = true := decide_eq_true h2
  clear h h1 h2
  go_enter Tryd.func32, Tryd.ntmps32
  go_upto_region 1 with (first | ((with_reducible refine gate_dst (N := 1) rfl ?_); (with_reducible refine box_new HS.out rfl rfl (by first | exact eval_tmp rfl | exact eval_const) ?_); intro g1 W1_ HP; clear HS; have HS := Aside0.mk HP; clear HP; (try simp only [Act.put, List.setIfInBounds_toArray, List.set_cons_zero, List.set_cons_succ])))
  (try simp only [Act.put, List.setIfInBounds_toArray, List.set_cons_zero, List.set_cons_succ])
  obtain ⟨t1_, hb1_⟩ := HS.out.at_ at0
  have hz0_ : W1_.cell? ⟨g1, 0, none⟩ = some (.int .i64 _) := (blk_cell hb1_ 0).trans rfl
  have hz1_ : W1_.cell? ⟨g1, 1, none⟩ = some (.slice B l.length c) := (blk_cell hb1_ 1).trans rfl
  have hf0_ := blk_frozen hb1_ 0
  have hf1_ := blk_frozen hb1_ 1
  go_wp2_with (first | (go_at_call 40; (with_reducible refine (spec_ElemArity.calls _ _ _ _ hAr.out).mono ?_); rintro e_ w_ ⟨rfl, ⟨nd, rfl⟩⟩; (try first | exact ⟨rfl, _, World.drewN_drewN _ _ _⟩ | exact ⟨rfl, _, Eq.trans (World.drewN_drewN _ _ _) (congrArg (World.drewN _) (Nat.add_assoc _ _ _))⟩)))
  repeat (go_quiet (first | (go_at_call 40; (with_reducible refine (spec_ElemArity.calls _ _ _ _ hAr.out).mono ?_); rintro e_ w_ ⟨rfl, ⟨nd, rfl⟩⟩; (try first | exact ⟨rfl, _, World.drewN_drewN _ _ _⟩ | exact ⟨rfl, _, Eq.trans (World.drewN_drewN _ _ _) (congrArg (World.drewN _) (Nat.add_assoc _ _ _))⟩))); try go_wp2_with (first | (go_at_call 40; (with_reducible refine (spec_ElemArity.calls _ _ _ _ hAr.out).mono ?_); rintro e_ w_ ⟨rfl, ⟨nd, rfl⟩⟩; (try first | exact ⟨rfl, _, World.drewN_drewN _ _ _⟩ | exact ⟨rfl, _, Eq.trans (World.drewN_drewN _ _ _) (congrArg (World.drewN _) (Nat.add_assoc _ _ _))⟩))))
  go_ret
  exact ⟨rfl, by first | exact HS.out.below | exact (HS.out.drewN _).below | exact ((HS.out.drewN _).drewN _).below⟩
 have c1 : decide (op < 21) = false := decide_eq_false h1
 have c2 : decide (37 < op) = false := decide_eq_false h2
 have h3 : (l.length : Int) ≠ ar op := by rcases h with h | h; omega; exact h
 obtain ⟨nA_, hA_⟩ := tell_ (sAr_ev op)
 have hAr := Aside0.mk hA_
 have c3 : ((l.length : Int) != ar op) = true := bne_iff_ne.mpr h3
 clear h h1 h3 hA_ h2
 go_enter Tryd.func32, Tryd.ntmps32
 go_upto_region 1 with (first | ((with_reducible refine gate_dst (N := 1) rfl ?_); (with_reducible refine box_new HS.out rfl rfl (by first | exact eval_tmp rfl | exact eval_const) ?_); intro g1 W1_ HP; clear HS; have HS := Aside0.mk HP; clear HP; (try simp only [Act.put, List.setIfInBounds_toArray, List.set_cons_zero, List.set_cons_succ])))
 (try simp only [Act.put, List.setIfInBounds_toArray, List.set_cons_zero, List.set_cons_succ])
 obtain ⟨t1_, hb1_⟩ := HS.out.at_ at0
 have hz0_ : W1_.cell? ⟨g1, 0, none⟩ = some (.int .i64 _) := (blk_cell hb1_ 0).trans rfl
 have hz1_ : W1_.cell? ⟨g1, 1, none⟩ = some (.slice B l.length c) := (blk_cell hb1_ 1).trans rfl
 have hf0_ := blk_frozen hb1_ 0
 have hf1_ := blk_frozen hb1_ 1
 go_wp2_with (first | (go_at_call 40; (with_reducible refine (spec_ElemArity.calls _ _ _ _ hAr.out).mono ?_); rintro e_ w_ ⟨rfl, ⟨nd, rfl⟩⟩; (try first | exact ⟨rfl, _, World.drewN_drewN _ _ _⟩ | exact ⟨rfl, _, Eq.trans (World.drewN_drewN _ _ _) (congrArg (World.drewN _) (Nat.add_assoc _ _ _))⟩)))
 repeat (go_quiet (first | (go_at_call 40; (with_reducible refine (spec_ElemArity.calls _ _ _ _ hAr.out).mono ?_); rintro e_ w_ ⟨rfl, ⟨nd, rfl⟩⟩; (try first | exact ⟨rfl, _, World.drewN_drewN _ _ _⟩ | exact ⟨rfl, _, Eq.trans (World.drewN_drewN _ _ _) (congrArg (World.drewN _) (Nat.add_assoc _ _ _))⟩))); try go_wp2_with (first | (go_at_call 40; (with_reducible refine (spec_ElemArity.calls _ _ _ _ hAr.out).mono ?_); rintro e_ w_ ⟨rfl, ⟨nd, rfl⟩⟩; (try first | exact ⟨rfl, _, World.drewN_drewN _ _ _⟩ | exact ⟨rfl, _, Eq.trans (World.drewN_drewN _ _ _) (congrArg (World.drewN _) (Nat.add_assoc _ _ _))⟩))))
 go_ret
 exact ⟨rfl, by first | exact HS.out.below | exact (HS.out.drewN _).below | exact ((HS.out.drewN _).drewN _).below⟩
set_option maxHeartbeats 16000000 in
set_option maxRecDepth 100000 in
theorem spec_coil1 (op : Int) (x : S55) (hop : op = 21 ∨ op = 22 ∨ op = 23 ∨ op = 25) (A : Option Addr) (c : Nat) (w : World) (hr : Kd.C k55 w A ([x] : List S55).length [x]) (hc : ([x] : List S55).length ≤ c) :
  Calls Tryd.prog 32 #[.agg #[.int .i64 op, .slice A 1 c]] w fun e w' => e = .returned (.bool (coil op [x])) ∧ Below w.heap.size w w' := by
 have HC := Aside0.mk hr
 have HCC := Aside0.mk hc
 clear hr hc
 obtain ⟨ad0, e0, hx0, hx1, hx2⟩ := at_T55 HC.out 0 (by omega) (by simp)
 cases e0
 (try rw [show ((0 : Int)).toNat = 0 from rfl] at hx0)
 (try rw [show 0 * 3 = 0 from rfl] at hx0)
 (try rw [Addr.add_zero'] at hx0)
 (try simp only [rd_cons0, rd_cons1] at hx0)
 (try rw [show ((0 : Int)).toNat = 0 from rfl] at hx1)
 (try rw [show 0 * 3 = 0 from rfl] at hx1)
 (try rw [Addr.add_zero'] at hx1)
 (try simp only [rd_cons0, rd_cons1] at hx1)
 (try rw [show ((0 : Int)).toNat = 0 from rfl] at hx2)
 (try rw [show 0 * 3 = 0 from rfl] at hx2)
 (try rw [Addr.add_zero'] at hx2)
 (try simp only [rd_cons0, rd_cons1] at hx2)
 have Hx0 := Aside0.mk hx0
 have Hx1 := Aside0.mk hx1
 have Hx2 := Aside0.mk hx2
 clear hx0 hx1 hx2
 have HS := Aside0.mk (Priv.nil w)
 obtain ⟨nA_, hA_⟩ := tell_ (sAr_ev op)
 have hv_ : ar op = 1 := by rw [ar_coil (by omega)]; (repeat' split) <;> omega
 rw [hv_] at hA_
 have hAr := Aside0.mk hA_
 clear hA_ hv_
 rcases hop with rfl | rfl | rfl | rfl
 rotate_left 1
 rcases bool_or (lk x 2 3) with e0_ | e0_
 rotate_left 2
 rcases bool_or (lk x 2 3) with e0_ | e0_ <;> rcases bool_or (lk x 4 7) with e1_ | e1_
 rotate_left 4
 rotate_left 1
 all_goals
  go_enter Tryd.func32, Tryd.ntmps32
  go_upto_region 1 with (first | ((with_reducible refine gate_dst (N := 1) rfl ?_); (with_reducible refine box_new HS.out rfl rfl (by first | exact eval_tmp rfl | exact eval_const) ?_); intro g1 W1_ HP; clear HS; have HS := Aside0.mk HP; clear HP; (try simp only [Act.put, List.setIfInBounds_toArray, List.set_cons_zero, List.set_cons_succ])))
  (try simp only [Act.put, List.setIfInBounds_toArray, List.set_cons_zero, List.set_cons_succ])
  obtain ⟨t1_, hb1_⟩ := HS.out.at_ at0
  have hz0_ : W1_.cell? ⟨g1, 0, none⟩ = some (.int .i64 _) := (blk_cell hb1_ 0).trans rfl
  have hz1_ : W1_.cell? ⟨g1, 1, none⟩ = some (.slice (some ad0) 1 c) := (blk_cell hb1_ 1).trans rfl
  have hf0_ := blk_frozen hb1_ 0
  have hf1_ := blk_frozen hb1_ 1
  go_upto_region 3 with (first | (go_at_call 40; (with_reducible refine (spec_ElemArity.calls _ _ _ _ hAr.out).mono ?_); rintro e_ w_ ⟨rfl, ⟨nd, rfl⟩⟩; (try first | exact ⟨rfl, _, World.drewN_drewN _ _ _⟩ | exact ⟨rfl, _, Eq.trans (World.drewN_drewN _ _ _) (congrArg (World.drewN _) (Nat.add_assoc _ _ _))⟩)))
  repeat (go_quiet (first | (go_at_call 40; (with_reducible refine (spec_ElemArity.calls _ _ _ _ hAr.out).mono ?_); rintro e_ w_ ⟨rfl, ⟨nd, rfl⟩⟩; (try first | exact ⟨rfl, _, World.drewN_drewN _ _ _⟩ | exact ⟨rfl, _, Eq.trans (World.drewN_drewN _ _ _) (congrArg (World.drewN _) (Nat.add_assoc _ _ _))⟩))); try go_upto_region 3 with (first | (go_at_call 40; (with_reducible refine (spec_ElemArity.calls _ _ _ _ hAr.out).mono ?_); rintro e_ w_ ⟨rfl, ⟨nd, rfl⟩⟩; (try first | exact ⟨rfl, _, World.drewN_drewN _ _ _⟩ | exact ⟨rfl, _, Eq.trans (World.drewN_drewN _ _ _) (congrArg (World.drewN _) (Nat.add_assoc _ _ _))⟩))))
  first | refine regen_c HS.out ?_ | refine regen_c (HS.out.drewN _) ?_ | refine regen_c ((HS.out.drewN _).drewN _) ?_
  intro W_ HP
  clear HS; have HS := Aside0.mk HP; clear HP; have hx0_ := (HS.out.below.cell (World.block_lt_of_cell? w _ Hx0.out)).trans Hx0.out; have hx1_ := (HS.out.below.cell (World.block_lt_of_cell? w _ Hx1.out)).trans Hx1.out; have hx2_ := (HS.out.below.cell (World.block_lt_of_cell? w _ Hx2.out)).trans Hx2.out
  (try simp only [Act.put, List.setIfInBounds_toArray, List.set_cons_zero, List.set_cons_succ])
  go_wp2_with ((first | ((with_reducible refine gate_dst (N := 1) rfl ?_); (try (refine gate_guard (by rfl) ?_; dsimp only)); (with_reducible refine box_new HS.out rfl rfl (by first | exact eval_tmp rfl | exact eval_const) ?_); intro g1 W1_ HP) | ((with_reducible first | refine gate_dst (N := 4) rfl ?_ | refine gate_dst (N := 8) rfl ?_ | refine gate_dst (N := 16) rfl ?_ | refine gate_dst (N := 25) rfl ?_); (try (refine gate_guard (by rfl) ?_; dsimp only)); (with_reducible refine field_at rfl rfl rfl fo29_0 ?_); (try simp only [toNat_16, toNat_12, Int.toNat_natCast, Nat.zero_add, Nat.add_zero, Nat.mul_one])) | ((with_reducible first | refine gate_dst (N := 5) rfl ?_ | refine gate_dst (N := 9) rfl ?_ | refine gate_dst (N := 17) rfl ?_ | refine gate_dst (N := 26) rfl ?_ | refine gate_dst (N := 84) rfl ?_ | refine gate_dst (N := 103) rfl ?_); (try (refine gate_guard (by rfl) ?_; dsimp only)); (with_reducible refine load_one HS.out rfl rfl on3 rfl (by first | exact at0 | exact at1 | exact at2 | exact at3 | exact at4 | exact at5 | exact at6) (by with_reducible first | exact at0a | exact at1a | exact at2a | exact at3a) ?_)) | ((with_reducible first | refine gate_dst (N := 13) rfl ?_ | refine gate_dst (N := 21) rfl ?_ | refine gate_dst (N := 56) rfl ?_ | refine gate_dst (N := 73) rfl ?_ | refine gate_dst (N := 80) rfl ?_ | refine gate_dst (N := 92) rfl ?_ | refine gate_dst (N := 99) rfl ?_ | refine gate_dst (N := 111) rfl ?_ | refine gate_dst (N := 122) rfl ?_); (try (refine gate_guard (by rfl) ?_; dsimp only)); (with_reducible refine field_at rfl rfl rfl fo29_1 ?_); (try simp only [toNat_16, toNat_12, Int.toNat_natCast, Nat.zero_add, Nat.add_zero, Nat.mul_one])) | ((with_reducible first | refine gate_dst (N := 14) rfl ?_ | refine gate_dst (N := 22) rfl ?_ | refine gate_dst (N := 57) rfl ?_ | refine gate_dst (N := 74) rfl ?_ | refine gate_dst (N := 81) rfl ?_ | refine gate_dst (N := 93) rfl ?_ | refine gate_dst (N := 100) rfl ?_ | refine gate_dst (N := 112) rfl ?_ | refine gate_dst (N := 123) rfl ?_); (try (refine gate_guard (by rfl) ?_; dsimp only)); (with_reducible refine load_one HS.out rfl rfl on27 rfl (by first | exact at0 | exact at1 | exact at2 | exact at3 | exact at4 | exact at5 | exact at6) (by with_reducible first | exact at0a | exact at1a | exact at2a | exact at3a) ?_)) | ((with_reducible first | refine gate_dst (N := 24) rfl ?_ | refine gate_dst (N := 29) rfl ?_ | refine gate_dst (N := 33) rfl ?_ | refine gate_dst (N := 36) rfl ?_ | refine gate_dst (N := 41) rfl ?_ | refine gate_dst (N := 44) rfl ?_ | refine gate_dst (N := 48) rfl ?_ | refine gate_dst (N := 53) rfl ?_ | refine gate_dst (N := 59) rfl ?_ | refine gate_dst (N := 64) rfl ?_ | refine gate_dst (N := 70) rfl ?_ | refine gate_dst (N := 76) rfl ?_ | refine gate_dst (N := 89) rfl ?_ | refine gate_dst (N := 95) rfl ?_ | refine gate_dst (N := 108) rfl ?_ | refine gate_dst (N := 114) rfl ?_ | refine gate_dst (N := 119) rfl ?_ | refine gate_dst (N := 125) rfl ?_); (try (refine gate_guard (by rfl) ?_; dsimp only)); (with_reducible refine load_seg HS.out rfl rfl ag55 rfl (by first | exact at0 | exact at1 | exact at2 | exact at3 | exact at4 | exact at5 | exact at6) (by with_reducible first | exact whole _) (by with_reducible first | exact sz1 | exact sz2 | exact sz3 | exact sz4) ?_)) | ((with_reducible refine gate_dst (N := 3) rfl ?_); (try (refine gate_guard (by rfl) ?_; dsimp only)); (with_reducible refine alloc_new HS.out rfl rfl ze55 ?_); intro g3 W3_ HP) | ((with_reducible refine gate_store (t := 55) (p := 3) rfl ?_); (with_reducible refine store_seg HS.out rfl rfl rfl ag55 rfl (by first | exact eval_tmp rfl | exact eval_const) (by first | exact at0 | exact at1 | exact at2 | exact at3 | exact at4 | exact at5 | exact at6) (by with_reducible first | exact lay2_0 | exact lay2_1 | exact lay3_0 | exact lay3_1 | exact lay3_2 | exact lay2_w | exact lay3_w) (by with_reducible first | exact sz1 | exact sz2 | exact sz3 | exact sz4) (by simp only [List.size_toArray, List.length_cons, List.length_nil]; omega) (by first | (with_reducible first | exact mc_one _ | exact tc_one _ | exact cc_one _ | exact dc_one _ | exact rc_one _ | exact t2_one _ _ | exact t3_one _ _ _) | (simp [Value.oneCell']; done)) ?_); intro W_ HP) | ((with_reducible first | refine gate_dst (N := 30) rfl ?_ | refine gate_dst (N := 34) rfl ?_ | refine gate_dst (N := 37) rfl ?_ | refine gate_dst (N := 42) rfl ?_ | refine gate_dst (N := 45) rfl ?_ | refine gate_dst (N := 49) rfl ?_ | refine gate_dst (N := 54) rfl ?_ | refine gate_dst (N := 60) rfl ?_ | refine gate_dst (N := 65) rfl ?_ | refine gate_dst (N := 71) rfl ?_ | refine gate_dst (N := 77) rfl ?_ | refine gate_dst (N := 90) rfl ?_ | refine gate_dst (N := 96) rfl ?_ | refine gate_dst (N := 109) rfl ?_ | refine gate_dst (N := 120) rfl ?_); (try (refine gate_guard (by rfl) ?_; dsimp only)); refine call_ev HS.out rfl rfl Tryd.func53 (by kernel_rfl) rfl (sK _ _ _ _) (by (try simp only [List.map_toArray, List.map_cons, List.map_nil]); first | done | rfl) ?_; rintro v_ W_ rfl HP HB_) | ((with_reducible first | refine gate_dst (N := 83) rfl ?_ | refine gate_dst (N := 102) rfl ?_); (try (refine gate_guard (by rfl) ?_; dsimp only)); (with_reducible refine field_at rfl rfl rfl fo55_1 ?_); (try simp only [toNat_16, toNat_12, Int.toNat_natCast, Nat.zero_add, Nat.add_zero, Nat.mul_one])) | ((with_reducible refine gate_dst (N := 115) rfl ?_); (try (refine gate_guard (by rfl) ?_; dsimp only)); refine call_ev HS.out rfl rfl Tryd.func24 (by kernel_rfl) rfl (sW _ _) (by (try simp only [List.map_toArray, List.map_cons, List.map_nil]); first | done | rfl) ?_; rintro v_ W_ rfl HP HB_) | ((with_reducible refine gate_dst (N := 126) rfl ?_); (try (refine gate_guard (by rfl) ?_; dsimp only)); refine call_ev HS.out rfl rfl Tryd.func43 (by kernel_rfl) rfl (sR _ _) (by (try simp only [List.map_toArray, List.map_cons, List.map_nil]); first | done | rfl) ?_; rintro v_ W_ rfl HP HB_) | ((with_reducible refine gate_dst (N := 128) rfl ?_); (try (refine gate_guard (by rfl) ?_; dsimp only)); (with_reducible refine load_seg HS.out rfl rfl ag29 rfl (by first | exact at0 | exact at1 | exact at2 | exact at3 | exact at4 | exact at5 | exact at6) (by with_reducible first | exact whole _) (by with_reducible first | exact sz1 | exact sz2 | exact sz3 | exact sz4) ?_)) | ((with_reducible refine gate_dst (N := 129) rfl ?_); (try (refine gate_guard (by rfl) ?_; dsimp only)); refine call_ev HS.out rfl rfl Tryd.func54 (by kernel_rfl) rfl (sC _ _ _ (by simp) _ _ _ rfl _ (Kd.C_below HC.out HS.out.below) HCC.out) (by (try simp only [List.map_toArray, List.map_cons, List.map_nil]); first | done | rfl) ?_; rintro v_ W_ rfl HP HB_)); (try (clear HS; have HS := Aside0.mk HP; clear HP; have hx0_ := (HS.out.below.cell (World.block_lt_of_cell? w _ Hx0.out)).trans Hx0.out; have hx1_ := (HS.out.below.cell (World.block_lt_of_cell? w _ Hx1.out)).trans Hx1.out; have hx2_ := (HS.out.below.cell (World.block_lt_of_cell? w _ Hx2.out)).trans Hx2.out; (try clear HB_); (try simp only [List.set_cons_zero, List.set_cons_succ] at HS))); (try simp only [Act.put, List.setIfInBounds_toArray, List.set_cons_zero, List.set_cons_succ]); (try simp only [e0_]); (try simp only [e1_]); (try simp only [e2_]))
  go_ret
  exact ⟨by first | rfl | (simp [coil]; done) | (simp [coil, e0_]; done) | (simp [coil, e0_, e1_]; done) | (simp [coil, e0_, e1_, e2_]; done) | (simp [coil, reck]; done) | (simp [coil, reck, e0_]; done) | (simp [coil, reck, e0_, e1_]; done) | (simp [coil, reck, e0_, e1_, e2_]; done) | (simp only [coil, reck]; rw [e0_]; simp; done) | (simp only [coil, reck]; rw [e0_, e1_]; simp; done) | (simp only [coil, reck]; rw [e0_, e2_]; simp; done) | (simp only [coil, reck]; rw [e0_, e1_, e2_]; simp; done) | (simp [coil, reck, e0_, e2_]; done) | (simp only [coil]; simp [*]; done), HS.out.below⟩

end Go.Proofs.YtkmfdlcmdgdepaaDoor.U
