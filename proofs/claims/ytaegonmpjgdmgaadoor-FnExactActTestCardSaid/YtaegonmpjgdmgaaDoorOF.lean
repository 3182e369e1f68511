/- What the printed functions tell that the law ActT reaches, over numbers and lists alone. -/
import Derived.Test.YtaegonmpjgdmgaaDoorFx1
import Derived.Test.YtaegonmpjgdmgaaDoorFx2
import Derived.Test.YtaegonmpjgdmgaaDoorFx3
import Derived.Test.YtaegonmpjgdmgaaDoorFx4
import Derived.Test.YtaegonmpjgdmgaaDoorFx5
import Derived.Test.YtaegonmpjgdmgaaDoorFx6
import Derived.Test.YtaegonmpjgdmgaaDoorFx7
import Derived.Test.YtaegonmpjgdmgaaDoorFx8
import Derived.Test.YtaegonmpjgdmgaaDoorOzTell
namespace Go.Proofs.YtaegonmpjgdmgaaDoor.BActT
open Go Go.RowKit Go.Proofs.YtaegonmpjgdmgaaDoor.Tell Go.Proofs.YtaegonmpjgdmgaaDoor.F Go.Proofs.YtaegonmpjgdmgaaDoorW.PrintWords Go.Proofs.YtaegonmpjgdmgaaDoorW.PrintLast Go.Proofs.YtaegonmpjgdmgaaDoorW.PrintMore
set_option linter.unusedVariables false
set_option linter.unusedSimpArgs false

theorem in_eq (a l h : Int) : impl_in.f a l h = some (decide (l ≤ a ∧ a ≤ h)) := by
 unfold impl_in.f
 by_cases c : l ≤ a
 ·rw [if_pos c]; simp [c]
 ·rw [if_neg c]; simp [c]

def cD (x : S96) : S61 := ⟨x.f0, x.f1, x.f2⟩
theorem toDevArgS_ev (l : List S96) (hl : l.length ≤ 1099511627776) : Ev (fun k => laws_toDevArgS.f k l) (l.map cD) := by
 unfold laws_toDevArgS.f
 simp only [if_pos (show 0 ≤ (l.length : Int) by omega), Int.toNat_natCast, if_pos (show l.length ≤ 11728124029610 by omega)]
 refine map_loop (L := fun k x i => laws_toDevArgS.l0 k l x i) (fun x => ?_) (fun i h x r hx hr => ?_)
 ·refine Ev.step (f := fun _ => some x) (fun k => ?_) (Ev.now _)
  simp only [laws_toDevArgS.l0]; rw [if_neg (by omega)]
 ·refine Ev.step (fun k => ?_) hr
  have w : wrap64 ((i : Int) + 1) = ((i + 1 : Nat) : Int) := by unfold wrap64; omega
  have hg : rd_T96 l (i : Int) = l[i] := by unfold rd_T96; rw [Int.toNat_natCast, getD_lt l _ i h]
  simp only [laws_toDevArgS.l0]
  rw [if_pos (by omega), if_pos (by omega), hg, w, Int.toNat_natCast]
  show (if (i : Int) < (x.length : Int) then _ else _) = _
  rw [if_pos (by omega)]; rfl

theorem eqDevArg_self (a b c : Int) : laws_eqDevArg.f a b c a b c = some true := by
 unfold laws_eqDevArg.f; rw [if_pos rfl, if_pos rfl, if_pos rfl]
theorem eqDevArgS_self (l : List S61) (hl : l.length ≤ 1099511627776) : Ev (fun k => laws_eqDevArgS.f k l l) true := by
 unfold laws_eqDevArgS.f
 simp only [if_true]
 refine all_loop (L := fun k i => laws_eqDevArgS.l0 k l l i) (n := l.length) ?_ (fun i h hr => ?_)
 ·refine Ev.step (f := fun _ => some true) (fun k => ?_) (Ev.now _)
  simp only [laws_eqDevArgS.l0]; rw [if_neg (by omega)]
 ·refine Ev.step (fun k => ?_) hr
  have w : wrap64 ((i : Int) + 1) = ((i + 1 : Nat) : Int) := by unfold wrap64; omega
  simp only [laws_eqDevArgS.l0]
  rw [if_pos (by omega), if_pos (by omega), if_pos (by omega), eqDevArg_self, Option.bind_some, if_pos rfl, w]

theorem szDevArgS_tells (l : List S96) (a : Int) (ha0 : 0 ≤ a) (ha : a ≤ 1048576) (hl : l.length ≤ maxLen) : ∃ r, laws_szDevArgS.f l a = some r ∧ (0 ≤ r → (l.length : Int) ≤ a ∧ r = a - l.length) := by
 unfold maxLen at hl
 unfold laws_szDevArgS.f
 have w : wrap64 (a - (l.length : Int)) = a - l.length := wrap64_in (by omega) (by omega)
 rw [w]
 split
 ·exact ⟨-1, rfl, fun h => by omega⟩
 ·exact ⟨_, rfl, fun h => by omega⟩

theorem szElem_tells (o : Int) (l : List S96) (n : Int) (ha0 : 0 ≤ n) (ha : n ≤ 1048576) (hl : l.length ≤ maxLen) : ∃ r, laws_szElem.f o l n = some r ∧ (0 ≤ r → (l.length : Int) ≤ n ∧ r = n - l.length) := by
 obtain ⟨r, hr, h⟩ := szDevArgS_tells l n ha0 ha hl
 unfold laws_szElem.f
 rw [hr, Option.bind_some]
 split
 ·exact ⟨-1, rfl, fun h => by omega⟩
 ·exact ⟨r, rfl, h⟩

theorem toElem_ev (o : Int) (l : List S96) (hl : l.length ≤ 1099511627776) : Ev (fun k => laws_toElem.f k o l) (o, l.map cD) := by
 unfold laws_toElem.f
 exact Ev.bind (toDevArgS_ev l hl) (Ev.now _)

theorem eqElem_self (o : Int) (l : List S61) (hl : l.length ≤ 1099511627776) : Ev (fun k => laws_eqElem.f k o l o l) true := by
 unfold laws_eqElem.f
 simp only [if_true]
 exact Ev.bind (eqDevArgS_self l hl) (Ev.now _)

/-- How many there are of a kind. -/
def dsz (k : Int) : Int := if k = 1 ∨ k = 2 ∨ k = 5 ∨ k = 9 then 32 else if k = 3 then 64 else if k = 4 ∨ k = 7 ∨ k = 8 ∨ k = 10 then 16 else if k = 6 then 5 else 0
theorem spec_size_j1 (a : Int) (x : Bool) (hx : x = decide (a = 4 ∨ a = 7 ∨ a = 8 ∨ a = 10)) (hn : ¬ (a = 1 ∨ a = 2 ∨ a = 5 ∨ a = 9) ∧ a ≠ 3) : Ev (fun k => spec_DevSize.j1 k a x) (dsz a) := by
 refine Ev.step (f := fun _ => some (dsz a)) (fun k => ?_) (Ev.now _)
 simp only [spec_DevSize.j1, hx, decide_eq_true_eq]
 unfold dsz
 rw [if_neg hn.1, if_neg hn.2]
 repeat' split
 all_goals rfl
theorem spec_size_j0 (a : Int) (x : Bool) (hx : x = decide (a = 1 ∨ a = 2 ∨ a = 5 ∨ a = 9)) : Ev (fun k => spec_DevSize.j0 k a x) (dsz a) := by
 by_cases c : a = 1 ∨ a = 2 ∨ a = 5 ∨ a = 9
 ·refine Ev.step (f := fun _ => some (dsz a)) (fun k => ?_) (Ev.now _)
  simp only [spec_DevSize.j0, hx, decide_eq_true_eq, if_pos c]
  unfold dsz; rw [if_pos c]
 ·by_cases c3 : a = 3
  ·refine Ev.step (f := fun _ => some (dsz a)) (fun k => ?_) (Ev.now _)
   simp only [spec_DevSize.j0, hx, decide_eq_true_eq, if_neg c, if_pos c3]
   unfold dsz; rw [if_neg c, if_pos c3]
  ·refine Ev.step (f := fun k => spec_DevSize.j1 k a (decide (a = 4 ∨ a = 7 ∨ a = 8 ∨ a = 10))) (fun k => ?_) (spec_size_j1 a _ rfl ⟨c, c3⟩)
   simp only [spec_DevSize.j0, hx, decide_eq_true_eq, if_neg c, if_neg c3]
   repeat' split
   all_goals
    congr 1
    rw [Bool.eq_iff_iff]
    simp only [beq_iff_eq, decide_eq_true_eq]
    omega
theorem spec_size_ev (a : Int) : Ev (fun k => spec_DevSize.f k a) (dsz a) := by
 have key : ∀ b : Bool, b = decide (a = 1 ∨ a = 2 ∨ a = 5 ∨ a = 9) → Ev (fun k => spec_DevSize.j0 k a b) (dsz a) := fun b hb => spec_size_j0 a b hb
 unfold spec_DevSize.f
 by_cases c1 : a = 1
 ·simp only [if_pos c1]; exact key _ (by rw [Bool.eq_iff_iff]; simp only [beq_iff_eq, decide_eq_true_eq]; omega)
 simp only [if_neg c1]
 by_cases c2 : a = 2
 ·simp only [if_pos c2]; exact key _ (by rw [Bool.eq_iff_iff]; simp only [beq_iff_eq, decide_eq_true_eq]; omega)
 simp only [if_neg c2]
 by_cases c3 : a = 5
 ·simp only [if_pos c3]; exact key _ (by rw [Bool.eq_iff_iff]; simp only [beq_iff_eq, decide_eq_true_eq]; omega)
 simp only [if_neg c3]
 exact key _ (by rw [Bool.eq_iff_iff]; simp only [beq_iff_eq, decide_eq_true_eq]; omega)

theorem impl_size_j1 (a : Int) (x : Bool) (hx : x = decide (a = 4 ∨ a = 7 ∨ a = 8 ∨ a = 10)) (hn : ¬ (a = 1 ∨ a = 2 ∨ a = 5 ∨ a = 9) ∧ a ≠ 3) : Ev (fun k => impl_DevSize.j1 k a x) (dsz a) := by
 refine Ev.step (f := fun _ => some (dsz a)) (fun k => ?_) (Ev.now _)
 simp only [impl_DevSize.j1, hx, decide_eq_true_eq]
 unfold dsz
 rw [if_neg hn.1, if_neg hn.2]
 repeat' split
 all_goals rfl
theorem impl_size_j0 (a : Int) (x : Bool) (hx : x = decide (a = 1 ∨ a = 2 ∨ a = 5 ∨ a = 9)) : Ev (fun k => impl_DevSize.j0 k a x) (dsz a) := by
 by_cases c : a = 1 ∨ a = 2 ∨ a = 5 ∨ a = 9
 ·refine Ev.step (f := fun _ => some (dsz a)) (fun k => ?_) (Ev.now _)
  simp only [impl_DevSize.j0, hx, decide_eq_true_eq, if_pos c]
  unfold dsz; rw [if_pos c]
 ·by_cases c3 : a = 3
  ·refine Ev.step (f := fun _ => some (dsz a)) (fun k => ?_) (Ev.now _)
   simp only [impl_DevSize.j0, hx, decide_eq_true_eq, if_neg c, if_pos c3]
   unfold dsz; rw [if_neg c, if_pos c3]
  ·refine Ev.step (f := fun k => impl_DevSize.j1 k a (decide (a = 4 ∨ a = 7 ∨ a = 8 ∨ a = 10))) (fun k => ?_) (impl_size_j1 a _ rfl ⟨c, c3⟩)
   simp only [impl_DevSize.j0, hx, decide_eq_true_eq, if_neg c, if_neg c3]
   repeat' split
   all_goals
    congr 1
    rw [Bool.eq_iff_iff]
    simp only [beq_iff_eq, decide_eq_true_eq]
    omega
theorem impl_size_ev (a : Int) : Ev (fun k => impl_DevSize.f k a) (dsz a) := by
 have key : ∀ b : Bool, b = decide (a = 1 ∨ a = 2 ∨ a = 5 ∨ a = 9) → Ev (fun k => impl_DevSize.j0 k a b) (dsz a) := fun b hb => impl_size_j0 a b hb
 unfold impl_DevSize.f
 by_cases c1 : a = 1
 ·simp only [if_pos c1]; exact key _ (by rw [Bool.eq_iff_iff]; simp only [beq_iff_eq, decide_eq_true_eq]; omega)
 simp only [if_neg c1]
 by_cases c2 : a = 2
 ·simp only [if_pos c2]; exact key _ (by rw [Bool.eq_iff_iff]; simp only [beq_iff_eq, decide_eq_true_eq]; omega)
 simp only [if_neg c2]
 by_cases c3 : a = 5
 ·simp only [if_pos c3]; exact key _ (by rw [Bool.eq_iff_iff]; simp only [beq_iff_eq, decide_eq_true_eq]; omega)
 simp only [if_neg c3]
 exact key _ (by rw [Bool.eq_iff_iff]; simp only [beq_iff_eq, decide_eq_true_eq]; omega)

/-- Whether an operand is ok. -/
def dok (a b c : Int) : Bool := if a = 11 then decide (-32768 ≤ b ∧ b ≤ 32767 ∧ c = 0) else if a = 12 then decide (-999999999 ≤ b ∧ b ≤ 999999999 ∧ 1 ≤ c ∧ c ≤ 6 ∧ (c = 1 ∨ Int.tmod b 10 ≠ 0)) else if a = 13 then decide (0 ≤ b ∧ b ≤ 3 ∧ c = 0) else decide (0 ≤ b ∧ b < dsz a ∧ c = 0)
theorem spec_dok_ev (a b c : Int) : Ev (fun k => spec_DevOk.f k a b c) (dok a b c) := by
 unfold spec_DevOk.f dok
 by_cases c1 : a = 11
 ·simp only [if_pos c1]
  refine Ev.congr (f := fun _ => some _) (fun k => ?_) (Ev.now _)
  repeat' split
  all_goals
   rw [Option.some.injEq, Bool.eq_iff_iff]
   simp only [beq_iff_eq, decide_eq_true_eq, Bool.false_eq_true, false_iff, true_iff]
   omega
 simp only [if_neg c1]
 by_cases c2 : a = 12
 ·simp only [if_pos c2]
  refine Ev.congr (f := fun _ => some _) (fun k => ?_) (Ev.now _)
  generalize Int.tmod b 10 = q
  repeat' split
  all_goals
   rw [Option.some.injEq, Bool.eq_iff_iff]
   simp only [bne_iff_ne, ne_eq, decide_eq_true_eq, Bool.false_eq_true, false_iff, true_iff]
   omega
 simp only [if_neg c2]
 by_cases c3 : a = 13
 ·simp only [if_pos c3]
  refine Ev.congr (f := fun _ => some _) (fun k => ?_) (Ev.now _)
  repeat' split
  all_goals
   rw [Option.some.injEq, Bool.eq_iff_iff]
   simp only [beq_iff_eq, decide_eq_true_eq, Bool.false_eq_true, false_iff, true_iff]
   omega
 simp only [if_neg c3]
 by_cases c4 : b ≥ 0
 ·simp only [if_pos c4]
  refine Ev.bind (spec_size_ev a) ?_
  refine Ev.congr (f := fun _ => some _) (fun k => ?_) (Ev.now _)
  generalize dsz a = q
  split
  all_goals
   rw [Option.some.injEq, Bool.eq_iff_iff]
   simp only [beq_iff_eq, decide_eq_true_eq, Bool.false_eq_true, false_iff, true_iff]
   omega
 ·simp only [if_neg c4]
  rw [decide_eq_false (by omega)]
  exact Ev.now _

theorem impl_dok_ev (a b c : Int) : Ev (fun k => impl_DevOk.f k a b c) (dok a b c) := by
 unfold impl_DevOk.f dok
 simp only [in_eq, Option.bind_some, decide_eq_true_eq]
 by_cases c1 : a = 11
 ·simp only [if_pos c1]
  refine Ev.congr (f := fun _ => some _) (fun k => ?_) (Ev.now _)
  repeat' split
  all_goals
   rw [Option.some.injEq, Bool.eq_iff_iff]
   simp only [beq_iff_eq, decide_eq_true_eq, Bool.false_eq_true, false_iff, true_iff]
   omega
 simp only [if_neg c1]
 by_cases c2 : a = 12
 ·simp only [if_pos c2]
  refine Ev.congr (f := fun _ => some _) (fun k => ?_) (Ev.now _)
  generalize Int.tmod b 10 = q
  repeat' split
  all_goals
   rw [Option.some.injEq, Bool.eq_iff_iff]
   simp only [bne_iff_ne, ne_eq, decide_eq_true_eq, Bool.false_eq_true, false_iff, true_iff]
   omega
 simp only [if_neg c2]
 by_cases c3 : a = 13
 ·simp only [if_pos c3]
  refine Ev.congr (f := fun _ => some _) (fun k => ?_) (Ev.now _)
  repeat' split
  all_goals
   rw [Option.some.injEq, Bool.eq_iff_iff]
   simp only [beq_iff_eq, decide_eq_true_eq, Bool.false_eq_true, false_iff, true_iff]
   omega
 simp only [if_neg c3]
 by_cases c4 : b ≥ 0
 ·simp only [if_pos c4]
  refine Ev.bind (impl_size_ev a) ?_
  refine Ev.congr (f := fun _ => some _) (fun k => ?_) (Ev.now _)
  generalize dsz a = q
  split
  all_goals
   rw [Option.some.injEq, Bool.eq_iff_iff]
   simp only [beq_iff_eq, decide_eq_true_eq, Bool.false_eq_true, false_iff, true_iff]
   omega
 ·simp only [if_neg c4]
  rw [decide_eq_false (by omega)]
  exact Ev.now _

theorem index_loop (l : List Int) (x : Int) (hl : l.length ≤ 1048576) (d : Nat) : ∀ i : Nat, l.length - i = d → i ≤ l.length →
  Tells (fun k => slices_Index_int_int.l0 k l x (l.length : Int) (i : Int)) (fun r => decide (r ≥ 0) = decide (x ∈ l.drop i)) := by
 induction d with
 | zero =>
  intro i hd hi
  obtain rfl : i = l.length := by omega
  rw [List.drop_length]
  refine Tells.step (f := fun _ => some (-1)) (fun k => ?_) (Tells.now (by simp))
  simp only [slices_Index_int_int.l0]; rw [if_neg (by omega)]
 | succ d ih =>
  intro i hd hi
  have hlt : i < l.length := by omega
  have w : wrap64 ((i : Int) + 1) = ((i + 1 : Nat) : Int) := by unfold wrap64; omega
  have hr : rd l (i : Int) = l[i] := by unfold rd; simp [List.getD_eq_getElem?_getD, hlt]
  rw [List.drop_eq_getElem_cons hlt]
  by_cases c : x = l[i]
  ·refine Tells.step (f := fun _ => some (i : Int)) (fun k => ?_) (Tells.now ?_)
   ·simp only [slices_Index_int_int.l0]
    rw [if_pos (by omega), if_pos (by omega), if_pos (by omega), hr, if_pos c]
   ·rw [decide_eq_true (by omega), decide_eq_true (by rw [c]; exact List.mem_cons_self ..)]
  ·refine Tells.step (fun k => ?_) ((ih (i + 1) (by omega) (by omega)).mono fun r hr2 => ?_)
   ·simp only [slices_Index_int_int.l0]
    rw [if_pos (by omega), if_pos (by omega), if_pos (by omega), hr, if_neg c, w]
   ·rw [hr2, decide_eq_decide, List.mem_cons]
    exact ⟨fun h => .inr h, fun h => h.resolve_left c⟩
theorem contains_ev (l : List Int) (x : Int) (hl : l.length ≤ 1048576) : Ev (fun k => slices_Contains_int_int.f k l x) (decide (x ∈ l)) := by
 obtain ⟨r, h1, h2⟩ := index_loop l x hl l.length 0 (by omega) (by omega)
 rw [List.drop_zero] at h2
 unfold slices_Contains_int_int.f
 rw [← h2]
 exact Ev.bind h1 (Ev.now _)

theorem kindIs_ev (a b c : Int) (l : List Int) (hl : l.length ≤ 1048576) : Ev (fun k => impl_DevArg_kindIs.f k a b c l) (dok a b c && decide (a ∈ l)) := by
 unfold impl_DevArg_kindIs.f
 refine Ev.bind (impl_dok_ev a b c) ?_
 cases dok a b c
 ·exact Ev.now _
 ·simp only [if_true, Bool.true_and]
  exact Ev.bind (contains_ev l a hl) (Ev.now _)

def cmp (o a b : Int) : Bool := if o = 1 then decide (a < b) else if o = 2 then decide (a ≤ b) else if o = 3 then a == b else if o = 4 then a != b else if o = 5 then decide (a ≥ b) else if o = 6 then decide (a > b) else false
theorem spec_cmp (o a b : Int) : spec_WholeCmp.f o a b = some (cmp o a b) := by
 unfold spec_WholeCmp.f cmp
 repeat' split
 all_goals rfl
theorem impl_cmp (o a b : Int) : impl_WholeCmp.f o a b = some (cmp o a b) := by
 unfold impl_WholeCmp.f impl_test_int16.f cmp
 repeat' split
 all_goals rfl
end Go.Proofs.YtaegonmpjgdmgaaDoor.BActT
