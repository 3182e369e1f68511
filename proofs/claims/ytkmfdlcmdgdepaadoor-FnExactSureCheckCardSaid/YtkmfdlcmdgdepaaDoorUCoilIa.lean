/- What impl.ElemIsCoil answers, and that it does. -/
import Derived.Test.YtkmfdlcmdgdepaaDoorProg
import Derived.Test.YtkmfdlcmdgdepaaDoorMW
import Derived.Test.YtkmfdlcmdgdepaaDoorUzTell
import Derived.WalkKit
import Derived.Deep.LoopGhost
import Derived.Deep.DeepCutAuto
import Derived.BigFrame
import Derived.Deep.QuietTactic
import Derived.BigQuiet
import Derived.Test.YtkmfdlcmdgdepaaDoorUCoilS
import Derived.Test.YtkmfdlcmdgdepaaDoorUzTab
import Derived.Test.YtkmfdlcmdgdepaaDoorUx12
import Derived.Test.YtkmfdlcmdgdepaaDoorUx13
import Derived.Test.YtkmfdlcmdgdepaaDoorUx14
import Derived.Test.YtkmfdlcmdgdepaaDoorUx15
import Derived.Test.YtkmfdlcmdgdepaaDoorUx16
import Derived.Test.YtkmfdlcmdgdepaaDoorUx17
import Derived.Test.YtkmfdlcmdgdepaaDoorUx27
namespace Go.Proofs.YtkmfdlcmdgdepaaDoor.U
open Go Go.RowKit Go.Proofs.YtkmfdlcmdgdepaaDoor.Tell Go.Proofs.YtkmfdlcmdgdepaaDoorW Go.Proofs.YtkmfdlcmdgdepaaDoorW.PrintWords Go.Proofs.YtkmfdlcmdgdepaaDoorW.PrintLast Go.Proofs.YtkmfdlcmdgdepaaDoorW.PrintMore Go.Proofs.YtkmfdlcmdgdepaaDoor.MW
set_option linter.unusedVariables false
set_option linter.unusedSimpArgs false
set_option maxRecDepth 100000
section
variable {P : Program} {ops : Array Oper} {Q : Exit → Act → World → Prop} {K : Act → World → Prop} {o : Oper} {a : Act} {w W W' : World} {L L' : List (Nat × Array Value)} {g off n : Nat} {cs cs' seg : Array Value} {ty : TypeId} {p x : Operand} {v : Value}
theorem _root_.Go.Proofs.YtkmfdlcmdgdepaaDoor.MW.Priv.sub (H : Priv w W L) (hs : ∀ x ∈ L', x ∈ L) (hn : (L'.map (·.1)).Nodup) : Priv w W L' :=
 ⟨H.below, fun x hx => H.ge x (hs x hx), fun x hx => H.blk x (hs x hx), hn⟩
theorem wanted_of (hgd : o.guard = none) : Region.wanted o (yielded ops a.tmps) = true := by simp [Region.wanted, hgd]
theorem step_store_seg (hw : Region.wanted o (yielded ops a.tmps) = true) (HS : Priv w W L) {i : Nat} (hN : o.dst = none) (ho : o.op = .store ty p x) (hz : aggSize P ty = some n) (hp : a.eval p = .pointer (some ⟨g, off, none⟩)) (hx : a.eval x = .agg seg) (hi : L[i]? = some (g, cs)) (he : lay cs off seg = cs') (hn : seg.size = n)
  (hf : off + seg.size ≤ cs.size) (h1 : ∀ u ∈ seg, u.oneCell' = true) (h : ∀ W', Priv w W' (L.set i (g, cs')) → K a W') : if Region.wanted o (yielded ops a.tmps) = true then Oper.wp P o a W K Q else K (a.put none undef) W := by
 subst he
 refine PrintLast.skip_ hw hN ?_ (h _ (HS.set hi _))
 unfold execOp
 simp [ho, hp, hx, Instr.storeAt, Instr.sureAddr, run_store_seg (v := .agg seg) (HS.at_ hi) (isAgg_of (hn ▸ hz)).2 hf h1 rfl]
end
theorem start_R {P : Program} {ops : Array Oper} {Q : Exit → Act → World → Prop} {a : Act} {w W : World} {L LS : List (Nat × Array Value)} {id n : Nat} (fl : Array Bool) (HS : Priv w W L) (hm : P.follows .mixedOrders = true) (hn : ops.size = n) (hl : Array.replicate n false = fl) (hS : ∀ W', Priv w W' L → Priv w W' LS)
  (h : ∀ W', Priv w W' L → Priv w W' LS → PrintLast.wpAnyLast P .any ops Q (fun W' => Priv w W' LS) [] n fl a W') : (Code.region id ops true).wp P Q a W :=
 PrintLast.start_ fl hm hn hl (hS _ HS.drew) (fun hh => h _ HS.drew hh)
theorem _root_.Go.Proofs.YtkmfdlcmdgdepaaDoor.MW.Priv.swap {w W : World} {x y : Nat × Array Value} {L : List (Nat × Array Value)} (H : Priv w W (x :: y :: L)) : Priv w W (y :: x :: L) :=
 H.sub (fun z hz => by simp only [List.mem_cons] at hz ⊢; rcases hz with h | h | h <;> simp [h]) (by
  have h := H.nd
  simp only [List.map_cons, List.nodup_cons, List.mem_cons, not_or] at h ⊢
  exact ⟨⟨fun e => h.1.1 e.symm, h.2.1⟩, h.1.2, h.2.2⟩)
theorem run_alloc {P : Program} {o : Oper} {a : Act} {W : World} {ty : TypeId} {cs : Array Value} (ho : o.op = .alloc ty) (hz : zeroOf P ty = some cs) : (execOp a.eval o).run P W = .ok (.value (.pointer (some ⟨W.heap.size, 0, none⟩))) (W.alloc (.cells cs ty)) := by
 unfold zeroOf at hz
 cases hi : P.info? ty with
 | none => rw [hi] at hz; cases hz
 | some ii =>
  rw [hi] at hz
  cases hzz : ii.zero with
  | none => simp [hzz] at hz
  | some z =>
   simp [hzz] at hz
   subst hz
   unfold execOp
   simp [ho, Instr.alloc, zeroValue, typeInfo, hi, hzz, newVar, newRow, newObj]
   rfl
theorem step_alloc {P : Program} {ops : Array Oper} {Q : Exit → Act → World → Prop} {K : Act → World → Prop} {o : Oper} {a : Act} {w W : World} {L : List (Nat × Array Value)} {N : Option Tmp} {ty : TypeId} {cs : Array Value} (hw : Region.wanted o (yielded ops a.tmps) = true) (HS : Priv w W L) (hN : o.dst = N) (ho : o.op = .alloc ty) (hz : zeroOf P ty = some cs)
  (h : ∀ g W', Priv w W' ((g, cs) :: L) → K (a.put N (.pointer (some ⟨g, 0, none⟩))) W') : if Region.wanted o (yielded ops a.tmps) = true then Oper.wp P o a W K Q else K (a.put N undef) W :=
 PrintLast.value_ hw hN (run_alloc ho hz) (h _ _ (HS.alloc cs ty))
theorem step_store_one {P : Program} {ops : Array Oper} {Q : Exit → Act → World → Prop} {K : Act → World → Prop} {o : Oper} {a : Act} {w W : World} {L : List (Nat × Array Value)} {g off i : Nat} {cs cs' : Array Value} {ty : TypeId} {p x : Operand} {v : Value} (hw : Region.wanted o (yielded ops a.tmps) = true) (HS : Priv w W L) (hN : o.dst = none) (ho : o.op = .store ty p x) (hz : oneT P ty = true) (hp : a.eval p = .pointer (some ⟨g, off, none⟩)) (hx : a.eval x = v) (hi : L[i]? = some (g, cs)) (he : lay cs off #[v] = cs')
  (hf : off < cs.size) (h1 : v.oneCell' = true) (hv : v.cells = #[v]) (h : ∀ W', Priv w W' (L.set i (g, cs')) → K a W') : if Region.wanted o (yielded ops a.tmps) = true then Oper.wp P o a W K Q else K (a.put none undef) W := by
 subst he
 refine PrintLast.skip_ hw hN ?_ (h _ (HS.set hi _))
 unfold execOp
 simp [ho, hp, hx, Instr.storeAt, Instr.sureAddr, run_store_seg (v := v) (off := off) (seg := #[v]) (HS.at_ hi) (isOne_of hz).2 (by simp; omega) (by simpa using h1) hv]
theorem _root_.Go.Proofs.YtkmfdlcmdgdepaaDoor.MW.Priv.drop1 {w W : World} {x : Nat × Array Value} {L : List (Nat × Array Value)} (H : Priv w W (x :: L)) : Priv w W L := H.sub (fun y hy => List.mem_cons_of_mem _ hy) (List.nodup_cons.1 H.nd).2
theorem list_name {w W : World} {L : List (Nat × Array Value)} {G : Prop} (H : Priv w W L) (h : ∀ L0, L0 = L → Priv w W L0 → G) : G := h L rfl H
theorem in_eq (a l h : Int) : impl_in.f a l h = some (decide (l ≤ a ∧ a ≤ h)) := by
 unfold impl_in.f
 by_cases c : l ≤ a
 ·rw [if_pos c]; simp [c]
 ·rw [if_neg c]; simp [c]

theorem impl_size_j1 (a : Int) (x : Bool) (hx : x = decide (a = 4 ∨ a = 7 ∨ a = 8 ∨ a = 10)) (hn : ¬ (a = 1 ∨ a = 2 ∨ a = 5 ∨ a = 9) ∧ a ≠ 3) : Ev (fun k => impl_DevSize.j1 k a x) (dsz a) := by
 refine Ev.step (f := fun _ => some (dsz a)) (fun k => ?_) (Ev.now _)
 simp only [impl_DevSize.j1, hx, decide_eq_true_eq]
 unfold dsz
 rw [if_neg hn.1, if_neg hn.2]
 repeat' split
 all_goals rfl
theorem impl_size_j0 (a : Int) (x : Bool) (hx : x = decide (a = 1 ∨ a = 2 ∨ a = 5 ∨ a = 9)) : Ev (fun k => impl_DevSize.j0 k a x) (dsz a) := by
 by_cases c : a = 1 ∨ a = 2 ∨ a = 5 ∨ a = 9
 ·refine Ev.step (f := fun _ => some (dsz a)) (fun k => ?_) (Ev.now _)
  simp only [impl_DevSize.j0, hx, decide_eq_true_eq, if_pos c]
  unfold dsz; rw [if_pos c]
 ·by_cases c3 : a = 3
  ·refine Ev.step (f := fun _ => some (dsz a)) (fun k => ?_) (Ev.now _)
   simp only [impl_DevSize.j0, hx, decide_eq_true_eq, if_neg c, if_pos c3]
   unfold dsz; rw [if_neg c, if_pos c3]
  ·refine Ev.step (f := fun k => impl_DevSize.j1 k a (decide (a = 4 ∨ a = 7 ∨ a = 8 ∨ a = 10))) (fun k => ?_) (impl_size_j1 a _ rfl ⟨c, c3⟩)
   simp only [impl_DevSize.j0, hx, decide_eq_true_eq, if_neg c, if_neg c3]
   repeat' split
   all_goals
    congr 1
    rw [Bool.eq_iff_iff]
    simp only [beq_iff_eq, decide_eq_true_eq]
    omega
theorem impl_size_ev (a : Int) : Ev (fun k => impl_DevSize.f k a) (dsz a) := by
 have key : ∀ b : Bool, b = decide (a = 1 ∨ a = 2 ∨ a = 5 ∨ a = 9) → Ev (fun k => impl_DevSize.j0 k a b) (dsz a) := fun b hb => impl_size_j0 a b hb
 unfold impl_DevSize.f
 by_cases c1 : a = 1
 ·simp only [if_pos c1]; exact key _ (by rw [Bool.eq_iff_iff]; simp only [beq_iff_eq, decide_eq_true_eq]; omega)
 simp only [if_neg c1]
 by_cases c2 : a = 2
 ·simp only [if_pos c2]; exact key _ (by rw [Bool.eq_iff_iff]; simp only [beq_iff_eq, decide_eq_true_eq]; omega)
 simp only [if_neg c2]
 by_cases c3 : a = 5
 ·simp only [if_pos c3]; exact key _ (by rw [Bool.eq_iff_iff]; simp only [beq_iff_eq, decide_eq_true_eq]; omega)
 simp only [if_neg c3]
 exact key _ (by rw [Bool.eq_iff_iff]; simp only [beq_iff_eq, decide_eq_true_eq]; omega)

theorem impl_dok_ev (a b c : Int) : Ev (fun k => impl_DevOk.f k a b c) (dok a b c) := by
 unfold impl_DevOk.f dok
 simp only [in_eq, Option.bind_some, decide_eq_true_eq]
 by_cases c1 : a = 11
 ·simp only [if_pos c1]
  refine Ev.congr (f := fun _ => some _) (fun k => ?_) (Ev.now _)
  repeat' split
  all_goals
   rw [Option.some.injEq, Bool.eq_iff_iff]
   simp only [beq_iff_eq, decide_eq_true_eq, Bool.false_eq_true, false_iff, true_iff]
   omega
 simp only [if_neg c1]
 by_cases c2 : a = 12
 ·simp only [if_pos c2]
  refine Ev.congr (f := fun _ => some _) (fun k => ?_) (Ev.now _)
  generalize Int.tmod b 10 = q
  repeat' split
  all_goals
   rw [Option.some.injEq, Bool.eq_iff_iff]
   simp only [bne_iff_ne, ne_eq, decide_eq_true_eq, Bool.false_eq_true, false_iff, true_iff]
   omega
 simp only [if_neg c2]
 by_cases c3 : a = 13
 ·simp only [if_pos c3]
  refine Ev.congr (f := fun _ => some _) (fun k => ?_) (Ev.now _)
  repeat' split
  all_goals
   rw [Option.some.injEq, Bool.eq_iff_iff]
   simp only [beq_iff_eq, decide_eq_true_eq, Bool.false_eq_true, false_iff, true_iff]
   omega
 simp only [if_neg c3]
 by_cases c4 : b ≥ 0
 ·simp only [if_pos c4]
  refine Ev.bind (impl_size_ev a) ?_
  refine Ev.congr (f := fun _ => some _) (fun k => ?_) (Ev.now _)
  generalize dsz a = q
  split
  all_goals
   rw [Option.some.injEq, Bool.eq_iff_iff]
   simp only [beq_iff_eq, decide_eq_true_eq, Bool.false_eq_true, false_iff, true_iff]
   omega
 ·simp only [if_neg c4]
  rw [decide_eq_false (by omega)]
  exact Ev.now _

theorem index_loop (l : List Int) (x : Int) (hl : l.length ≤ 1048576) (d : Nat) : ∀ i : Nat, l.length - i = d → i ≤ l.length →
  Tells (fun k => slices_Index_int_int.l0 k l x (l.length : Int) (i : Int)) (fun r => decide (r ≥ 0) = decide (x ∈ l.drop i)) := by
 induction d with
 | zero =>
  intro i hd hi
  obtain rfl : i = l.length := by omega
  rw [List.drop_length]
  refine Tells.step (f := fun _ => some (-1)) (fun k => ?_) (Tells.now (by simp))
  simp only [slices_Index_int_int.l0]; rw [if_neg (by omega)]
 | succ d ih =>
  intro i hd hi
  have hlt : i < l.length := by omega
  have w : wrap64 ((i : Int) + 1) = ((i + 1 : Nat) : Int) := by unfold wrap64; omega
  have hr : rd l (i : Int) = l[i] := by unfold rd; simp [List.getD_eq_getElem?_getD, hlt]
  rw [List.drop_eq_getElem_cons hlt]
  by_cases c : x = l[i]
  ·refine Tells.step (f := fun _ => some (i : Int)) (fun k => ?_) (Tells.now ?_)
   ·simp only [slices_Index_int_int.l0]
    rw [if_pos (by omega), if_pos (by omega), if_pos (by omega), hr, if_pos c]
   ·rw [decide_eq_true (by omega), decide_eq_true (by rw [c]; exact List.mem_cons_self ..)]
  ·refine Tells.step (fun k => ?_) ((ih (i + 1) (by omega) (by omega)).mono fun r hr2 => ?_)
   ·simp only [slices_Index_int_int.l0]
    rw [if_pos (by omega), if_pos (by omega), if_pos (by omega), hr, if_neg c, w]
   ·rw [hr2, decide_eq_decide, List.mem_cons]
    exact ⟨fun h => .inr h, fun h => h.resolve_left c⟩
theorem contains_ev (l : List Int) (x : Int) (hl : l.length ≤ 1048576) : Ev (fun k => slices_Contains_int_int.f k l x) (decide (x ∈ l)) := by
 obtain ⟨r, h1, h2⟩ := index_loop l x hl l.length 0 (by omega) (by omega)
 rw [List.drop_zero] at h2
 unfold slices_Contains_int_int.f
 rw [← h2]
 exact Ev.bind h1 (Ev.now _)

theorem kindIs_ev (a b c : Int) (l : List Int) (hl : l.length ≤ 1048576) : Ev (fun k => impl_DevArg_kindIs.f k a b c l) (dok a b c && decide (a ∈ l)) := by
 unfold impl_DevArg_kindIs.f
 refine Ev.bind (impl_dok_ev a b c) ?_
 cases dok a b c
 ·exact Ev.now _
 ·simp only [if_true, Bool.true_and]
  exact Ev.bind (contains_ev l a hl) (Ev.now _)

theorem impl_isW_ev (a b c : Int) : Ev (fun k => impl_DevIsWhole.f k a b c) (isW a b c) := by
 have e : (dok a b c && decide (a ∈ ([7, 8, 9, 11] : List Int))) = isW a b c := by
  unfold isW
  congr 1
  rw [decide_eq_decide]
  simp only [List.mem_cons, List.not_mem_nil, or_false]
 unfold impl_DevIsWhole.f
 rw [← e]
 exact Ev.bind (kindIs_ev a b c _ (by decide)) (Ev.now _)

theorem impl_isR_ev (a b c : Int) : Ev (fun k => impl_DevIsReal.f k a b c) (isR a b c) := by
 have e : (dok a b c && decide (a ∈ ([10, 12, 13] : List Int))) = isR a b c := by
  unfold isR
  congr 1
  rw [decide_eq_decide]
  simp only [List.mem_cons, List.not_mem_nil, or_false]
 unfold impl_DevIsReal.f
 rw [← e]
 exact Ev.bind (kindIs_ev a b c _ (by decide)) (Ev.now _)

theorem allR_loop (l : List S55) (hl : l.length ≤ 1048576) (d : Nat) : ∀ i : Nat, l.length - i = d → i ≤ l.length →
  Ev (fun k => impl_DevArg_62.l0 k l (l.length : Int) (i : Int)) ((l.drop i).all fun x => isR x.f0 x.f1 x.f2) := by
 induction d with
 | zero =>
  intro i hd hi
  obtain rfl : i = l.length := by omega
  rw [List.drop_length]
  refine Ev.step (f := fun _ => some true) (fun k => ?_) (Ev.now _)
  simp only [impl_DevArg_62.l0]; rw [if_neg (by omega)]
 | succ d ih =>
  intro i hd hi
  have hlt : i < l.length := by omega
  have w : wrap64 ((i : Int) + 1) = ((i + 1 : Nat) : Int) := by unfold wrap64; omega
  have hg : rd_T55 l (i : Int) = l[i] := by unfold rd_T55; rw [Int.toNat_natCast, getD_lt l _ i hlt]
  have hr := ih (i + 1) (by omega) (by omega)
  rw [List.drop_eq_getElem_cons hlt, List.all_cons]
  refine Ev.step (f := fun k => (impl_DevArg_66.f k l[i].f0 l[i].f1 l[i].f2).bind fun t196 => (if t196 = true then (some false) else (impl_DevArg_62.l0 k l (l.length : Int) ((i + 1 : Nat) : Int)))) (fun k => ?_) ?_
  ·simp only [impl_DevArg_62.l0]
   rw [if_pos (by omega), if_pos (by omega), if_pos (by omega), hg, w]
  ·refine Ev.bind (a := !(isR l[i].f0 l[i].f1 l[i].f2)) (by unfold impl_DevArg_66.f; exact Ev.bind (impl_isR_ev _ _ _) (Ev.now _)) ?_
   cases isR l[i].f0 l[i].f1 l[i].f2
   ·exact Ev.now _
   ·exact hr
theorem allR_ev (l : List S55) (hl : l.length ≤ 1048576) : Ev (fun k => impl_DevArg_62.f k l) (l.all fun x => isR x.f0 x.f1 x.f2) := by
 unfold impl_DevArg_62.f
 exact allR_loop l hl l.length 0 (by omega) (by omega)

theorem allW_loop (l : List S55) (hl : l.length ≤ 1048576) (d : Nat) : ∀ i : Nat, l.length - i = d → i ≤ l.length →
  Ev (fun k => impl_all.l0 k l (l.length : Int) (i : Int)) ((l.drop i).all fun x => isW x.f0 x.f1 x.f2) := by
 induction d with
 | zero =>
  intro i hd hi
  obtain rfl : i = l.length := by omega
  rw [List.drop_length]
  refine Ev.step (f := fun _ => some true) (fun k => ?_) (Ev.now _)
  simp only [impl_all.l0]; rw [if_neg (by omega)]
 | succ d ih =>
  intro i hd hi
  have hlt : i < l.length := by omega
  have w : wrap64 ((i : Int) + 1) = ((i + 1 : Nat) : Int) := by unfold wrap64; omega
  have hg : rd_T55 l (i : Int) = l[i] := by unfold rd_T55; rw [Int.toNat_natCast, getD_lt l _ i hlt]
  have hr := ih (i + 1) (by omega) (by omega)
  rw [List.drop_eq_getElem_cons hlt, List.all_cons]
  refine Ev.step (f := fun k => (impl_all_1.f k l[i].f0 l[i].f1 l[i].f2).bind fun t196 => (if t196 = true then (some false) else (impl_all.l0 k l (l.length : Int) ((i + 1 : Nat) : Int)))) (fun k => ?_) ?_
  ·simp only [impl_all.l0]
   rw [if_pos (by omega), if_pos (by omega), if_pos (by omega), hg, w]
  ·refine Ev.bind (a := !(isW l[i].f0 l[i].f1 l[i].f2)) (by unfold impl_all_1.f; exact Ev.bind (impl_isW_ev _ _ _) (Ev.now _)) ?_
   cases isW l[i].f0 l[i].f1 l[i].f2
   ·exact Ev.now _
   ·exact hr
theorem allW_ev (l : List S55) (hl : l.length ≤ 1048576) : Ev (fun k => impl_all.f k l) (l.all fun x => isW x.f0 x.f1 x.f2) := by
 unfold impl_all.f
 exact allW_loop l hl l.length 0 (by omega) (by omega)

theorem iAr_j0 (x : Int) (b : Bool) (hb : b = decide (x = 1 ∨ x = 2 ∨ (21 ≤ x ∧ x ≤ 23) ∨ x = 25)) : Ev (fun k => impl_ElemArity.j0 k x b) (ar x) := by
 refine Ev.step (f := fun _ => some (ar x)) (fun k => ?_) (Ev.now _)
 simp only [impl_ElemArity.j0, hb, decide_eq_true_eq, in_eq, Option.bind_some]
 unfold ar
 repeat' split
 all_goals first | rfl | omega
theorem iAr_ev (x : Int) : Ev (fun k => impl_ElemArity.f k x) (ar x) := by
 have key : ∀ b : Bool, b = decide (x = 1 ∨ x = 2 ∨ (21 ≤ x ∧ x ≤ 23) ∨ x = 25) → Ev (fun k => impl_ElemArity.j0 k x b) (ar x) := fun b hb => iAr_j0 x b hb
 unfold impl_ElemArity.f
 by_cases c1 : x = 1
 ·simp only [if_pos c1]; exact key _ (by rw [Bool.eq_iff_iff]; simp only [beq_iff_eq, decide_eq_true_eq]; omega)
 simp only [if_neg c1]
 by_cases c2 : x = 2
 ·simp only [if_pos c2]; exact key _ (by rw [Bool.eq_iff_iff]; simp only [beq_iff_eq, decide_eq_true_eq]; omega)
 simp only [if_neg c2, in_eq, Option.bind_some, decide_eq_true_eq]
 by_cases c3 : 21 ≤ x ∧ x ≤ 23
 ·simp only [if_pos c3]; exact key _ (by rw [decide_eq_decide]; omega)
 simp only [if_neg c3]
 exact key _ (by rw [Bool.eq_iff_iff]; simp only [beq_iff_eq, decide_eq_true_eq]; omega)

theorem kd_eq (x : S55) (l : List Int) (k j : Int) (h : ∀ a : Int, a ∈ l ↔ (a = k ∨ a = j)) : (dok x.f0 x.f1 x.f2 && decide (x.f0 ∈ l)) = lk x k j := by
 unfold lk
 congr 1
 rw [decide_eq_decide]; exact h _
theorem iK (x : S55) (l : List Int) (r : Bool) (hr : (dok x.f0 x.f1 x.f2 && decide (x.f0 ∈ l)) = r) (hl : l.length ≤ 1048576) (B : Option Addr) (m c : Nat) (hm : m = l.length) (w : World) (ht : TB.Tab w) {base : Nat} {ok : Nat → Prop} (hR : Kd.R (Kd.int .i64) 3 w base ok (.slice B m c) l) : Calls Tryd.prog 47 #[.agg #[.int .i64 x.f0, .int .i64 x.f1, .int .i64 x.f2], .slice B m c] w (MW.Ret w (· = .bool r)) := by
 subst hm
 obtain ⟨n, hn⟩ := tell_ (kindIs_ev x.f0 x.f1 x.f2 l hl)
 rw [hr] at hn
 exact MW.Ret.of_eq (impl_DevArg_kindIs.calls n _ _ _ _ _ _ _ w ht (Kd.R_reads' hR).2.2 (Kd.R_reads' hR).2.1 hn)
theorem iW (x : S55) (w : World) (ht : TB.Tab w) : Calls Tryd.prog 50 #[.agg #[.int .i64 x.f0, .int .i64 x.f1, .int .i64 x.f2]] w (MW.Ret w (· = .bool (wW x))) := by
 obtain ⟨n, hn⟩ := tell_ (impl_isW_ev x.f0 x.f1 x.f2)
 exact MW.Ret.of_eq (impl_DevIsWhole.calls n _ _ _ _ w ht hn)
theorem iR (x : S55) (w : World) (ht : TB.Tab w) : Calls Tryd.prog 56 #[.agg #[.int .i64 x.f0, .int .i64 x.f1, .int .i64 x.f2]] w (MW.Ret w (· = .bool (wR x))) := by
 obtain ⟨n, hn⟩ := tell_ (impl_isR_ev x.f0 x.f1 x.f2)
 exact MW.Ret.of_eq (impl_DevIsReal.calls n _ _ _ _ w ht hn)
theorem iAW (l : List S55) (hl : l.length ≤ 1000) (B : Option Addr) (m c : Nat) (hm : m = l.length) (w : World) (ht : TB.Tab w) (hr : Kd.C k55 w B l.length l) (hc : l.length ≤ c) : Calls Tryd.prog 49 #[.slice B m c, .func (.func 50) #[] #[]] w (MW.Ret w (· = .bool (l.all wW))) := by
 subst hm
 obtain ⟨n, hn⟩ := tell_ (allW_ev l (by omega))
 exact MW.Ret.of_eq (impl_all.calls n _ _ _ _ w ht hr hc hn)
theorem iAR (l : List S55) (hl : l.length ≤ 1000) (B : Option Addr) (m c : Nat) (hm : m = l.length) (w : World) (ht : TB.Tab w) (hr : Kd.C k55 w B l.length l) (hc : l.length ≤ c) : Calls Tryd.prog 49 #[.slice B m c, .func (.func 56) #[] #[]] w (MW.Ret w (· = .bool (l.all wR))) := by
 subst hm
 obtain ⟨n, hn⟩ := tell_ (allR_ev l (by omega))
 exact MW.Ret.of_eq (impl_DevArg_62.calls n _ _ _ _ w ht hr hc hn)
theorem preset_ev (y : S55) (l : List S55) : Ev (fun k => impl_ElemIsCoil_1.f k (y :: l)) (lk y 11 11 && decide (0 ≤ y.f1)) := by
 unfold impl_ElemIsCoil_1.f
 refine Ev.congr (f := fun k => (impl_DevArg_kindIs.f k y.f0 y.f1 y.f2 [11]).bind fun t => (if t = true then (some (decide (y.f1 ≥ 0))) else (some false))) (fun k => if_pos (show 0 < ((y :: l).length : Int) by simp)) ?_
 refine Ev.bind (kindIs_ev _ _ _ _ (by decide)) ?_
 rw [kd_eq y [11] 11 11 (fun a => by simp)]
 cases lk y 11 11 <;> exact Ev.now _
theorem iP (y : S55) (l : List S55) (B : Option Addr) (m c : Nat) (hm : m = (y :: l).length) (w : World) (ht : TB.Tab w) (gb : Nat) (hbx : w.cell? ⟨gb, 0, none⟩ = some (.slice B m c)) (hr : Kd.C k55 w B (y :: l).length (y :: l)) (hc : (y :: l).length ≤ c) : Calls Tryd.prog 55 #[.pointer (some ⟨gb, 0, none⟩)] w (MW.Ret w (· = .bool (lk y 11 11 && decide (0 ≤ y.f1)))) := by
 subst hm
 obtain ⟨n, hn⟩ := tell_ (preset_ev y l)
 exact MW.Ret.of_eq (impl_ElemIsCoil_1.calls n _ _ _ _ w ht gb hbx hr hc hn)
theorem kd3 (x : S55) : (dok x.f0 x.f1 x.f2 && decide (x.f0 ∈ ([2, 3, 4] : List Int))) = (lk x 2 3 || lk x 4 4) := by
 unfold lk
 cases dok x.f0 x.f1 x.f2
 ·rfl
 ·rw [Bool.true_and, Bool.true_and, Bool.true_and, Bool.eq_iff_iff]
  simp only [Bool.or_eq_true, decide_eq_true_eq, List.mem_cons, List.not_mem_nil, or_false]
  omega
theorem kd5 (x : S55) : (dok x.f0 x.f1 x.f2 && decide (x.f0 ∈ ([2, 3, 4, 7, 8] : List Int))) = (lk x 2 3 || (lk x 4 7 || lk x 8 8)) := by
 unfold lk
 cases dok x.f0 x.f1 x.f2
 ·rfl
 ·rw [Bool.true_and, Bool.true_and, Bool.true_and, Bool.true_and, Bool.eq_iff_iff]
  simp only [Bool.or_eq_true, decide_eq_true_eq, List.mem_cons, List.not_mem_nil, or_false]
  omega
theorem lay1_0 {a v : Value} : lay #[a] 0 #[v] = #[v] := (lay_cell _ _ _).symm.trans rfl
theorem ze27 : zeroOf Tryd.prog 27 = some (#[.slice none 0 0]) := by kernel_rfl
set_option maxHeartbeats 16000000 in
set_option maxRecDepth 100000 in
theorem impl_coil_bad (op : Int) (l : List S55) (B : Option Addr) (c : Nat) (w : World) (hl : l.length ≤ 9223372036854775807) (h : ¬ (21 ≤ op ∧ op ≤ 37) ∨ (l.length : Int) ≠ ar op) :
  Calls Tryd.prog 34 #[.agg #[.int .i64 op, .slice B l.length c]] w fun e w' => e = .returned (.bool false) ∧ Below w.heap.size w w' := by
 have HS := Aside0.mk (Priv.nil w)
 have HL := Aside0.mk hl
 clear hl
 by_cases h1 : 21 ≤ op ∧ op ≤ 37
 rotate_left
 ·have c1 : decide (21 ≤ op ∧ op ≤ 37) = false := decide_eq_false h1
  clear h h1
  go_enter Tryd.func34, Tryd.ntmps34
  go_upto_region 1 with (first | ((with_reducible refine gate_dst (N := 1) rfl ?_); (with_reducible refine box_new HS.out rfl rfl (by first | exact eval_tmp rfl | exact eval_const) ?_); intro g1 W1_ HP; clear HS; have HS := Aside0.mk HP; clear HP; (try simp only [Act.put, List.setIfInBounds_toArray, List.set_cons_zero, List.set_cons_succ])))
  (try simp only [Act.put, List.setIfInBounds_toArray, List.set_cons_zero, List.set_cons_succ])
  obtain ⟨t1_, hb1_⟩ := HS.out.at_ at0
  have hz0_ : W1_.cell? ⟨g1, 0, none⟩ = some (.int .i64 _) := (blk_cell hb1_ 0).trans rfl
  have hz1_ : W1_.cell? ⟨g1, 1, none⟩ = some (.slice B l.length c) := (blk_cell hb1_ 1).trans rfl
  have hf0_ := blk_frozen hb1_ 0
  have hf1_ := blk_frozen hb1_ 1
  go_wp2_with (first | (go_at_call 45; (with_reducible refine (impl_ElemArity.calls _ _ _ _ hAr.out).mono ?_); rintro e_ w_ ⟨rfl, ⟨nd, rfl⟩⟩; (try first | exact ⟨rfl, _, World.drewN_drewN _ _ _⟩ | exact ⟨rfl, _, Eq.trans (World.drewN_drewN _ _ _) (congrArg (World.drewN _) (Nat.add_assoc _ _ _))⟩)))
  repeat (go_quiet (first | (go_at_call 33; (with_reducible refine (impl_in.calls _ _ _ _ _ (impl_in.dec _ _ _)).mono ?_); rintro e_ w_ ⟨rfl, ⟨nd, rfl⟩⟩; (try first | exact ⟨rfl, _, World.drewN_drewN _ _ _⟩ | exact ⟨rfl, _, Eq.trans (World.drewN_drewN _ _ _) (congrArg (World.drewN _) (Nat.add_assoc _ _ _))⟩))); try go_wp2_with (first | (go_at_call 45; (with_reducible refine (impl_ElemArity.calls _ _ _ _ hAr.out).mono ?_); rintro e_ w_ ⟨rfl, ⟨nd, rfl⟩⟩; (try first | exact ⟨rfl, _, World.drewN_drewN _ _ _⟩ | exact ⟨rfl, _, Eq.trans (World.drewN_drewN _ _ _) (congrArg (World.drewN _) (Nat.add_assoc _ _ _))⟩))))
  go_ret
  exact ⟨rfl, by first | exact HS.out.below | exact (HS.out.drewN _).below | exact ((HS.out.drewN _).drewN _).below⟩
 have c1 : decide (21 ≤ op ∧ op ≤ 37) = true := decide_eq_true h1
 have h3 : (l.length : Int) ≠ ar op := by rcases h with h | h; omega; exact h
 obtain ⟨nA_, hA_⟩ := tell_ (iAr_ev op)
 have hAr := Aside0.mk hA_
 have c3 : ((l.length : Int) != ar op) = true := bne_iff_ne.mpr h3
 clear h h1 h3 hA_
 go_enter Tryd.func34, Tryd.ntmps34
 go_upto_region 1 with (first | ((with_reducible refine gate_dst (N := 1) rfl ?_); (with_reducible refine box_new HS.out rfl rfl (by first | exact eval_tmp rfl | exact eval_const) ?_); intro g1 W1_ HP; clear HS; have HS := Aside0.mk HP; clear HP; (try simp only [Act.put, List.setIfInBounds_toArray, List.set_cons_zero, List.set_cons_succ])))
 (try simp only [Act.put, List.setIfInBounds_toArray, List.set_cons_zero, List.set_cons_succ])
 obtain ⟨t1_, hb1_⟩ := HS.out.at_ at0
 have hz0_ : W1_.cell? ⟨g1, 0, none⟩ = some (.int .i64 _) := (blk_cell hb1_ 0).trans rfl
 have hz1_ : W1_.cell? ⟨g1, 1, none⟩ = some (.slice B l.length c) := (blk_cell hb1_ 1).trans rfl
 have hf0_ := blk_frozen hb1_ 0
 have hf1_ := blk_frozen hb1_ 1
 go_wp2_with (first | (go_at_call 45; (with_reducible refine (impl_ElemArity.calls _ _ _ _ hAr.out).mono ?_); rintro e_ w_ ⟨rfl, ⟨nd, rfl⟩⟩; (try first | exact ⟨rfl, _, World.drewN_drewN _ _ _⟩ | exact ⟨rfl, _, Eq.trans (World.drewN_drewN _ _ _) (congrArg (World.drewN _) (Nat.add_assoc _ _ _))⟩)))
 repeat (go_quiet (first | (go_at_call 33; (with_reducible refine (impl_in.calls _ _ _ _ _ (impl_in.dec _ _ _)).mono ?_); rintro e_ w_ ⟨rfl, ⟨nd, rfl⟩⟩; (try first | exact ⟨rfl, _, World.drewN_drewN _ _ _⟩ | exact ⟨rfl, _, Eq.trans (World.drewN_drewN _ _ _) (congrArg (World.drewN _) (Nat.add_assoc _ _ _))⟩)) | (go_at_call 45; (with_reducible refine (impl_ElemArity.calls _ _ _ _ hAr.out).mono ?_); rintro e_ w_ ⟨rfl, ⟨nd, rfl⟩⟩; (try first | exact ⟨rfl, _, World.drewN_drewN _ _ _⟩ | exact ⟨rfl, _, Eq.trans (World.drewN_drewN _ _ _) (congrArg (World.drewN _) (Nat.add_assoc _ _ _))⟩))); try go_wp2_with (first | (go_at_call 45; (with_reducible refine (impl_ElemArity.calls _ _ _ _ hAr.out).mono ?_); rintro e_ w_ ⟨rfl, ⟨nd, rfl⟩⟩; (try first | exact ⟨rfl, _, World.drewN_drewN _ _ _⟩ | exact ⟨rfl, _, Eq.trans (World.drewN_drewN _ _ _) (congrArg (World.drewN _) (Nat.add_assoc _ _ _))⟩))))
 go_ret
 exact ⟨rfl, by first | exact HS.out.below | exact (HS.out.drewN _).below | exact ((HS.out.drewN _).drewN _).below⟩
set_option maxHeartbeats 16000000 in
set_option maxRecDepth 100000 in
theorem impl_coil1 (op : Int) (x : S55) (hop : op = 21 ∨ op = 22 ∨ op = 23 ∨ op = 25) (A : Option Addr) (c : Nat) (w : World) (ht : TB.Tab w) (hr : Kd.C k55 w A ([x] : List S55).length [x]) (hc : ([x] : List S55).length ≤ c) :
  Calls Tryd.prog 34 #[.agg #[.int .i64 op, .slice A 1 c]] w fun e w' => e = .returned (.bool (coil op [x])) ∧ Below w.heap.size w w' := by
 have HC := Aside0.mk hr
 have HCC := Aside0.mk hc
 clear hr hc
 have HT := Aside0.mk ht
 clear ht
 obtain ⟨ad0, e0, hx0, hx1, hx2⟩ := at_T55 HC.out 0 (by omega) (by simp)
 cases e0
 (try rw [show ((0 : Int)).toNat = 0 from rfl] at hx0)
 (try rw [show 0 * 3 = 0 from rfl] at hx0)
 (try rw [Addr.add_zero'] at hx0)
 (try simp only [rd_cons0, rd_cons1] at hx0)
 (try rw [show ((0 : Int)).toNat = 0 from rfl] at hx1)
 (try rw [show 0 * 3 = 0 from rfl] at hx1)
 (try rw [Addr.add_zero'] at hx1)
 (try simp only [rd_cons0, rd_cons1] at hx1)
 (try rw [show ((0 : Int)).toNat = 0 from rfl] at hx2)
 (try rw [show 0 * 3 = 0 from rfl] at hx2)
 (try rw [Addr.add_zero'] at hx2)
 (try simp only [rd_cons0, rd_cons1] at hx2)
 have Hx0 := Aside0.mk hx0
 have Hx1 := Aside0.mk hx1
 have Hx2 := Aside0.mk hx2
 clear hx0 hx1 hx2
 obtain ⟨i0_, hi0_, _, hsz_, _⟩ := info_parts info55
 have hmf : ∀ (fn : Fn) (first cap : Array Value) (w : World), (Instr.makeFunc fn first cap).run Tryd.prog w = .ok (.func fn first cap) w := fun _ _ _ _ => rfl
 obtain ⟨cr, hcr_⟩ : ∃ m, m = c - 1 := ⟨_, rfl⟩
 obtain ⟨AR, hAR⟩ : ∃ B : Option Addr, B = (if c = 1 then some ad0 else Option.map (fun x => x.add (1 * 3)) (some ad0)) := ⟨_, rfl⟩
 have hcut : ∀ W : World, (Instr.slice 27 (.slice (some ad0) 1 c) (some (.int .i64 1)) none none).run Tryd.prog W = .ok (.slice AR 0 cr) W := fun W => by rw [hAR, hcr_]; exact cut_from 27 55 .i64 Tryd.underlying27 hi0_ 3 hsz_ (some ad0) 1 c 1 (by decide) (by decide) W
 clear hAR hcr_ hi0_ hsz_
 have HS := Aside0.mk (Priv.nil w)
 obtain ⟨nA_, hA_⟩ := tell_ (iAr_ev op)
 have hv_ : ar op = 1 := by rw [ar_coil (by omega)]; (repeat' split) <;> omega
 rw [hv_] at hA_
 have hAr := Aside0.mk hA_
 clear hA_ hv_
 rcases hop with rfl | rfl | rfl | rfl
 rotate_left 1
 rotate_left 1
 rotate_left 1
 rotate_left 1
 all_goals
  go_enter Tryd.func34, Tryd.ntmps34
  go_upto_region 1 with (first | ((with_reducible refine gate_dst (N := 1) rfl ?_); (with_reducible refine box_new HS.out rfl rfl (by first | exact eval_tmp rfl | exact eval_const) ?_); intro g1 W1_ HP; clear HS; have HS := Aside0.mk HP; clear HP; (try simp only [Act.put, List.setIfInBounds_toArray, List.set_cons_zero, List.set_cons_succ])))
  (try simp only [Act.put, List.setIfInBounds_toArray, List.set_cons_zero, List.set_cons_succ])
  obtain ⟨t1_, hb1_⟩ := HS.out.at_ at0
  have hz0_ : W1_.cell? ⟨g1, 0, none⟩ = some (.int .i64 _) := (blk_cell hb1_ 0).trans rfl
  have hz1_ : W1_.cell? ⟨g1, 1, none⟩ = some (.slice (some ad0) 1 c) := (blk_cell hb1_ 1).trans rfl
  have hf0_ := blk_frozen hb1_ 0
  have hf1_ := blk_frozen hb1_ 1
  go_upto_region 3 with (first | (go_at_call 45; (with_reducible refine (impl_ElemArity.calls _ _ _ _ hAr.out).mono ?_); rintro e_ w_ ⟨rfl, ⟨nd, rfl⟩⟩; (try first | exact ⟨rfl, _, World.drewN_drewN _ _ _⟩ | exact ⟨rfl, _, Eq.trans (World.drewN_drewN _ _ _) (congrArg (World.drewN _) (Nat.add_assoc _ _ _))⟩)))
  repeat (go_quiet (first | (go_at_call 33; (with_reducible refine (impl_in.calls _ _ _ _ _ (impl_in.dec _ _ _)).mono ?_); rintro e_ w_ ⟨rfl, ⟨nd, rfl⟩⟩; (try first | exact ⟨rfl, _, World.drewN_drewN _ _ _⟩ | exact ⟨rfl, _, Eq.trans (World.drewN_drewN _ _ _) (congrArg (World.drewN _) (Nat.add_assoc _ _ _))⟩)) | (go_at_call 45; (with_reducible refine (impl_ElemArity.calls _ _ _ _ hAr.out).mono ?_); rintro e_ w_ ⟨rfl, ⟨nd, rfl⟩⟩; (try first | exact ⟨rfl, _, World.drewN_drewN _ _ _⟩ | exact ⟨rfl, _, Eq.trans (World.drewN_drewN _ _ _) (congrArg (World.drewN _) (Nat.add_assoc _ _ _))⟩))); try go_upto_region 3 with (first | (go_at_call 45; (with_reducible refine (impl_ElemArity.calls _ _ _ _ hAr.out).mono ?_); rintro e_ w_ ⟨rfl, ⟨nd, rfl⟩⟩; (try first | exact ⟨rfl, _, World.drewN_drewN _ _ _⟩ | exact ⟨rfl, _, Eq.trans (World.drewN_drewN _ _ _) (congrArg (World.drewN _) (Nat.add_assoc _ _ _))⟩))))
  first | refine regen_c HS.out ?_ | refine regen_c (HS.out.drewN _) ?_ | refine regen_c ((HS.out.drewN _).drewN _) ?_
  intro W_ HP
  clear HS; have HS := Aside0.mk HP; clear HP
  (try simp only [Act.put, List.setIfInBounds_toArray, List.set_cons_zero, List.set_cons_succ])
  refine start_R (LS := _) (n := 11) #[false, false, false, false, false, false, false, false, false, false, false] HS.out (by kernel_rfl) rfl rfl (fun W_ HSS => HSS) ?_
  intro W_ HP hHeld; clear HS; have HS := Aside0.mk HP; clear HP
  refine PrintLast.pure_ (i := 0) (oi := { dst := some 19, op := Go.Op.fieldAddr 29 (Go.Operand.tmp 1) 1, type := 0, pos := "l4_elem.go:97", after := #[], guard := none }) (N := some 19) (v := ?_) (a' := ?_) #[true, false, false, false, false, false, false, false, false, false, false] rfl rfl (by kernel_rfl) (fun _ _ _ h => h) (Or.inl ⟨by rfl, ?_⟩) ?_ ?_
  rotate_left
  ·intro w'
   refine Eq.trans (run_field_at rfl rfl rfl fo29_1) ?_
   with_reducible rfl
  rotate_left
  ·simp only [PrintLast.putAll, Act.put, List.setIfInBounds_toArray, List.set_cons_zero, List.set_cons_succ, Nat.zero_add, Nat.add_zero, Nat.mul_one, Int.toNat_natCast]
   rfl
  refine PrintLast.take_ (i := 1) (oi := { dst := some 20, op := Go.Op.load 27 (Go.Operand.tmp 19), type := 27, pos := "l4_elem.go:97", after := #[{ on := 0, ground := Go.Ground.data }], guard := none }) (N := some 20) (v := ?_) (a' := ?_) #[true, true, false, false, false, false, false, false, false, false, false] rfl rfl (by kernel_rfl) (fun _ _ _ h => h) (Or.inl ⟨by rfl, ?_⟩) hHeld ?_ ?_
  rotate_left
  ·intro w' hS
   refine Eq.trans (run_load_one hS rfl rfl on27 rfl at0 (by with_reducible first | exact at0a | exact at1a)) ?_
   with_reducible rfl
  rotate_left
  ·simp only [PrintLast.putAll, Act.put, List.setIfInBounds_toArray, List.set_cons_zero, List.set_cons_succ, Nat.zero_add, Nat.add_zero, Nat.mul_one, Int.toNat_natCast]
   rfl
  refine PrintLast.pure_ (i := 2) (oi := { dst := some 21, op := Go.Op.indexAddr 27 (Go.Operand.tmp 20) (Go.Operand.const (Go.Value.int Go.IntKind.i64 0)), type := 0, pos := "l4_elem.go:97", after := #[{ on := 1, ground := Go.Ground.data }], guard := none }) (N := some 21) (v := ?_) (a' := ?_) #[true, true, true, false, false, false, false, false, false, false, false] rfl rfl (by kernel_rfl) (fun _ _ _ h => h) (Or.inl ⟨by rfl, ?_⟩) ?_ ?_
  rotate_left
  ·intro w'
   go_simp
   with_reducible rfl
  rotate_left
  ·simp only [PrintLast.putAll, Act.put, List.setIfInBounds_toArray, List.set_cons_zero, List.set_cons_succ, Nat.zero_add, Nat.add_zero, Nat.mul_one, Int.toNat_natCast]
   rfl
  refine PrintLast.take_ (i := 3) (oi := { dst := some 22, op := Go.Op.load 55 (Go.Operand.tmp 21), type := 55, pos := "l4_elem.go:97", after := #[{ on := 2, ground := Go.Ground.data }], guard := none }) (N := some 22) (v := ?_) (a' := ?_) #[true, true, true, true, false, false, false, false, false, false, false] rfl rfl (by kernel_rfl) (fun _ _ _ h => h) (Or.inl ⟨by rfl, ?_⟩) hHeld ?_ ?_
  rotate_left
  ·intro w' hS
   have hx0_ := (hS.below.cell (World.block_lt_of_cell? w _ Hx0.out)).trans Hx0.out
   have hx1_ := (hS.below.cell (World.block_lt_of_cell? w _ Hx1.out)).trans Hx1.out
   have hx2_ := (hS.below.cell (World.block_lt_of_cell? w _ Hx2.out)).trans Hx2.out
   go_simp
   with_reducible rfl
  rotate_left
  ·simp only [PrintLast.putAll, Act.put, List.setIfInBounds_toArray, List.set_cons_zero, List.set_cons_succ, Nat.zero_add, Nat.add_zero, Nat.mul_one, Int.toNat_natCast]
   rfl
  refine PrintLast.pure_ (i := 4) (oi := { dst := some 23, op := Go.Op.fieldAddr 29 (Go.Operand.tmp 1) 1, type := 0, pos := "l4_elem.go:97", after := #[], guard := none }) (N := some 23) (v := ?_) (a' := ?_) #[true, true, true, true, true, false, false, false, false, false, false] rfl rfl (by kernel_rfl) (fun _ _ _ h => h) (Or.inl ⟨by rfl, ?_⟩) ?_ ?_
  rotate_left
  ·intro w'
   refine Eq.trans (run_field_at rfl rfl rfl fo29_1) ?_
   with_reducible rfl
  rotate_left
  ·simp only [PrintLast.putAll, Act.put, List.setIfInBounds_toArray, List.set_cons_zero, List.set_cons_succ, Nat.zero_add, Nat.add_zero, Nat.mul_one, Int.toNat_natCast]
   rfl
  refine PrintLast.take_ (i := 5) (oi := { dst := some 24, op := Go.Op.load 27 (Go.Operand.tmp 23), type := 27, pos := "l4_elem.go:97", after := #[{ on := 4, ground := Go.Ground.data }], guard := none }) (N := some 24) (v := ?_) (a' := ?_) #[true, true, true, true, true, true, false, false, false, false, false] rfl rfl (by kernel_rfl) (fun _ _ _ h => h) (Or.inl ⟨by rfl, ?_⟩) hHeld ?_ ?_
  rotate_left
  ·intro w' hS
   refine Eq.trans (run_load_one hS rfl rfl on27 rfl at0 (by with_reducible first | exact at0a | exact at1a)) ?_
   with_reducible rfl
  rotate_left
  ·simp only [PrintLast.putAll, Act.put, List.setIfInBounds_toArray, List.set_cons_zero, List.set_cons_succ, Nat.zero_add, Nat.add_zero, Nat.mul_one, Int.toNat_natCast]
   rfl
  refine PrintLast.pure_ (i := 6) (oi := { dst := some 25, op := Go.Op.slice 27 (Go.Operand.tmp 24) (some (Go.Operand.const (Go.Value.int Go.IntKind.i64 1))) none none, type := 27, pos := "l4_elem.go:97", after := #[{ on := 5, ground := Go.Ground.data }], guard := none }) (N := some 25) (v := ?_) (a' := ?_) #[true, true, true, true, true, true, true, false, false, false, false] rfl rfl (by kernel_rfl) (fun _ _ _ h => h) (Or.inl ⟨by rfl, ?_⟩) ?_ ?_
  rotate_left
  ·intro w'
   go_simp
   with_reducible rfl
  rotate_left
  ·simp only [PrintLast.putAll, Act.put, List.setIfInBounds_toArray, List.set_cons_zero, List.set_cons_succ, Nat.zero_add, Nat.add_zero, Nat.mul_one, Int.toNat_natCast]
   rfl
  clear hHeld
  refine list_name HS.out ?_
  intro L0 hL0 HP; clear HS; have HS := Aside0.mk HP; clear HP
  refine PrintLast.join_ (σ := Nat × Nat) 2 #[true, true, true, true, true, true, true, true, true, false, false] (fun s => [(3, .pointer (some ⟨s.1, 0, none⟩)), (4, .pointer (some ⟨s.2, 0, none⟩))]) (fun s w' => Priv w w' ((s.2, #[.slice none 0 0]) :: (s.1, #[.int .i64 0, .int .i64 0, .int .i64 0]) :: L0)) ?_ ?_
  rotate_left
  ·intro H11
   refine PrintLast.join_ (σ := Nat × Nat) 3 #[true, true, true, true, true, true, true, true, false, false, false] (fun s => [(3, .pointer (some ⟨s.1, 0, none⟩))]) (fun s w' => Priv w w' ((s.1, #[.int .i64 0, .int .i64 0, .int .i64 0]) :: L0)) ?_ ?_
   ·intro s w' HF
    refine PrintLast.norm_ (a' := ?_) ?_ ?_
    rotate_left
    ·simp only [PrintLast.putAll, Act.put, List.setIfInBounds_toArray, List.set_cons_zero, List.set_cons_succ, Nat.zero_add, Nat.add_zero, Nat.mul_one, Int.toNat_natCast]
     rfl
    refine PrintLast.one_ (i := 8) (oi := { dst := some 4, op := Go.Op.alloc 27, type := 0, pos := "l4_elem.go:97", after := #[], guard := none }) (N := some 4) #[true, true, true, true, true, true, true, true, true, false, false] rfl rfl (by kernel_rfl) (by decide) (fun K hK => ?_)
    ·refine step_alloc (wanted_of rfl) HF rfl rfl ze27 ?_
     intro g_ W_ HP
     have HQ := HP
     refine hK.out _ _ (by subst hL0; exact HQ.drop1.drop1) (fun _ => ?_)
     refine PrintLast.norm_ ?_ (H11 (s.1, g_) _ HQ)
     simp only [PrintLast.putAll, Act.put, List.setIfInBounds_toArray, List.set_cons_zero, List.set_cons_succ, Nat.zero_add, Nat.add_zero, Nat.mul_one, Int.toNat_natCast]
   intro H10
   refine PrintLast.join_ (σ := Nat × Nat) 3 #[true, true, true, true, true, true, true, false, true, false, false] (fun s => [(4, .pointer (some ⟨s.2, 0, none⟩))]) (fun s w' => Priv w w' ((s.2, #[.slice none 0 0]) :: L0)) ?_ ?_
   ·intro s w' HF
    refine PrintLast.norm_ (a' := ?_) ?_ ?_
    rotate_left
    ·simp only [PrintLast.putAll, Act.put, List.setIfInBounds_toArray, List.set_cons_zero, List.set_cons_succ, Nat.zero_add, Nat.add_zero, Nat.mul_one, Int.toNat_natCast]
     rfl
    refine PrintLast.one_ (i := 7) (oi := { dst := some 3, op := Go.Op.alloc 55, type := 0, pos := "l4_elem.go:97", after := #[], guard := none }) (N := some 3) #[true, true, true, true, true, true, true, true, true, false, false] rfl rfl (by kernel_rfl) (by decide) (fun K hK => ?_)
    ·refine step_alloc (wanted_of rfl) HF rfl rfl ze55 ?_
     intro g_ W_ HP
     have HQ := HP.swap
     refine hK.out _ _ (by subst hL0; exact HQ.drop1.drop1) (fun _ => ?_)
     refine PrintLast.norm_ ?_ (H11 (g_, s.2) _ HQ)
     simp only [PrintLast.putAll, Act.put, List.setIfInBounds_toArray, List.set_cons_zero, List.set_cons_succ, Nat.zero_add, Nat.add_zero, Nat.mul_one, Int.toNat_natCast]
   intro H01
   refine PrintLast.join_ (σ := Nat × Nat) 4 #[true, true, true, true, true, true, true, false, false, false, false] (fun s => []) (fun s w' => Priv w w' (L0)) ?_ ?_
   ·intro s w' HF
    refine PrintLast.norm_ (a' := ?_) ?_ ?_
    rotate_left
    ·simp only [PrintLast.putAll, Act.put, List.setIfInBounds_toArray, List.set_cons_zero, List.set_cons_succ, Nat.zero_add, Nat.add_zero, Nat.mul_one, Int.toNat_natCast]
     rfl
    refine PrintLast.two_ (i := 7) (j := 8) (oi := { dst := some 3, op := Go.Op.alloc 55, type := 0, pos := "l4_elem.go:97", after := #[], guard := none }) (oj := { dst := some 4, op := Go.Op.alloc 27, type := 0, pos := "l4_elem.go:97", after := #[], guard := none }) (Ni := some 3) (Nj := some 4) #[true, true, true, true, true, true, true, true, false, false, false] #[true, true, true, true, true, true, true, false, true, false, false] rfl rfl rfl rfl (by kernel_rfl) (by decide) (by decide) (fun K hK => ?_) (fun K hK => ?_)
    ·refine step_alloc (wanted_of rfl) HF rfl rfl ze55 ?_
     intro g_ W_ HP
     have HQ := HP
     refine hK.out _ _ (by subst hL0; exact HQ.drop1) (fun _ => ?_)
     refine PrintLast.norm_ ?_ (H10 (g_, s.2) _ HQ)
     simp only [PrintLast.putAll, Act.put, List.setIfInBounds_toArray, List.set_cons_zero, List.set_cons_succ, Nat.zero_add, Nat.add_zero, Nat.mul_one, Int.toNat_natCast]
    ·refine step_alloc (wanted_of rfl) HF rfl rfl ze27 ?_
     intro g_ W_ HP
     have HQ := HP
     refine hK.out _ _ (by subst hL0; exact HQ.drop1) (fun _ => ?_)
     refine PrintLast.norm_ ?_ (H01 (s.1, g_) _ HQ)
     simp only [PrintLast.putAll, Act.put, List.setIfInBounds_toArray, List.set_cons_zero, List.set_cons_succ, Nat.zero_add, Nat.add_zero, Nat.mul_one, Int.toNat_natCast]
   intro H00
   exact H00 (0, 0) _ HS.out
  intro s w' HP; subst hL0; clear HS; have HS := Aside0.mk HP; clear HP; obtain ⟨ga_, gr_⟩ := s
  refine PrintLast.norm_ (a' := ?_) ?_ ?_
  rotate_left
  ·simp only [PrintLast.putAll, Act.put, List.setIfInBounds_toArray, List.set_cons_zero, List.set_cons_succ, Nat.zero_add, Nat.add_zero, Nat.mul_one, Int.toNat_natCast]
   rfl
  refine PrintLast.one_ (i := 9) (oi := { dst := none, op := Go.Op.store 55 (Go.Operand.tmp 3) (Go.Operand.tmp 22), type := 0, pos := "l4_elem.go:97", after := #[{ on := 7, ground := Go.Ground.data }, { on := 3, ground := Go.Ground.data }, { on := 0, ground := Go.Ground.phase }, { on := 1, ground := Go.Ground.phase }, { on := 2, ground := Go.Ground.phase }, { on := 3, ground := Go.Ground.phase }, { on := 4, ground := Go.Ground.textOnly Go.Departure.lateStores }, { on := 5, ground := Go.Ground.textOnly Go.Departure.lateStores }, { on := 6, ground := Go.Ground.textOnly Go.Departure.lateStoresUnsure }, { on := 7, ground := Go.Ground.phase }, { on := 8, ground := Go.Ground.phase }], guard := none }) (N := none) #[true, true, true, true, true, true, true, true, true, true, false] rfl rfl (by kernel_rfl) (by decide) (fun K hK => ?_)
  refine step_store_seg (wanted_of rfl) HS.out rfl rfl ag55 rfl (by first | exact eval_tmp rfl | exact eval_const) (by first | exact at0 | exact at1 | exact at2 | exact at3 | exact at4 | exact at5 | exact at6) (by with_reducible first | exact set_X _ _ | exact set_Y _ _ | exact set_M _ _ | exact set_S _ _ | exact set_E _ _ | exact set_Time _ _ | exact set_Ran _ _ | exact set_Fault _ _ | exact set_T _ _ | exact set_C _ _ | exact set_D _ _ | exact set_R _ _ | exact put_T _ _ (by omega) _ _ | exact put_C _ _ (by omega) _ _ _ | exact put_D _ _ (by omega) _ | exact put_R _ _ (by omega) _ | exact tc_put _ _ (by omega) _ _ | exact cc_put _ _ (by omega) _ _ _ | exact dc_put _ _ (by omega) _ | exact rc_put _ _ (by omega) _ | exact lay_mc _ _ | exact lay_tc _ _ | exact lay_cc _ _ | exact lay_dc _ _ | exact lay_rc _ _ | exact lay2_0 | exact lay2_1 | exact lay3_0 | exact lay3_1 | exact lay3_2 | exact lay2_w | exact lay3_w) (by with_reducible first | exact mc_size _ | exact tc_size _ | exact cc_size _ | exact dc_size _ | exact rc_size _ | exact sz1 | exact sz2 | exact sz3 | exact sz4) (by simp only [mc_size, tc_size, cc_size, dc_size, rc_size, List.size_toArray, List.length_cons, List.length_nil]; omega) (by first | (with_reducible first | exact mc_one _ | exact tc_one _ | exact cc_one _ | exact dc_one _ | exact rc_one _ | exact t2_one _ _ | exact t3_one _ _ _) | (simp [Value.oneCell']; done)) ?_
  intro W_ HP; clear HS; have HS := Aside0.mk HP; clear HP; (try simp only [List.set_cons_zero, List.set_cons_succ] at HS)
  refine hK.out _ _ HS.out.drop1.drop1 (fun _ => ?_)
  clear hK K
  refine PrintLast.one_ (i := 10) (oi := { dst := none, op := Go.Op.store 27 (Go.Operand.tmp 4) (Go.Operand.tmp 25), type := 0, pos := "l4_elem.go:97", after := #[{ on := 8, ground := Go.Ground.data }, { on := 6, ground := Go.Ground.data }, { on := 9, ground := Go.Ground.chain }, { on := 0, ground := Go.Ground.phase }, { on := 1, ground := Go.Ground.phase }, { on := 2, ground := Go.Ground.phase }, { on := 3, ground := Go.Ground.phase }, { on := 4, ground := Go.Ground.phase }, { on := 5, ground := Go.Ground.phase }, { on := 6, ground := Go.Ground.phase }, { on := 7, ground := Go.Ground.phase }, { on := 8, ground := Go.Ground.phase }, { on := 9, ground := Go.Ground.phase }], guard := none }) (N := none) #[true, true, true, true, true, true, true, true, true, true, true] rfl rfl (by kernel_rfl) (by decide) (fun K hK => ?_)
  refine step_store_one (wanted_of rfl) HS.out rfl rfl on27 rfl (by first | exact eval_tmp rfl | exact eval_const) (by first | exact at0 | exact at1 | exact at2 | exact at3 | exact at4 | exact at5 | exact at6) lay1_0 (by simp only [mc_size, tc_size, cc_size, dc_size, rc_size, List.size_toArray, List.length_cons, List.length_nil]; omega) rfl rfl ?_
  intro W_ HP; clear HS; have HS := Aside0.mk HP; clear HP; (try simp only [List.set_cons_zero, List.set_cons_succ] at HS)
  refine hK.out _ _ HS.out.drop1.drop1 (fun _ => ?_)
  clear hK K
  refine PrintLast.done_ (by kernel_rfl) ?_
  (try simp only [Act.put, List.setIfInBounds_toArray, List.set_cons_zero, List.set_cons_succ])
  go_wp2_with ((first | go_skip | ((with_reducible refine gate_dst (N := 27) rfl ?_); (try (refine gate_guard (by rfl) ?_; dsimp only)); (with_reducible refine field_at rfl rfl rfl fo29_0 ?_); (try simp only [toNat_16, toNat_12, Int.toNat_natCast, Nat.zero_add, Nat.add_zero, Nat.mul_one])) | ((with_reducible refine gate_dst (N := 28) rfl ?_); (try (refine gate_guard (by rfl) ?_; dsimp only)); (with_reducible refine load_one HS.out rfl rfl on3 rfl (by first | exact at0 | exact at1 | exact at2 | exact at3 | exact at4 | exact at5 | exact at6) (by with_reducible first | exact at0a | exact at1a | exact at2a | exact at3a) ?_)) | ((with_reducible first | refine gate_dst (N := 31) rfl ?_ | refine gate_dst (N := 36) rfl ?_ | refine gate_dst (N := 41) rfl ?_ | refine gate_dst (N := 46) rfl ?_ | refine gate_dst (N := 52) rfl ?_ | refine gate_dst (N := 58) rfl ?_ | refine gate_dst (N := 65) rfl ?_ | refine gate_dst (N := 74) rfl ?_ | refine gate_dst (N := 83) rfl ?_ | refine gate_dst (N := 92) rfl ?_ | refine gate_dst (N := 98) rfl ?_ | refine gate_dst (N := 103) rfl ?_ | refine gate_dst (N := 109) rfl ?_ | refine gate_dst (N := 112) rfl ?_ | refine gate_dst (N := 120) rfl ?_); (try (refine gate_guard (by rfl) ?_; dsimp only)); (with_reducible refine load_seg HS.out rfl rfl ag55 rfl (by first | exact at0 | exact at1 | exact at2 | exact at3 | exact at4 | exact at5 | exact at6) (by with_reducible first | exact whole _) (by with_reducible first | exact sz1 | exact sz2 | exact sz3 | exact sz4) ?_)) | ((with_reducible first | refine gate_dst (N := 50) rfl ?_ | refine gate_dst (N := 87) rfl ?_ | refine gate_dst (N := 96) rfl ?_ | refine gate_dst (N := 107) rfl ?_ | refine gate_dst (N := 116) rfl ?_ | refine gate_dst (N := 124) rfl ?_); (try (refine gate_guard (by rfl) ?_; dsimp only)); (with_reducible refine load_one HS.out rfl rfl on27 rfl (by first | exact at0 | exact at1 | exact at2 | exact at3 | exact at4 | exact at5 | exact at6) (by with_reducible first | exact at0a | exact at1a | exact at2a | exact at3a) ?_)) | ((with_reducible refine gate_dst (N := 32) rfl ?_); (try (refine gate_guard (by rfl) ?_; dsimp only)); refine Kd.R_lit (Kd.int .i64) _ 3 ?hg (N := 32) ?hd (xs := ([2, 3] : List Int)) (inner := [.int .i64 2, .int .i64 3]) (ok := fun _ => True) (okp := fun _ => True) ?hr ?hp (fun _ hk => hk) trivial (Below.refl _ _) (Nat.le_refl _) (by simp) ?_; (case hd => rfl); (case hg => rfl); (case hr => first | (go_simp; done) | (go_simp; rfl)); (case hp => exact (Reps.one (show Kd.M (Kd.int .i64) _ _ _ 2 [.int .i64 2] from rfl) (Reps.one (show Kd.M (Kd.int .i64) _ _ _ 3 [.int .i64 3] from rfl) (Reps.none _ _)))); intro v_ W_ hoR hb hg_ hnew_; clear hg_ hnew_; have HP := HS.out.call hb; clear HS; have HS := Aside0.mk HP; clear HP; have HO := Aside0.mk hoR; clear hb hoR; obtain ⟨AL_, cL_, eL_⟩ := Kd.R_slice HO.out; (try simp only [List.length_cons, List.length_nil, Nat.zero_add, Nat.reduceAdd] at eL_); subst eL_) | ((with_reducible refine gate_dst (N := 37) rfl ?_); (try (refine gate_guard (by rfl) ?_; dsimp only)); refine Kd.R_lit (Kd.int .i64) _ 3 ?hg (N := 37) ?hd (xs := ([2, 3, 4] : List Int)) (inner := [.int .i64 2, .int .i64 3, .int .i64 4]) (ok := fun _ => True) (okp := fun _ => True) ?hr ?hp (fun _ hk => hk) trivial (Below.refl _ _) (Nat.le_refl _) (by simp) ?_; (case hd => rfl); (case hg => rfl); (case hr => first | (go_simp; done) | (go_simp; rfl)); (case hp => exact (Reps.one (show Kd.M (Kd.int .i64) _ _ _ 2 [.int .i64 2] from rfl) (Reps.one (show Kd.M (Kd.int .i64) _ _ _ 3 [.int .i64 3] from rfl) (Reps.one (show Kd.M (Kd.int .i64) _ _ _ 4 [.int .i64 4] from rfl) (Reps.none _ _))))); intro v_ W_ hoR hb hg_ hnew_; clear hg_ hnew_; have HP := HS.out.call hb; clear HS; have HS := Aside0.mk HP; clear HP; have HO := Aside0.mk hoR; clear hb hoR; obtain ⟨AL_, cL_, eL_⟩ := Kd.R_slice HO.out; (try simp only [List.length_cons, List.length_nil, Nat.zero_add, Nat.reduceAdd] at eL_); subst eL_) | ((with_reducible refine gate_dst (N := 42) rfl ?_); (try (refine gate_guard (by rfl) ?_; dsimp only)); refine Kd.R_lit (Kd.int .i64) _ 3 ?hg (N := 42) ?hd (xs := ([2, 3, 4, 7, 8] : List Int)) (inner := [.int .i64 2, .int .i64 3, .int .i64 4, .int .i64 7, .int .i64 8]) (ok := fun _ => True) (okp := fun _ => True) ?hr ?hp (fun _ hk => hk) trivial (Below.refl _ _) (Nat.le_refl _) (by simp) ?_; (case hd => rfl); (case hg => rfl); (case hr => first | (go_simp; done) | (go_simp; rfl)); (case hp => exact (Reps.one (show Kd.M (Kd.int .i64) _ _ _ 2 [.int .i64 2] from rfl) (Reps.one (show Kd.M (Kd.int .i64) _ _ _ 3 [.int .i64 3] from rfl) (Reps.one (show Kd.M (Kd.int .i64) _ _ _ 4 [.int .i64 4] from rfl) (Reps.one (show Kd.M (Kd.int .i64) _ _ _ 7 [.int .i64 7] from rfl) (Reps.one (show Kd.M (Kd.int .i64) _ _ _ 8 [.int .i64 8] from rfl) (Reps.none _ _))))))); intro v_ W_ hoR hb hg_ hnew_; clear hg_ hnew_; have HP := HS.out.call hb; clear HS; have HS := Aside0.mk HP; clear HP; have HO := Aside0.mk hoR; clear hb hoR; obtain ⟨AL_, cL_, eL_⟩ := Kd.R_slice HO.out; (try simp only [List.length_cons, List.length_nil, Nat.zero_add, Nat.reduceAdd] at eL_); subst eL_) | ((with_reducible refine gate_dst (N := 47) rfl ?_); (try (refine gate_guard (by rfl) ?_; dsimp only)); refine Kd.R_lit (Kd.int .i64) _ 3 ?hg (N := 47) ?hd (xs := ([2, 3] : List Int)) (inner := [.int .i64 2, .int .i64 3]) (ok := fun _ => True) (okp := fun _ => True) ?hr ?hp (fun _ hk => hk) trivial (Below.refl _ _) (Nat.le_refl _) (by simp) ?_; (case hd => rfl); (case hg => rfl); (case hr => first | (go_simp; done) | (go_simp; rfl)); (case hp => exact (Reps.one (show Kd.M (Kd.int .i64) _ _ _ 2 [.int .i64 2] from rfl) (Reps.one (show Kd.M (Kd.int .i64) _ _ _ 3 [.int .i64 3] from rfl) (Reps.none _ _)))); intro v_ W_ hoR hb hg_ hnew_; clear hg_ hnew_; have HP := HS.out.call hb; clear HS; have HS := Aside0.mk HP; clear HP; have HO := Aside0.mk hoR; clear hb hoR; obtain ⟨AL_, cL_, eL_⟩ := Kd.R_slice HO.out; (try simp only [List.length_cons, List.length_nil, Nat.zero_add, Nat.reduceAdd] at eL_); subst eL_) | ((with_reducible refine gate_dst (N := 53) rfl ?_); (try (refine gate_guard (by rfl) ?_; dsimp only)); refine Kd.R_lit (Kd.int .i64) _ 3 ?hg (N := 53) ?hd (xs := ([5] : List Int)) (inner := [.int .i64 5]) (ok := fun _ => True) (okp := fun _ => True) ?hr ?hp (fun _ hk => hk) trivial (Below.refl _ _) (Nat.le_refl _) (by simp) ?_; (case hd => rfl); (case hg => rfl); (case hr => first | (go_simp; done) | (go_simp; rfl)); (case hp => exact (Reps.one (show Kd.M (Kd.int .i64) _ _ _ 5 [.int .i64 5] from rfl) (Reps.none _ _))); intro v_ W_ hoR hb hg_ hnew_; clear hg_ hnew_; have HP := HS.out.call hb; clear HS; have HS := Aside0.mk HP; clear HP; have HO := Aside0.mk hoR; clear hb hoR; obtain ⟨AL_, cL_, eL_⟩ := Kd.R_slice HO.out; (try simp only [List.length_cons, List.length_nil, Nat.zero_add, Nat.reduceAdd] at eL_); subst eL_) | ((with_reducible refine gate_dst (N := 59) rfl ?_); (try (refine gate_guard (by rfl) ?_; dsimp only)); refine Kd.R_lit (Kd.int .i64) _ 3 ?hg (N := 59) ?hd (xs := ([4] : List Int)) (inner := [.int .i64 4]) (ok := fun _ => True) (okp := fun _ => True) ?hr ?hp (fun _ hk => hk) trivial (Below.refl _ _) (Nat.le_refl _) (by simp) ?_; (case hd => rfl); (case hg => rfl); (case hr => first | (go_simp; done) | (go_simp; rfl)); (case hp => exact (Reps.one (show Kd.M (Kd.int .i64) _ _ _ 4 [.int .i64 4] from rfl) (Reps.none _ _))); intro v_ W_ hoR hb hg_ hnew_; clear hg_ hnew_; have HP := HS.out.call hb; clear HS; have HS := Aside0.mk HP; clear HP; have HO := Aside0.mk hoR; clear hb hoR; obtain ⟨AL_, cL_, eL_⟩ := Kd.R_slice HO.out; (try simp only [List.length_cons, List.length_nil, Nat.zero_add, Nat.reduceAdd] at eL_); subst eL_) | ((with_reducible refine gate_dst (N := 66) rfl ?_); (try (refine gate_guard (by rfl) ?_; dsimp only)); refine Kd.R_lit (Kd.int .i64) _ 3 ?hg (N := 66) ?hd (xs := ([7] : List Int)) (inner := [.int .i64 7]) (ok := fun _ => True) (okp := fun _ => True) ?hr ?hp (fun _ hk => hk) trivial (Below.refl _ _) (Nat.le_refl _) (by simp) ?_; (case hd => rfl); (case hg => rfl); (case hr => first | (go_simp; done) | (go_simp; rfl)); (case hp => exact (Reps.one (show Kd.M (Kd.int .i64) _ _ _ 7 [.int .i64 7] from rfl) (Reps.none _ _))); intro v_ W_ hoR hb hg_ hnew_; clear hg_ hnew_; have HP := HS.out.call hb; clear HS; have HS := Aside0.mk HP; clear HP; have HO := Aside0.mk hoR; clear hb hoR; obtain ⟨AL_, cL_, eL_⟩ := Kd.R_slice HO.out; (try simp only [List.length_cons, List.length_nil, Nat.zero_add, Nat.reduceAdd] at eL_); subst eL_) | ((with_reducible refine gate_dst (N := 75) rfl ?_); (try (refine gate_guard (by rfl) ?_; dsimp only)); refine Kd.R_lit (Kd.int .i64) _ 3 ?hg (N := 75) ?hd (xs := ([8] : List Int)) (inner := [.int .i64 8]) (ok := fun _ => True) (okp := fun _ => True) ?hr ?hp (fun _ hk => hk) trivial (Below.refl _ _) (Nat.le_refl _) (by simp) ?_; (case hd => rfl); (case hg => rfl); (case hr => first | (go_simp; done) | (go_simp; rfl)); (case hp => exact (Reps.one (show Kd.M (Kd.int .i64) _ _ _ 8 [.int .i64 8] from rfl) (Reps.none _ _))); intro v_ W_ hoR hb hg_ hnew_; clear hg_ hnew_; have HP := HS.out.call hb; clear HS; have HS := Aside0.mk HP; clear HP; have HO := Aside0.mk hoR; clear hb hoR; obtain ⟨AL_, cL_, eL_⟩ := Kd.R_slice HO.out; (try simp only [List.length_cons, List.length_nil, Nat.zero_add, Nat.reduceAdd] at eL_); subst eL_) | ((with_reducible refine gate_dst (N := 84) rfl ?_); (try (refine gate_guard (by rfl) ?_; dsimp only)); refine Kd.R_lit (Kd.int .i64) _ 3 ?hg (N := 84) ?hd (xs := ([9] : List Int)) (inner := [.int .i64 9]) (ok := fun _ => True) (okp := fun _ => True) ?hr ?hp (fun _ hk => hk) trivial (Below.refl _ _) (Nat.le_refl _) (by simp) ?_; (case hd => rfl); (case hg => rfl); (case hr => first | (go_simp; done) | (go_simp; rfl)); (case hp => exact (Reps.one (show Kd.M (Kd.int .i64) _ _ _ 9 [.int .i64 9] from rfl) (Reps.none _ _))); intro v_ W_ hoR hb hg_ hnew_; clear hg_ hnew_; have HP := HS.out.call hb; clear HS; have HS := Aside0.mk HP; clear HP; have HO := Aside0.mk hoR; clear hb hoR; obtain ⟨AL_, cL_, eL_⟩ := Kd.R_slice HO.out; (try simp only [List.length_cons, List.length_nil, Nat.zero_add, Nat.reduceAdd] at eL_); subst eL_) | ((with_reducible refine gate_dst (N := 93) rfl ?_); (try (refine gate_guard (by rfl) ?_; dsimp only)); refine Kd.R_lit (Kd.int .i64) _ 3 ?hg (N := 93) ?hd (xs := ([10] : List Int)) (inner := [.int .i64 10]) (ok := fun _ => True) (okp := fun _ => True) ?hr ?hp (fun _ hk => hk) trivial (Below.refl _ _) (Nat.le_refl _) (by simp) ?_; (case hd => rfl); (case hg => rfl); (case hr => first | (go_simp; done) | (go_simp; rfl)); (case hp => exact (Reps.one (show Kd.M (Kd.int .i64) _ _ _ 10 [.int .i64 10] from rfl) (Reps.none _ _))); intro v_ W_ hoR hb hg_ hnew_; clear hg_ hnew_; have HP := HS.out.call hb; clear HS; have HS := Aside0.mk HP; clear HP; have HO := Aside0.mk hoR; clear hb hoR; obtain ⟨AL_, cL_, eL_⟩ := Kd.R_slice HO.out; (try simp only [List.length_cons, List.length_nil, Nat.zero_add, Nat.reduceAdd] at eL_); subst eL_) | ((with_reducible refine gate_dst (N := 104) rfl ?_); (try (refine gate_guard (by rfl) ?_; dsimp only)); refine Kd.R_lit (Kd.int .i64) _ 3 ?hg (N := 104) ?hd (xs := ([9] : List Int)) (inner := [.int .i64 9]) (ok := fun _ => True) (okp := fun _ => True) ?hr ?hp (fun _ hk => hk) trivial (Below.refl _ _) (Nat.le_refl _) (by simp) ?_; (case hd => rfl); (case hg => rfl); (case hr => first | (go_simp; done) | (go_simp; rfl)); (case hp => exact (Reps.one (show Kd.M (Kd.int .i64) _ _ _ 9 [.int .i64 9] from rfl) (Reps.none _ _))); intro v_ W_ hoR hb hg_ hnew_; clear hg_ hnew_; have HP := HS.out.call hb; clear HS; have HS := Aside0.mk HP; clear HP; have HO := Aside0.mk hoR; clear hb hoR; obtain ⟨AL_, cL_, eL_⟩ := Kd.R_slice HO.out; (try simp only [List.length_cons, List.length_nil, Nat.zero_add, Nat.reduceAdd] at eL_); subst eL_) | ((with_reducible refine gate_dst (N := 113) rfl ?_); (try (refine gate_guard (by rfl) ?_; dsimp only)); refine Kd.R_lit (Kd.int .i64) _ 3 ?hg (N := 113) ?hd (xs := ([9] : List Int)) (inner := [.int .i64 9]) (ok := fun _ => True) (okp := fun _ => True) ?hr ?hp (fun _ hk => hk) trivial (Below.refl _ _) (Nat.le_refl _) (by simp) ?_; (case hd => rfl); (case hg => rfl); (case hr => first | (go_simp; done) | (go_simp; rfl)); (case hp => exact (Reps.one (show Kd.M (Kd.int .i64) _ _ _ 9 [.int .i64 9] from rfl) (Reps.none _ _))); intro v_ W_ hoR hb hg_ hnew_; clear hg_ hnew_; have HP := HS.out.call hb; clear HS; have HS := Aside0.mk HP; clear HP; have HO := Aside0.mk hoR; clear hb hoR; obtain ⟨AL_, cL_, eL_⟩ := Kd.R_slice HO.out; (try simp only [List.length_cons, List.length_nil, Nat.zero_add, Nat.reduceAdd] at eL_); subst eL_) | ((with_reducible refine gate_dst (N := 121) rfl ?_); (try (refine gate_guard (by rfl) ?_; dsimp only)); refine Kd.R_lit (Kd.int .i64) _ 3 ?hg (N := 121) ?hd (xs := ([10] : List Int)) (inner := [.int .i64 10]) (ok := fun _ => True) (okp := fun _ => True) ?hr ?hp (fun _ hk => hk) trivial (Below.refl _ _) (Nat.le_refl _) (by simp) ?_; (case hd => rfl); (case hg => rfl); (case hr => first | (go_simp; done) | (go_simp; rfl)); (case hp => exact (Reps.one (show Kd.M (Kd.int .i64) _ _ _ 10 [.int .i64 10] from rfl) (Reps.none _ _))); intro v_ W_ hoR hb hg_ hnew_; clear hg_ hnew_; have HP := HS.out.call hb; clear HS; have HS := Aside0.mk HP; clear HP; have HO := Aside0.mk hoR; clear hb hoR; obtain ⟨AL_, cL_, eL_⟩ := Kd.R_slice HO.out; (try simp only [List.length_cons, List.length_nil, Nat.zero_add, Nat.reduceAdd] at eL_); subst eL_) | ((with_reducible first | refine gate_dst (N := 33) rfl ?_ | refine gate_dst (N := 48) rfl ?_); (try (refine gate_guard (by rfl) ?_; dsimp only)); refine call_ev HS.out rfl rfl Tryd.func47 (by kernel_rfl) rfl (iK _ [2, 3] _ (kd_eq _ [2, 3] 2 3 (fun a => by simp)) (by decide) _ _ _ rfl _ (HT.out.below HS.out.below) HO.out) (by (try simp only [List.map_toArray, List.map_cons, List.map_nil]); first | done | rfl) ?_; rintro v_ W_ rfl HP HB_) | ((with_reducible refine gate_dst (N := 38) rfl ?_); (try (refine gate_guard (by rfl) ?_; dsimp only)); refine call_ev HS.out rfl rfl Tryd.func47 (by kernel_rfl) rfl (iK _ [2, 3, 4] _ (kd3 _) (by decide) _ _ _ rfl _ (HT.out.below HS.out.below) HO.out) (by (try simp only [List.map_toArray, List.map_cons, List.map_nil]); first | done | rfl) ?_; rintro v_ W_ rfl HP HB_) | ((with_reducible refine gate_dst (N := 43) rfl ?_); (try (refine gate_guard (by rfl) ?_; dsimp only)); refine call_ev HS.out rfl rfl Tryd.func47 (by kernel_rfl) rfl (iK _ [2, 3, 4, 7, 8] _ (kd5 _) (by decide) _ _ _ rfl _ (HT.out.below HS.out.below) HO.out) (by (try simp only [List.map_toArray, List.map_cons, List.map_nil]); first | done | rfl) ?_; rintro v_ W_ rfl HP HB_) | ((with_reducible refine gate_dst (N := 54) rfl ?_); (try (refine gate_guard (by rfl) ?_; dsimp only)); refine call_ev HS.out rfl rfl Tryd.func47 (by kernel_rfl) rfl (iK _ [5] _ (kd_eq _ [5] 5 5 (fun a => by simp)) (by decide) _ _ _ rfl _ (HT.out.below HS.out.below) HO.out) (by (try simp only [List.map_toArray, List.map_cons, List.map_nil]); first | done | rfl) ?_; rintro v_ W_ rfl HP HB_) | ((with_reducible refine gate_dst (N := 60) rfl ?_); (try (refine gate_guard (by rfl) ?_; dsimp only)); refine call_ev HS.out rfl rfl Tryd.func47 (by kernel_rfl) rfl (iK _ [4] _ (kd_eq _ [4] 4 4 (fun a => by simp)) (by decide) _ _ _ rfl _ (HT.out.below HS.out.below) HO.out) (by (try simp only [List.map_toArray, List.map_cons, List.map_nil]); first | done | rfl) ?_; rintro v_ W_ rfl HP HB_) | ((with_reducible refine gate_dst (N := 67) rfl ?_); (try (refine gate_guard (by rfl) ?_; dsimp only)); refine call_ev HS.out rfl rfl Tryd.func47 (by kernel_rfl) rfl (iK _ [7] _ (kd_eq _ [7] 7 7 (fun a => by simp)) (by decide) _ _ _ rfl _ (HT.out.below HS.out.below) HO.out) (by (try simp only [List.map_toArray, List.map_cons, List.map_nil]); first | done | rfl) ?_; rintro v_ W_ rfl HP HB_) | ((with_reducible refine gate_dst (N := 76) rfl ?_); (try (refine gate_guard (by rfl) ?_; dsimp only)); refine call_ev HS.out rfl rfl Tryd.func47 (by kernel_rfl) rfl (iK _ [8] _ (kd_eq _ [8] 8 8 (fun a => by simp)) (by decide) _ _ _ rfl _ (HT.out.below HS.out.below) HO.out) (by (try simp only [List.map_toArray, List.map_cons, List.map_nil]); first | done | rfl) ?_; rintro v_ W_ rfl HP HB_) | ((with_reducible first | refine gate_dst (N := 85) rfl ?_ | refine gate_dst (N := 105) rfl ?_ | refine gate_dst (N := 114) rfl ?_); (try (refine gate_guard (by rfl) ?_; dsimp only)); refine call_ev HS.out rfl rfl Tryd.func47 (by kernel_rfl) rfl (iK _ [9] _ (kd_eq _ [9] 9 9 (fun a => by simp)) (by decide) _ _ _ rfl _ (HT.out.below HS.out.below) HO.out) (by (try simp only [List.map_toArray, List.map_cons, List.map_nil]); first | done | rfl) ?_; rintro v_ W_ rfl HP HB_) | ((with_reducible first | refine gate_dst (N := 94) rfl ?_ | refine gate_dst (N := 122) rfl ?_); (try (refine gate_guard (by rfl) ?_; dsimp only)); refine call_ev HS.out rfl rfl Tryd.func47 (by kernel_rfl) rfl (iK _ [10] _ (kd_eq _ [10] 10 10 (fun a => by simp)) (by decide) _ _ _ rfl _ (HT.out.below HS.out.below) HO.out) (by (try simp only [List.map_toArray, List.map_cons, List.map_nil]); first | done | rfl) ?_; rintro v_ W_ rfl HP HB_) | ((with_reducible refine gate_dst (N := 99) rfl ?_); (try (refine gate_guard (by rfl) ?_; dsimp only)); refine call_ev HS.out rfl rfl Tryd.func50 (by kernel_rfl) rfl (iW _ _ (HT.out.below HS.out.below)) (by (try simp only [List.map_toArray, List.map_cons, List.map_nil]); first | done | rfl) ?_; rintro v_ W_ rfl HP HB_) | ((with_reducible refine gate_dst (N := 110) rfl ?_); (try (refine gate_guard (by rfl) ?_; dsimp only)); refine call_ev HS.out rfl rfl Tryd.func56 (by kernel_rfl) rfl (iR _ _ (HT.out.below HS.out.below)) (by (try simp only [List.map_toArray, List.map_cons, List.map_nil]); first | done | rfl) ?_; rintro v_ W_ rfl HP HB_)); (try (clear HS; have HS := Aside0.mk HP; clear HP; (try clear HB_); (try simp only [List.set_cons_zero, List.set_cons_succ] at HS))); (try simp only [Act.put, List.setIfInBounds_toArray, List.set_cons_zero, List.set_cons_succ]); (try simp only [e0_]); (try simp only [e1_]); (try simp only [e2_]))
  go_ret
  exact ⟨by first | rfl | (simp [coil]; done) | (simp [coil, e0_]; done) | (simp [coil, e0_, e1_]; done) | (simp [coil, e0_, e1_, e2_]; done) | (simp [coil, reck]; done) | (simp [coil, reck, e0_]; done) | (simp [coil, reck, e0_, e1_]; done) | (simp [coil, reck, e0_, e1_, e2_]; done) | (simp only [coil, reck]; rw [e0_]; simp; done) | (simp only [coil, reck]; rw [e0_, e1_]; simp; done) | (simp only [coil, reck]; rw [e0_, e2_]; simp; done) | (simp only [coil, reck]; rw [e0_, e1_, e2_]; simp; done) | (simp [coil, reck, e0_, e2_]; done) | (simp only [coil]; simp [*]; done), HS.out.below⟩

end Go.Proofs.YtkmfdlcmdgdepaaDoor.U
