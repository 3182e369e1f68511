/- Walks over the ladders' memory: what the functions of this seat answer. -/
import Derived.Test.YtaegonmpjgdmgaaDoorProg
import Derived.Test.YtaegonmpjgdmgaaDoorMW
import Derived.WalkKit
import Derived.Deep.LoopGhost
import Derived.Deep.DeepCutAuto
import Derived.BigFrame
import Derived.Deep.QuietTactic
import Derived.BigQuiet
import Derived.Test.YtaegonmpjgdmgaaDoorOH
import Derived.Test.YtaegonmpjgdmgaaDoorFx1
import Derived.Test.YtaegonmpjgdmgaaDoorFx3
namespace Go.Proofs.YtaegonmpjgdmgaaDoor.K
open Go Go.RowKit Go.Proofs.YtaegonmpjgdmgaaDoorW Go.Proofs.YtaegonmpjgdmgaaDoorW.PrintWords Go.Proofs.YtaegonmpjgdmgaaDoor.MW
set_option linter.unusedVariables false
set_option linter.unusedSimpArgs false
set_option maxRecDepth 100000

open BActT
section
variable {P : Program} {ops : Array Oper} {o : Oper} {a : Act} {Q : Exit → Act → World → Prop} {K : Act → World → Prop} {rest : List Oper} {w W : World} {L : List (Nat × Array Value)}
theorem step_own {f : FuncId} {ars : Array Operand} {ts : Array TypeId} {fn : Func} {args : Array Value} {N : Option Tmp} {R : Value → World → Prop} (hw : Region.wanted o (yielded ops a.tmps) = true) (HS : Priv w W L) (hN : o.dst = N) (ho : o.op = .call { callee := .value (.func f), args := ars, argTypes := ts })
  (hf : P.funcs[f]? = some fn) (hname : (fn.name == "runtime.NumGoroutine") = false) (hb : fn.body.isSome = true) (hargs : ars.map a.eval = args) (hc : Calls P f args W (fun e W' => ∃ v, e = .returned v ∧ R v W' ∧ Below W.heap.size W W'))
  (h : ∀ v W', R v W' → Priv w W' L → Below W.heap.size W W' → K (a.put N v) W') : if Region.wanted o (yielded ops a.tmps) = true then Oper.wp P o a W K Q else K (a.put N undef) W := by
 refine PrintLast.goes_ hf hname hb args hw hN ho hargs (hc.mono ?_)
 rintro e W' ⟨v0, rfl, hr, hb⟩
 exact ⟨_, rfl, h _ W' hr (HS.call hb) hb⟩
theorem ev_own {f : FuncId} {ars : Array Operand} {ts : Array TypeId} {fn : Func} {args : Array Value} {R : Value → World → Prop} (HS : Priv w W L) (hgd : o.guard = none) (ho : o.op = .call { callee := .value (.func f), args := ars, argTypes := ts })
  (hf : P.funcs[f]? = some fn) (hname : (fn.name == "runtime.NumGoroutine") = false) (hb : fn.body.isSome = true) (hargs : ars.map a.eval = args) (hc : Calls P f args W (fun e W' => ∃ v, e = .returned v ∧ R v W' ∧ Below W.heap.size W W'))
  (h : ∀ v W', R v W' → Priv w W' L → wpList P ops Q rest (a.put o.dst v) W') : wpList P ops Q (o :: rest) a W := by
 refine PrintLast.goesL_ _ rfl hgd hf hname hb args ho hargs (hc.mono ?_)
 rintro e W' ⟨v0, rfl, hr, hb⟩
 exact ⟨_, rfl, h _ W' hr (HS.call hb)⟩
theorem step_allocB {N : Option Tmp} {ty : TypeId} {cs : Array Value} (hw : Region.wanted o (yielded ops a.tmps) = true) (HS : Priv w W L) (hN : o.dst = N) (ho : o.op = .alloc ty) (hz : zeroOf P ty = some cs)
  (h : ∀ g W', Priv w W' ((g, cs) :: L) → Below W.heap.size W W' → K (a.put N (.pointer (some ⟨g, 0, none⟩))) W') : if Region.wanted o (yielded ops a.tmps) = true then Oper.wp P o a W K Q else K (a.put N undef) W :=
 PrintLast.value_ hw hN (run_alloc ho hz) (h _ _ (HS.alloc cs ty) (below_alloc (Below.refl _ _) _))
end
theorem args_one {W : World} {v : Value} {l : List Dev} (h : ArgsAt W v l) : v.oneCell' = true := by
 obtain ⟨A, c, xs, rfl, _⟩ := h
 rfl
theorem one2_ {n : Int} {v : Value} (h : v.oneCell' = true) : ∀ u ∈ (#[.int .i64 n, v] : Array Value), u.oneCell' = true := by
 intro u hu
 simp only [List.mem_toArray, List.mem_cons, List.not_mem_nil, or_false] at hu
 rcases hu with rfl | rfl
 ·rfl
 ·exact h
/-- A copy of a contact: the same operands, in a row of its own. -/
def ElemAt (op : Int) (l : List Dev) (v : Value) (W : World) : Prop := ∃ v0, v = .agg #[.int .i64 op, v0] ∧ ArgsAt W v0 l
theorem c_toElem (op : Int) (A : Option Addr) (c : Nat) (xs : List F.S96) (hl : xs.length ≤ 1048576) (W : World) (hC : Kd.C F.k96 W A xs.length xs) (hc : xs.length ≤ c) : Calls Tryd.prog 8 #[.agg #[.int .i64 op, .slice A xs.length c]] W (fun e W' => ∃ v, e = .returned v ∧ ElemAt op ((xs.map cD).map dv) v W' ∧ Below W.heap.size W W') := by
 obtain ⟨k, hk⟩ := toElem_ev op xs (by omega)
 refine (F.laws_toElem.calls k op A c xs op (xs.map cD) W hC hc (hk k (Nat.le_refl _))).mono ?_
 rintro e W' ⟨v1, rfl, hR, hb⟩
 obtain ⟨A1, c1, rfl⟩ := Kd.R_slice hR
 exact ⟨_, rfl, ⟨_, rfl, A1, c1, xs.map cD, rfl, rfl, (Kd.R_reads' hR).2.2, (Kd.R_reads' hR).2.1⟩, hb⟩
theorem dv_inj {xs ys : List F.S61} (h : xs.map dv = ys.map dv) : xs = ys := by
 have hi : ∀ a b : F.S61, dv a = dv b → a = b := by
  rintro ⟨a0, a1, a2⟩ ⟨b0, b1, b2⟩ h
  unfold dv at h
  injection h with h1 h2
  injection h2 with h2 h3
  subst h1 h2 h3; rfl
 exact List.map_inj_right hi |>.1 h
theorem c_eqElem (op : Int) (l : List Dev) (hl : l.length ≤ 1048576) (v1 v2 : Value) (W : World) (h1 : ArgsAt W v1 l) (h2 : ArgsAt W v2 l) : Calls Tryd.prog 11 #[.agg #[.int .i64 op, v1], .agg #[.int .i64 op, v2]] W (Ret W (· = .bool true)) := by
 obtain ⟨A1, c1, xs, rfl, e1, hC1, hc1⟩ := h1
 obtain ⟨A2, c2, ys, rfl, e2, hC2, hc2⟩ := h2
 obtain rfl := dv_inj (e1.symm.trans e2)
 have hx : xs.length ≤ 1048576 := by rw [e1, List.length_map] at hl; exact hl
 obtain ⟨k, hk⟩ := eqElem_self op xs (by omega)
 exact Ret.of_eq (F.laws_eqElem.calls k op A1 c1 xs op A2 c2 xs true W hC1 hc1 hC2 hc2 (hk k (Nat.le_refl _)))
theorem c_szElem (op : Int) (A : Option Addr) (c : Nat) (xs : List F.S96) (W : World) (hC : Kd.C F.k96 W A xs.length xs) (hc : xs.length ≤ c) (r : Int) (hr : F.laws_szElem.f op xs 1048576 = some r) : Calls Tryd.prog 5 #[.agg #[.int .i64 op, .slice A xs.length c], .int .i64 1048576] W (Ret W (· = .int .i64 r)) :=
 Ret.of_eq (F.laws_szElem.calls op A c xs 1048576 r W hC hc hr)

end Go.Proofs.YtaegonmpjgdmgaaDoor.K
