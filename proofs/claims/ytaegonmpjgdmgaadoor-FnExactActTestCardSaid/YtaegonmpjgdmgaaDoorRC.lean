/- Reads of a row of bytes that came in, beside the call's own blocks. No program in sight. -/
import Derived.Test.YtaegonmpjgdmgaaDoorRL
namespace Go.Proofs.YtaegonmpjgdmgaaDoor.MW
open Go Go.RowKit Go.Proofs.YtaegonmpjgdmgaaDoorW Go.Proofs.YtaegonmpjgdmgaaDoorW.PrintWords
set_option linter.unusedVariables false
def sl8 (P : Program) (t : TypeId) : Bool :=
  match P.underlying t with
  | some (.slice e) => (P.info? e).map (·.size) == some 1
  | _ => false
section
variable {P : Program} {ops : Array Oper} {rest : List Oper} {o : Oper} {a : Act} {Q : Exit → Act → World → Prop} {w W : World} {L : List (Nat × Array Value)} {ty : TypeId} {x y p : Operand} {ad : Addr} {n c : Nat} {k : IntKind} {i : Int} {xs : List Int} {v : Value}
end
/-! ### Steps of a region that draws, without a row -/
section
variable {P : Program} {ops : Array Oper} {rest : List Oper} {o : Oper} {a : Act} {Q : Exit → Act → World → Prop} {K : Act → World → Prop} {w W : World} {L : List (Nat × Array Value)} {g off n : Nat} {cs cs' seg : Array Value} {ty : TypeId} {p x : Operand} {v u : Value}
theorem Priv.none (HS : Priv w W L) : Priv w W [] := HS.sub (fun _ h => by cases h) (by simp)
theorem step_callr {f : FuncId} {ars : Array Operand} {ts : Array TypeId} {fn : Func} {args : Array Value} {N : Option Tmp} (hw : Region.wanted o (yielded ops a.tmps) = true) (HS : Priv w W L) (hN : o.dst = N) (ho : o.op = .call { callee := .value (.func f), args := ars, argTypes := ts })
    (hf : P.funcs[f]? = some fn) (hname : (fn.name == "runtime.NumGoroutine") = false) (hb : fn.body.isSome = true) (hargs : ars.map a.eval = args) (hc : Calls P f args W (Ret W (· = u)))
    (h : ∀ W', Priv w W' L → K (a.put N u) W') : if Region.wanted o (yielded ops a.tmps) = true then Oper.wp P o a W K Q else K (a.put N undef) W := by
  refine PrintLast.goes_ hf hname hb args hw hN ho hargs (hc.mono ?_)
  rintro e W' ⟨v0, rfl, rfl, hb⟩
  exact ⟨_, rfl, h W' (HS.call hb)⟩
theorem step_store_seg (hw : Region.wanted o (yielded ops a.tmps) = true) (HS : Priv w W L) {i : Nat} (hN : o.dst = none) (ho : o.op = .store ty p x) (hz : aggSize P ty = some n) (hp : a.eval p = .pointer (some ⟨g, off, none⟩)) (hx : a.eval x = .agg seg) (hi : L[i]? = some (g, cs)) (he : lay cs off seg = cs') (hn : seg.size = n)
    (hf : off + seg.size ≤ cs.size) (h1 : ∀ u ∈ seg, u.oneCell' = true) (h : ∀ W', Priv w W' (L.set i (g, cs')) → K a W') : if Region.wanted o (yielded ops a.tmps) = true then Oper.wp P o a W K Q else K (a.put none undef) W := by
  subst he
  refine PrintLast.skip_ hw hN ?_ (h _ (HS.set hi _))
  unfold execOp
  simp [ho, hp, hx, Instr.storeAt, Instr.sureAddr, run_store_seg (v := .agg seg) (HS.at_ hi) (isAgg_of (hn ▸ hz)).2 hf h1 rfl]
end
end Go.Proofs.YtaegonmpjgdmgaaDoor.MW
