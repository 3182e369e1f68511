/- Steps of regions that draw, over blocks of the call's own. No program in sight. -/
import Derived.Test.YtaegonmpjgdmgaaDoorRC
namespace Go.Proofs.YtaegonmpjgdmgaaDoor.MW
open Go Go.RowKit Go.Proofs.YtaegonmpjgdmgaaDoorW Go.Proofs.YtaegonmpjgdmgaaDoorW.PrintWords
set_option linter.unusedVariables false
theorem start_R {P : Program} {ops : Array Oper} {Q : Exit → Act → World → Prop} {a : Act} {w W : World} {L LS : List (Nat × Array Value)} {id n : Nat} (fl : Array Bool) (HS : Priv w W L) (hm : P.follows .mixedOrders = true) (hn : ops.size = n) (hl : Array.replicate n false = fl) (hS : ∀ W', Priv w W' L → Priv w W' LS)
    (h : ∀ W', Priv w W' L → Priv w W' LS → PrintLast.wpAnyLast P .any ops Q (fun W' => Priv w W' LS) [] n fl a W') : (Code.region id ops true).wp P Q a W :=
  PrintLast.start_ fl hm hn hl (hS _ HS.drew) (fun hh => h _ HS.drew hh)
theorem step_val {P : Program} {ops : Array Oper} {Q : Exit → Act → World → Prop} {K : Act → World → Prop} {o : Oper} {a : Act} {W W1 : World} {N : Option Tmp} {v : Value} (hw : Region.wanted o (yielded ops a.tmps) = true) (hN : o.dst = N) (hrun : (execOp a.eval o).run P W = .ok (.value v) W1)
    (h : K (a.put N v) W1) : if Region.wanted o (yielded ops a.tmps) = true then Oper.wp P o a W K Q else K (a.put N undef) W := PrintLast.value_ hw hN hrun h
theorem Priv.swap {w W : World} {x y : Nat × Array Value} {L : List (Nat × Array Value)} (H : Priv w W (x :: y :: L)) : Priv w W (y :: x :: L) :=
  H.sub (fun z hz => by simp only [List.mem_cons] at hz ⊢; rcases hz with h | h | h <;> simp [h]) (by
    have h := H.nd
    simp only [List.map_cons, List.nodup_cons, List.mem_cons, not_or] at h ⊢
    exact ⟨⟨fun e => h.1.1 e.symm, h.2.1⟩, h.1.2, h.2.2⟩)
theorem run_alloc {P : Program} {o : Oper} {a : Act} {W : World} {ty : TypeId} {cs : Array Value} (ho : o.op = .alloc ty) (hz : zeroOf P ty = some cs) : (execOp a.eval o).run P W = .ok (.value (.pointer (some ⟨W.heap.size, 0, none⟩))) (W.alloc (.cells cs ty)) := by
  unfold zeroOf at hz
  cases hi : P.info? ty with
  | none => rw [hi] at hz; cases hz
  | some ii =>
    rw [hi] at hz
    cases hzz : ii.zero with
    | none => simp [hzz] at hz
    | some z =>
      simp [hzz] at hz
      subst hz
      unfold execOp
      simp [ho, Instr.alloc, zeroValue, typeInfo, hi, hzz, newVar, newRow, newObj]
      rfl
theorem step_alloc {P : Program} {ops : Array Oper} {Q : Exit → Act → World → Prop} {K : Act → World → Prop} {o : Oper} {a : Act} {w W : World} {L : List (Nat × Array Value)} {N : Option Tmp} {ty : TypeId} {cs : Array Value} (hw : Region.wanted o (yielded ops a.tmps) = true) (HS : Priv w W L) (hN : o.dst = N) (ho : o.op = .alloc ty) (hz : zeroOf P ty = some cs)
    (h : ∀ g W', Priv w W' ((g, cs) :: L) → K (a.put N (.pointer (some ⟨g, 0, none⟩))) W') : if Region.wanted o (yielded ops a.tmps) = true then Oper.wp P o a W K Q else K (a.put N undef) W :=
  PrintLast.value_ hw hN (run_alloc ho hz) (h _ _ (HS.alloc cs ty))
theorem Priv.drop1 {w W : World} {x : Nat × Array Value} {L : List (Nat × Array Value)} (H : Priv w W (x :: L)) : Priv w W L := H.sub (fun y hy => List.mem_cons_of_mem _ hy) (List.nodup_cons.1 H.nd).2
end Go.Proofs.YtaegonmpjgdmgaaDoor.MW
