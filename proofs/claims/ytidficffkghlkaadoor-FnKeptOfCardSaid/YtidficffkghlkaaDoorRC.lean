/- Reads of a row of bytes that came in, beside the call's own blocks. No program in sight. -/
import Derived.Test.YtidficffkghlkaaDoorRL
namespace Go.Proofs.YtidficffkghlkaaDoor.MW
open Go Go.RowKit Go.Proofs.YtidficffkghlkaaDoorW Go.Proofs.YtidficffkghlkaaDoorW.PrintWords
set_option linter.unusedVariables false
def sl8 (P : Program) (t : TypeId) : Bool :=
  match P.underlying t with
  | some (.slice e) => (P.info? e).map (·.size) == some 1
  | _ => false
section
variable {P : Program} {ops : Array Oper} {rest : List Oper} {o : Oper} {a : Act} {Q : Exit → Act → World → Prop} {w W : World} {L : List (Nat × Array Value)} {ty : TypeId} {x y p : Operand} {ad : Addr} {n c : Nat} {k : IntKind} {i : Int} {xs : List Int} {v : Value}
theorem run_index_row (ho : o.op = .indexAddr ty x y) (hx : a.eval x = .slice (some ad) n c) (hy : a.eval y = .int k i) (hs : sl8 P ty = true) (h0 : 0 ≤ i) (h1 : i < n) : (execOp a.eval o).run P W = .ok (.value (.pointer (some (ad.add i.toNat)))) W := by
  unfold sl8 at hs
  cases hu : P.underlying ty with
  | none => rw [hu] at hs; cases hs
  | some d =>
    rw [hu] at hs
    cases d <;> simp at hs
    rename_i e
    cases hi : P.info? e with
    | none => simp [hi] at hs
    | some ii =>
      simp [hi] at hs
      unfold execOp
      simp [ho, hx, hy, Instr.indexAt, asIntOf, run_underlying hu, sizeOf, typeInfo, hi, hs, h0, h1]
theorem run_load_cell (ho : o.op = .load ty p) (hz : oneT P ty = true) (hp : a.eval p = .pointer (some ad)) (hc : W.cell? ad = some v) : (execOp a.eval o).run P W = .ok (.value v) W := by
  obtain ⟨h1, _⟩ := isOne_of (W := W) hz
  unfold execOp
  simp [ho, hp, Instr.loadAt, Instr.sureAddr, loadVar, h1, load, Sem.run, hc]
theorem cell_row (HS : Priv w W L) (hC : (Kd.int .u8).C w (some ad) n xs) (h0 : 0 ≤ i) (h1 : i < n) : W.cell? (ad.add i.toNat) = some (.int .u8 (rd xs i)) := by
  obtain ⟨ad2, e, h⟩ := Kd.at_int (Kd.C_below hC HS.below) i h0 h1
  cases e
  exact h
theorem index_row (hgd : o.guard = none) (ho : o.op = .indexAddr ty x y) (hx : a.eval x = .slice (some ad) n c) (hy : a.eval y = .int k i) (hs : sl8 P ty = true) (h0 : 0 ≤ i) (h1 : i < n)
    (h : wpList P ops Q rest (a.put o.dst (.pointer (some (ad.add i.toNat)))) W) : wpList P ops Q (o :: rest) a W := ev_value hgd (run_index_row ho hx hy hs h0 h1) h
theorem load_row (HS : Priv w W L) (hC : (Kd.int .u8).C w (some ad) n xs) (hgd : o.guard = none) (ho : o.op = .load ty p) (hz : oneT P ty = true) (hp : a.eval p = .pointer (some (ad.add i.toNat))) (h0 : 0 ≤ i) (h1 : i < n)
    (h : wpList P ops Q rest (a.put o.dst (.int .u8 (rd xs i))) W) : wpList P ops Q (o :: rest) a W := ev_value hgd (run_load_cell ho hz hp (cell_row HS hC h0 h1)) h
end
/-! ### Steps of a region that draws, without a row -/
section
variable {P : Program} {ops : Array Oper} {rest : List Oper} {o : Oper} {a : Act} {Q : Exit → Act → World → Prop} {K : Act → World → Prop} {w W : World} {L : List (Nat × Array Value)} {g off n : Nat} {cs cs' seg : Array Value} {ty : TypeId} {p x : Operand} {v u : Value}
theorem run_buildr {ty : TypeId} {parts : Array (Nat × Operand)} {places : Array (Nat × Nat)} {zc cs : Array Value} (ho : o.op = .build ty parts) (hpl : ∃ fs, P.underlying ty = some (.struct fs) ∧ ∀ W : World, (fs.mapM fun f => do pure (f.offset, ← sizeOf f.type) : Sem (Array (Nat × Nat))).run P W = .ok places W) (hz : zeroOf P ty = some zc) (hf : Instr.fill (places[·]?) zc (parts.map fun (i, x) => (i, a.eval x)).toList = some cs) : (execOp a.eval o).run P W = .ok (.value (.agg cs)) W := by
  obtain ⟨fs, hu, hpl⟩ := hpl
  unfold zeroOf at hz
  cases hi : P.info? ty with
  | none => rw [hi] at hz; cases hz
  | some ii =>
    rw [hi] at hz
    cases hzz : ii.zero with
    | none => simp [hzz] at hz
    | some z =>
      simp [hzz] at hz
      subst hz
      have hz' : (zeroValue ty).run P W = .ok z W := by simp [zeroValue, typeInfo, hi, hzz]
      have hb : (Instr.build ty (parts.map fun (i, x) => (i, a.eval x))).run P W = .ok (.agg cs) W := by
        unfold Instr.build
        rw [Sem.run_bind, hz']
        simp only [Result.andThen]
        rw [Sem.run_bind, run_underlying hu]
        simp only [Result.andThen]
        rw [Sem.run_bind, hpl W]
        simp only [Result.andThen]
        split
        · rename_i cells h'
          rw [show cells = cs from Option.some.inj (h'.symm.trans hf)]
          rfl
        · rename_i h'
          exact (h' _ hf).elim
      unfold execOp
      simp [ho, hb]
theorem start_Q {id n : Nat} (fl : Array Bool) (HS : Priv w W L) (hm : P.follows .mixedOrders = true) (hn : ops.size = n) (hl : Array.replicate n false = fl)
    (h : ∀ W', Priv w W' L → Priv w W' [] → PrintLast.wpAnyLast P .any ops Q (fun W' => Priv w W' []) [] n fl a W') : (Code.region id ops true).wp P Q a W :=
  PrintLast.start_ fl hm hn hl (HS.drew.sub (fun _ h => by cases h) (by simp)) (fun hh => h _ HS.drew hh)
theorem Priv.none (HS : Priv w W L) : Priv w W [] := HS.sub (fun _ h => by cases h) (by simp)
theorem step_callr {f : FuncId} {ars : Array Operand} {ts : Array TypeId} {fn : Func} {args : Array Value} {N : Option Tmp} (hw : Region.wanted o (yielded ops a.tmps) = true) (HS : Priv w W L) (hN : o.dst = N) (ho : o.op = .call { callee := .value (.func f), args := ars, argTypes := ts })
    (hf : P.funcs[f]? = some fn) (hname : (fn.name == "runtime.NumGoroutine") = false) (hb : fn.body.isSome = true) (hargs : ars.map a.eval = args) (hc : Calls P f args W (Ret W (· = u)))
    (h : ∀ W', Priv w W' L → K (a.put N u) W') : if Region.wanted o (yielded ops a.tmps) = true then Oper.wp P o a W K Q else K (a.put N undef) W := by
  refine PrintLast.goes_ hf hname hb args hw hN ho hargs (hc.mono ?_)
  rintro e W' ⟨v0, rfl, rfl, hb⟩
  exact ⟨_, rfl, h W' (HS.call hb)⟩
theorem step_store_seg (hw : Region.wanted o (yielded ops a.tmps) = true) (HS : Priv w W L) {i : Nat} (hN : o.dst = none) (ho : o.op = .store ty p x) (hz : aggSize P ty = some n) (hp : a.eval p = .pointer (some ⟨g, off, none⟩)) (hx : a.eval x = .agg seg) (hi : L[i]? = some (g, cs)) (he : lay cs off seg = cs') (hn : seg.size = n)
    (hf : off + seg.size ≤ cs.size) (h1 : ∀ u ∈ seg, u.oneCell' = true) (h : ∀ W', Priv w W' (L.set i (g, cs')) → K a W') : if Region.wanted o (yielded ops a.tmps) = true then Oper.wp P o a W K Q else K (a.put none undef) W := by
  subst he
  refine PrintLast.skip_ hw hN ?_ (h _ (HS.set hi _))
  unfold execOp
  simp [ho, hp, hx, Instr.storeAt, Instr.sureAddr, run_store_seg (v := .agg seg) (HS.at_ hi) (isAgg_of (hn ▸ hz)).2 hf h1 rfl]
end
end Go.Proofs.YtidficffkghlkaaDoor.MW
