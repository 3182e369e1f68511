/- Rows of bytes beside the call's own blocks: append, rooms, calls that hand back a row. No program in sight. -/
import Derived.Test.YtidficffkghlkaaDoorRW
import Derived.Test.YtidficffkghlkaaDoorWNEv
import Derived.Laws.Tables
namespace Go.Proofs.YtidficffkghlkaaDoor.MW
open Go Go.RowKit Go.Proofs.YtidficffkghlkaaDoorW Go.Proofs.YtidficffkghlkaaDoorW.PrintWords
set_option linter.unusedVariables false
def Bytes (W : World) (v : Value) (l : List Int) : Prop := ∃ A c, v = .slice A l.length c ∧ (Kd.int .u8).C W A l.length l ∧ l.length ≤ c
section
variable {w w0 W W' : World} {L L' : List (Nat × Array Value)} {v u : Value} {l ys : List Int} {ok : Nat → Prop}
theorem Bytes.below (h : Bytes W v l) (hb : Below W.heap.size W W') : Bytes W' v l := by
  obtain ⟨A, c, rfl, hC, hc⟩ := h
  exact ⟨A, c, rfl, Kd.C_below hC hb, hc⟩
theorem Bytes.of_R {base : Nat} (h : (Kd.int .u8).R 5 W base ok v l) : Bytes W v l := by
  obtain ⟨A, c, rfl, hc, hC⟩ := Kd.R_reads h
  exact ⟨A, c, rfl, hC, hc⟩
theorem Bytes.more (h : Bytes W v l) : ∃ A c, v = .slice A l.length c ∧ (Kd.int .u8).C W A l.length l ∧ l.length ≤ c := h
theorem Priv.sub (H : Priv w W L) (hs : ∀ x ∈ L', x ∈ L) (hn : (L'.map (·.1)).Nodup) : Priv w W L' :=
  ⟨H.below, fun x hx => H.ge x (hs x hx), fun x hx => H.blk x (hs x hx), hn⟩
theorem Priv.one {i g : Nat} {cs : Array Value} (H : Priv w W L) (hi : L[i]? = some (g, cs)) : Priv w W [(g, cs)] :=
  H.sub (fun x hx => by rw [List.mem_singleton] at hx; subst hx; exact List.mem_of_getElem? hi) (by simp)
theorem Priv.two {i j g g' : Nat} {cs cs' : Array Value} (H : Priv w W L) (hi : L[i]? = some (g, cs)) (hj : L[j]? = some (g', cs')) (hne : g ≠ g') : Priv w W [(g, cs), (g', cs')] :=
  H.sub (fun x hx => by
    simp only [List.mem_cons, List.not_mem_nil, or_false] at hx
    rcases hx with rfl | rfl
    · exact List.mem_of_getElem? hi
    · exact List.mem_of_getElem? hj) (by simp [hne])
theorem Priv.grown (HS : Priv w W L) (HO : Row w W L v l) (hg : W.grownBy W' v.ownBlock) (hb : Below w.heap.size w W') : Priv w W' L :=
  Priv.kept HS hb (Kept.of_grown (S := Away L) hg (Kept.refl W _) (fun k e => .inl (HO.1 k e)))
end
section
variable {P : Program} {ops : Array Oper} {rest : List Oper} {o : Oper} {a : Act} {Q : Exit → Act → World → Prop} {K : Act → World → Prop} {w W : World} {L : List (Nat × Array Value)} {v u : Value} {l ys : List Int} {s x : Operand} {t : TypeId}
theorem wanted_of (hgd : o.guard = none) : Region.wanted o (yielded ops a.tmps) = true := by simp [Region.wanted, hgd]
theorem step_append (hw : Region.wanted o (yielded ops a.tmps) = true) (HS : Priv w W L) (HO : Row w W L v l) (HC : Bytes W u ys) (ho : o.op = .call { callee := .builtin .append, args := #[s, x], argTypes := #[t, t] })
    (ht : P.underlying t = some (.slice 5)) (hinfo : (P.info? 5).map (fun i => (i.zero, i.size, i.bytes)) = some (some (.int .u8 0), 1, 1)) (hs : a.eval s = v) (hx : a.eval x = u) (hl : l.length + ys.length ≤ 1000000)
    (h : ∀ v' W', Priv w W' L → Row w W' L v' (l ++ ys) → K (a.put o.dst v') W') : if Region.wanted o (yielded ops a.tmps) = true then Oper.wp P o a W K Q else K (a.put o.dst undef) W := by
  obtain ⟨A, c, rfl, hC, _⟩ := HC
  refine Kd.R_append_rows_step (Kd.int .u8) (Rr := (Kd.int .u8).K W) (w0 := w) w.heap.size hw s x t 5 (.int .u8 0) 1 ho ht hinfo rfl (by decide) (by decide) v l ys A _ c (Away L) (fun _ => False) hs hx HO hC (fun _ _ h => h) (fun _ h => h.elim) (fun k hk y hy => by have := HS.lt hy; omega) HS.below HS.below.size (by omega) ?_
  intro v1 w1 ho1 hb hg hat
  exact h v1 w1 (HS.grown HO hg hb) ho1
theorem step_lit {y : Int} {N : Tmp} (hw : Region.wanted o (yielded ops a.tmps) = true) (HS : Priv w W L) (HO : Row w W L v l) (hd : o.dst = some N)
    (hrun : (execOp a.eval o).run P W = .ok (.value (.slice (some ⟨W.heap.size, 0, none⟩) 1 1)) (W.alloc (.cells #[.int .u8 y] 5)))
    (h : ∀ v' W', Priv w W' L → Row w W' L v l → Bytes W' v' [y] → K (a.put o.dst v') W') : if Region.wanted o (yielded ops a.tmps) = true then Oper.wp P o a W K Q else K (a.put o.dst undef) W := by
  refine Kd.R_lit_step (Kd.int .u8) (w0 := W) W.heap.size 5 hw hd (xs := [y]) (inner := [.int .u8 y]) (ok := fun _ => True) (okp := fun _ => True) hrun (Kd.reps_scalar [y]) (fun _ h => h) trivial (Below.refl _ _) (Nat.le_refl _) (by simp) ?_
  intro v1 w1 hr hb hg hat
  exact h v1 w1 (HS.call hb) (HO.below hb) (Bytes.of_R hr)
theorem step_bytes {f : FuncId} {ars : Array Operand} {ts : Array TypeId} {fn : Func} {args : Array Value} {N : Option Tmp} (hw : Region.wanted o (yielded ops a.tmps) = true) (HS : Priv w W L) (HO : Row w W L v l) (hN : o.dst = N) (ho : o.op = .call { callee := .value (.func f), args := ars, argTypes := ts })
    (hf : P.funcs[f]? = some fn) (hname : (fn.name == "runtime.NumGoroutine") = false) (hb : fn.body.isSome = true)
    (hargs : ars.map a.eval = args) (hc : Calls P f args W fun e w' => ∃ v0, e = .returned v0 ∧ (Kd.int .u8).R 5 w' W.heap.size (fun _ => True) v0 ys ∧ Below W.heap.size W w')
    (h : ∀ v' W', Priv w W' L → Row w W' L v l → Bytes W' v' ys → K (a.put N v') W') : if Region.wanted o (yielded ops a.tmps) = true then Oper.wp P o a W K Q else K (a.put N undef) W := by
  refine PrintLast.goes_ hf hname hb args hw hN ho hargs (hc.mono ?_)
  rintro e W' ⟨v0, rfl, hr, hb⟩
  exact ⟨v0, rfl, h v0 W' (HS.call hb) (HO.below hb) (Bytes.of_R hr)⟩
theorem step_quiet {f : FuncId} {ars : Array Operand} {ts : Array TypeId} {fn : Func} {args : Array Value} {N : Option Tmp} (hw : Region.wanted o (yielded ops a.tmps) = true) (hN : o.dst = N) (ho : o.op = .call { callee := .value (.func f), args := ars, argTypes := ts })
    (hf : P.funcs[f]? = some fn) (hname : (fn.name == "runtime.NumGoroutine") = false) (hb : fn.body.isSome = true)
    (hc : Calls P f args W fun e w' => e = .returned u ∧ w' = W) (hargs : ars.map a.eval = args)
    (h : K (a.put N u) W) : if Region.wanted o (yielded ops a.tmps) = true then Oper.wp P o a W K Q else K (a.put N undef) W := by
  refine PrintLast.goes_ hf hname hb args hw hN ho hargs (hc.mono ?_)
  rintro e W' ⟨rfl, rfl⟩
  exact ⟨u, rfl, h⟩
theorem ev_append (HS : Priv w W L) (HO : Row w W L v l) (HC : Bytes W u ys) (hgd : o.guard = none) (ho : o.op = .call { callee := .builtin .append, args := #[s, x], argTypes := #[t, t] })
    (ht : P.underlying t = some (.slice 5)) (hinfo : (P.info? 5).map (fun i => (i.zero, i.size, i.bytes)) = some (some (.int .u8 0), 1, 1)) (hs : a.eval s = v) (hx : a.eval x = u) (hl : l.length + ys.length ≤ 1000000)
    (h : ∀ v' W', Priv w W' L → Row w W' L v' (l ++ ys) → wpList P ops Q rest (a.put o.dst v') W') : wpList P ops Q (o :: rest) a W :=
  wpList_plain hgd fun K hK => by
    have h2 := step_append (ops := ops) (Q := Q) (K := K) (a := a) (wanted_of hgd) HS HO HC ho ht hinfo hs hx hl (fun v' W' h3 h4 => hK _ _ (h v' W' h3 h4))
    rwa [if_pos (wanted_of hgd)] at h2
theorem ev_bytes {f : FuncId} {ars : Array Operand} {ts : Array TypeId} {fn : Func} {args : Array Value} (HS : Priv w W L) (HO : Row w W L v l) (hgd : o.guard = none) (ho : o.op = .call { callee := .value (.func f), args := ars, argTypes := ts })
    (hf : P.funcs[f]? = some fn) (hname : (fn.name == "runtime.NumGoroutine") = false) (hb : fn.body.isSome = true)
    (hargs : ars.map a.eval = args) (hc : Calls P f args W fun e w' => ∃ v0, e = .returned v0 ∧ (Kd.int .u8).R 5 w' W.heap.size (fun _ => True) v0 ys ∧ Below W.heap.size W w')
    (h : ∀ v' W', Priv w W' L → Row w W' L v l → Bytes W' v' ys → wpList P ops Q rest (a.put o.dst v') W') : wpList P ops Q (o :: rest) a W :=
  wpList_plain hgd fun K hK => by
    have h2 := step_bytes (ops := ops) (Q := Q) (K := K) (a := a) (wanted_of hgd) HS HO rfl ho hf hname hb hargs hc (fun v' W' h3 h4 h5 => hK _ _ (h v' W' h3 h4 h5))
    rwa [if_pos (wanted_of hgd)] at h2
theorem ev_room {c : Nat} {cells : Array Value} (HS : Priv w W L) (hgd : o.guard = none)
    (hrun : (execOp a.eval o).run P W = .ok (.value (.slice (some ⟨W.heap.size, 0, none⟩) 0 c)) (W.alloc (.cells cells 5)))
    (hs : cells.size = c) (hm : c ≤ 9223372036854775807)
    (h : ∀ v' W', Priv w W' L → Row w W' L v' [] → wpList P ops Q rest (a.put o.dst v') W') : wpList P ops Q (o :: rest) a W := by
  refine Kd.event_run hgd hrun (h _ _ (HS.call (below_alloc (Below.refl _ _) _)) ⟨fun k hk => ?_, [], ?_, Reps.none _ _⟩)
  · have : W.heap.size = k := by simpa [Value.ownBlock] using hk
    subst this
    intro y hy
    have := HS.lt hy
    omega
  · exact World.ownsRow_made W cells c HS.below.size (by simpa [maxLen] using hm) (by show cells.size = c * 1; omega)
end
/-! ### New blocks and stores beside a row -/
section
variable {P : Program} {ops : Array Oper} {rest : List Oper} {o : Oper} {a : Act} {Q : Exit → Act → World → Prop} {w W : World} {L : List (Nat × Array Value)} {v : Value} {l : List Int} {g off n : Nat} {cs cs' seg : Array Value} {ty : TypeId} {p x : Operand}
theorem Row.alloc (HO : Row w W L v l) (cs : Array Value) (t : TypeId) : Row w (W.alloc (.cells cs t)) ((W.heap.size, cs) :: L) v l :=
  Kd.R_mono (Kd.R_alloc (Kd.R_bound HO) _) (fun k hk y hy => by
    rcases List.mem_cons.1 hy with rfl | hy
    · have := hk.2.2.1
      show W.heap.size ≠ k
      omega
    · exact hk.1 y hy)
theorem Row.set {i : Nat} (HO : Row w W L v l) (hi : L[i]? = some (g, cs)) (cs' : Array Value) : Row w (W.setRow g cs') (L.set i (g, cs')) v l :=
  Kd.R_mono (Kd.R_kept HO (S := fun k => k = g) ⟨by simp, fun k _ hn => setRow_other W g k cs' hn⟩ (fun k ho hk => ho (g, cs) (List.mem_of_getElem? hi) hk.symm)) (fun k hk y hy => by
    rcases List.mem_or_eq_of_mem_set hy with hy | rfl
    · exact hk y hy
    · exact hk (g, cs) (List.mem_of_getElem? hi))
theorem alloc_row (HS : Priv w W L) (HO : Row w W L v l) (hgd : o.guard = none) (ho : o.op = .alloc ty) (hz : zeroOf P ty = some cs) (h : ∀ g W', Priv w W' ((g, cs) :: L) → Row w W' ((g, cs) :: L) v l → wpList P ops Q rest (a.put o.dst (.pointer (some ⟨g, 0, none⟩))) W') : wpList P ops Q (o :: rest) a W := by
  refine ev_value hgd ?_ (h _ _ (HS.alloc cs ty) (HO.alloc cs ty))
  unfold zeroOf at hz
  cases hi : P.info? ty with
  | none => rw [hi] at hz; cases hz
  | some ii =>
    rw [hi] at hz
    cases hzz : ii.zero with
    | none => simp [hzz] at hz
    | some z =>
      simp [hzz] at hz
      subst hz
      unfold execOp
      simp [ho, Instr.alloc, zeroValue, typeInfo, hi, hzz, newVar, newRow, newObj]
      rfl
theorem store_row (HS : Priv w W L) (HO : Row w W L v l) {i : Nat} (hgd : o.guard = none) (hN : o.dst = none) (ho : o.op = .store ty p x) (hz : aggSize P ty = some n) (hp : a.eval p = .pointer (some ⟨g, off, none⟩)) (hx : a.eval x = .agg seg) (hi : L[i]? = some (g, cs)) (he : lay cs off seg = cs') (hn : seg.size = n)
    (hf : off + seg.size ≤ cs.size) (h1 : ∀ u ∈ seg, u.oneCell' = true) (h : ∀ W', Priv w W' (L.set i (g, cs')) → Row w W' (L.set i (g, cs')) v l → wpList P ops Q rest a W') : wpList P ops Q (o :: rest) a W := by
  subst he
  refine ev_store hgd hN ?_ (h _ (HS.set hi _) (HO.set hi _))
  unfold execOp
  simp [ho, hp, hx, Instr.storeAt, Instr.sureAddr, run_store_seg (v := .agg seg) (HS.at_ hi) (isAgg_of (hn ▸ hz)).2 hf h1 rfl]
end
/-! ### An element of an array that is a value -/
def arrEl (P : Program) (t : TypeId) : Option (Nat × Nat) :=
  match P.underlying t with
  | some (.array n e) => (aggSize P e).map fun s => (n, s)
  | _ => none
section
variable {P : Program} {ops : Array Oper} {rest : List Oper} {o : Oper} {a : Act} {Q : Exit → Act → World → Prop} {W : World} {cs seg : Array Value} {ty : TypeId} {x y : Operand}
theorem run_index_seg {m s : Nat} {k : IntKind} {j : Int} (ho : o.op = .index ty x y) (hx : a.eval x = .agg cs) (hy : a.eval y = .int k j) (hf : arrEl P ty = some (m, s)) (h0 : 0 ≤ j) (h1 : j < m) (hn : seg.size = s) (hfit : j.toNat * s + s ≤ cs.size)
    (hs : ∀ i, i < seg.size → cs[j.toNat * s + i]? = seg[i]?) : (execOp a.eval o).run P W = .ok (.value (.agg seg)) W := by
  unfold arrEl at hf
  cases hu : P.underlying ty with
  | none => rw [hu] at hf; cases hf
  | some d =>
    rw [hu] at hf
    cases d <;> simp at hf
    rename_i n' e
    obtain ⟨hz, rfl⟩ := hf
    obtain ⟨a1, a2⟩ := isAgg_of (W := W) hz
    have he : cs.extract (j.toNat * s) (j.toNat * s + s) = seg := by
      apply Array.ext_getElem?
      intro i
      rw [Array.getElem?_extract]
      by_cases hi : i < s
      · rw [if_pos (by omega), hs i (by omega)]
      · rw [if_neg (by omega), Array.getElem?_eq_none (by omega)]
    unfold execOp
    simp [ho, hx, hy, Instr.index, asIntOf, run_underlying hu, h0, h1, part, a1, a2, he]
theorem index_seg {m s : Nat} {k : IntKind} {j : Int} (hgd : o.guard = none) (ho : o.op = .index ty x y) (hx : a.eval x = .agg cs) (hy : a.eval y = .int k j) (hf : arrEl P ty = some (m, s)) (h0 : 0 ≤ j) (h1 : j < m) (hn : seg.size = s) (hfit : j.toNat * s + s ≤ cs.size)
    (hs : ∀ i, i < seg.size → cs[j.toNat * s + i]? = seg[i]?) (h : wpList P ops Q rest (a.put o.dst (.agg seg)) W) : wpList P ops Q (o :: rest) a W := ev_value hgd (run_index_seg ho hx hy hf h0 h1 hn hfit hs) h
end
section
variable {P : Program} {ops : Array Oper} {Q : Exit → Act → World → Prop} {a : Act} {w W : World} {L LS : List (Nat × Array Value)} {v : Value} {l : List Int}
theorem start_P {id n : Nat} (fl : Array Bool) (HS : Priv w W L) (HO : Row w W L v l) (hm : P.follows .mixedOrders = true) (hn : ops.size = n) (hl : Array.replicate n false = fl) (hS : ∀ W', Priv w W' L → Priv w W' LS)
    (h : ∀ W', Priv w W' L → Row w W' L v l → Priv w W' LS → PrintLast.wpAnyLast P .any ops Q (fun W' => Priv w W' LS) [] n fl a W') : (Code.region id ops true).wp P Q a W :=
  PrintLast.start_ fl hm hn hl (hS _ HS.drew) (fun hh => h _ HS.drew HO.drew hh)
end
end Go.Proofs.YtidficffkghlkaaDoor.MW
