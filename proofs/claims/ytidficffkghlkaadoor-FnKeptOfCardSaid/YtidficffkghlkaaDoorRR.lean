/- The call's own blocks beside a reader of a code, that the caller handed on by pointer. -/
import Derived.Test.YtidficffkghlkaaDoorMW
import Derived.Test.YtidficffkghlkaaDoorFx2
import Derived.Test.YtidficffkghlkaaDoorTell
namespace Go.Proofs.YtidficffkghlkaaDoor.MW
open Go Go.RowKit Go.Proofs.YtidficffkghlkaaDoorW Go.Proofs.YtidficffkghlkaaDoorW.PrintWords
set_option linter.unusedVariables false
structure PrR (w0 w W : World) (L : List (Nat × Array Value)) (g0 : Nat) (b : List Int) (q : Int) : Prop where
  pr : Priv w0 W L
  rd : ∃ p : Int, 0 ≤ p ∧ p ≤ q ∧ F.IsS130 w0 W g0 b p
  ge : ∀ x ∈ L, w.heap.size ≤ x.1
  gl : g0 < w.heap.size
  kp : KeepBut w W g0 none
section
variable {w0 w W W' : World} {L : List (Nat × Array Value)} {g0 : Nat} {b : List Int} {q q' : Int} {g off i : Nat} {cs cs' : Array Value} {t : TypeId}
theorem PrR.begin {p : Int} (h0 : 0 ≤ p) (h1 : p ≤ q) (hI : F.IsS130 w0 w g0 b p) (hB : Below w0.heap.size w0 w) : PrR w0 w w [] g0 b q := by
  refine ⟨⟨hB, (fun _ h => by cases h), (fun _ h => by cases h), List.nodup_nil⟩, ⟨p, h0, h1, hI⟩, (fun _ h => by cases h), ?_, KeepBut.refl _ _ _⟩
  obtain ⟨A0, c0, hb, _, _⟩ := hI
  exact (Array.getElem?_eq_some_iff.1 hb).1
theorem PrR.mono (H : PrR w0 w W L g0 b q) (h : q ≤ q') : PrR w0 w W L g0 b q' := by
  obtain ⟨h1, ⟨p, a1, a2, a3⟩, h3, h4, h5⟩ := H
  exact ⟨h1, ⟨p, a1, by omega, a3⟩, h3, h4, h5⟩
theorem PrR.drop {x : Nat × Array Value} (H : PrR w0 w W (x :: L) g0 b q) : PrR w0 w W L g0 b q :=
  ⟨⟨H.pr.below, fun y hy => H.pr.ge y (List.mem_cons_of_mem _ hy), fun y hy => H.pr.blk y (List.mem_cons_of_mem _ hy), (List.nodup_cons.1 H.pr.nd).2⟩, H.rd, fun y hy => H.ge y (List.mem_cons_of_mem _ hy), H.gl, H.kp⟩
theorem PrR.at_ (H : PrR w0 w W L g0 b q) (hi : L[i]? = some (g, cs)) : ∃ t, W.heap[g]? = some (.cells cs t (0, 0)) := H.pr.at_ hi
theorem PrR.ltg (H : PrR w0 w W L g0 b q) : g0 < W.heap.size := Nat.lt_of_lt_of_le H.gl H.kp.1
theorem PrR.alloc (H : PrR w0 w W L g0 b q) (cs : Array Value) (t : TypeId) : PrR w0 w (W.alloc (.cells cs t)) ((W.heap.size, cs) :: L) g0 b q := by
  refine ⟨H.pr.alloc cs t, ?_, fun x hx => ?_, H.gl, ?_, fun i hi hne hr => ?_⟩
  · obtain ⟨p, a1, a2, A0, c0, hb, hg, hr⟩ := H.rd
    exact ⟨p, a1, a2, A0, c0, (Below.heap_alloc W _ _ H.ltg).trans hb, hg, hr⟩
  · rcases List.mem_cons.1 hx with rfl | hx
    · exact H.kp.1
    · exact H.ge x hx
  · exact Nat.le_trans H.kp.1 (Below.size ((Below.refl W.heap.size W).alloc (Nat.le_refl _) _))
  · exact (Below.heap_alloc W _ _ (Nat.lt_of_lt_of_le hi H.kp.1)).trans (H.kp.2 i hi hne hr)
theorem PrR.set (H : PrR w0 w W L g0 b q) (hi : L[i]? = some (g, cs)) (cs' : Array Value) : PrR w0 w (W.setRow g cs') (L.set i (g, cs')) g0 b q := by
  have hmem : (g, cs) ∈ L := List.mem_of_getElem? hi
  have hge : w.heap.size ≤ g := H.ge _ hmem
  have hsz : (W.setRow g cs').heap.size = W.heap.size := by
    have h1 := (H.pr.set hi cs').below.size
    simp [World.setRow]
    try split <;> simp
  refine ⟨H.pr.set hi cs', ?_, fun x hx => ?_, H.gl, ?_, fun k hk hne hr => ?_⟩
  · obtain ⟨p, a1, a2, A0, c0, hb, hg, hr⟩ := H.rd
    exact ⟨p, a1, a2, A0, c0, (setRow_other W g g0 cs' (by have := H.gl; omega)).trans hb, hg, hr⟩
  · rcases List.mem_or_eq_of_mem_set hx with hx | rfl
    · exact H.ge x hx
    · exact hge
  · rw [hsz]; exact H.kp.1
  · exact (setRow_other W g k cs' (by omega)).trans (H.kp.2 k hk hne hr)
theorem PrR.drew (H : PrR w0 w W L g0 b q) : PrR w0 w W.drew L g0 b q := ⟨H.pr.drew, H.rd, H.ge, H.gl, H.kp⟩
theorem PrR.drewN (H : PrR w0 w W L g0 b q) (n : Nat) : PrR w0 w (W.drewN n) L g0 b q := by
  obtain ⟨e1, e2⟩ : (W.drewN n).heap = W.heap ∧ True := ⟨by simp, trivial⟩
  refine ⟨H.pr.drewN n, ?_, H.ge, H.gl, ?_⟩
  · obtain ⟨p, a1, a2, A0, c0, hb, hg, hr⟩ := H.rd
    exact ⟨p, a1, a2, A0, c0, by rw [e1]; exact hb, hg, hr⟩
  · have h := H.kp
    unfold KeepBut at h ⊢
    rw [e1]; exact h
/-- A call that leaves what was there. -/
theorem PrR.call (H : PrR w0 w W L g0 b q) (hb : Below W.heap.size W W') : PrR w0 w W' L g0 b q := by
  refine ⟨H.pr.call hb, ?_, H.ge, H.gl, Nat.le_trans H.kp.1 hb.size, fun i hi hne hr => ?_⟩
  · obtain ⟨p, a1, a2, A0, c0, hb', hg, hr⟩ := H.rd
    exact ⟨p, a1, a2, A0, c0, (hb.block _ H.ltg).trans hb', hg, hr⟩
  · exact (hb.block _ (Nat.lt_of_lt_of_le hi H.kp.1)).trans (H.kp.2 i hi hne hr)
/-- A call that reads on. -/
theorem PrR.read {p : Int} (H : PrR w0 w W L g0 b q) (h0 : 0 ≤ p) (h1 : p ≤ q') (hI : F.IsS130 w0 W' g0 b p) (hB : Below w0.heap.size w0 W') (hK : KeepBut W W' g0 none) : PrR w0 w W' L g0 b q' := by
  refine ⟨⟨hB, H.pr.ge, fun x hx => ?_, H.pr.nd⟩, ⟨p, h0, h1, hI⟩, H.ge, H.gl, Nat.le_trans H.kp.1 hK.1, fun i hi hne hr => ?_⟩
  · obtain ⟨t, h⟩ := H.pr.blk x hx
    refine ⟨t, (hK.2 x.1 (H.pr.lt hx) ?_ (by simp)).trans h⟩
    have := H.ge x hx
    have := H.gl
    omega
  · exact (hK.2 i (Nat.lt_of_lt_of_le hi H.kp.1) hne (by simp)).trans (H.kp.2 i hi hne hr)
end
section
variable {P : Program} {ops : Array Oper} {rest : List Oper} {o : Oper} {a : Act} {Q : Exit → Act → World → Prop} {w0 w W : World} {L : List (Nat × Array Value)} {g0 : Nat} {b : List Int} {q : Int}
variable {g off n : Nat} {cs cs' seg : Array Value} {ty : TypeId} {p x : Operand} {v : Value}
theorem store_segR (HS : PrR w0 w W L g0 b q) {i : Nat} (hgd : o.guard = none) (hN : o.dst = none) (ho : o.op = .store ty p x) (hz : aggSize P ty = some n) (hp : a.eval p = .pointer (some ⟨g, off, none⟩)) (hx : a.eval x = .agg seg) (hi : L[i]? = some (g, cs)) (he : lay cs off seg = cs') (hn : seg.size = n)
    (hf : off + seg.size ≤ cs.size) (h1 : ∀ u ∈ seg, u.oneCell' = true) (h : ∀ W', PrR w0 w W' (L.set i (g, cs')) g0 b q → wpList P ops Q rest a W') : wpList P ops Q (o :: rest) a W := by
  subst he
  refine ev_store hgd hN ?_ (h _ (HS.set hi _))
  unfold execOp
  simp [ho, hp, hx, Instr.storeAt, Instr.sureAddr, run_store_seg (v := .agg seg) (HS.at_ hi) (isAgg_of (hn ▸ hz)).2 hf h1 rfl]
theorem store_oneR (HS : PrR w0 w W L g0 b q) {i : Nat} (hgd : o.guard = none) (hN : o.dst = none) (ho : o.op = .store ty p x) (hz : oneT P ty = true) (hp : a.eval p = .pointer (some ⟨g, off, none⟩)) (hx : a.eval x = v) (hi : L[i]? = some (g, cs)) (he : lay cs off #[v] = cs')
    (hf : off < cs.size) (h1 : v.oneCell' = true) (hv : v.cells = #[v]) (h : ∀ W', PrR w0 w W' (L.set i (g, cs')) g0 b q → wpList P ops Q rest a W') : wpList P ops Q (o :: rest) a W := by
  subst he
  refine ev_store hgd hN ?_ (h _ (HS.set hi _))
  unfold execOp
  simp [ho, hp, hx, Instr.storeAt, Instr.sureAddr, run_store_seg (v := v) (off := off) (seg := #[v]) (HS.at_ hi) (isOne_of hz).2 (by simp; omega) (by simpa using h1) hv]
theorem alloc_newR (HS : PrR w0 w W L g0 b q) (hgd : o.guard = none) (ho : o.op = .alloc ty) (hz : zeroOf P ty = some cs) (h : ∀ g W', PrR w0 w W' ((g, cs) :: L) g0 b q → wpList P ops Q rest (a.put o.dst (.pointer (some ⟨g, 0, none⟩))) W') : wpList P ops Q (o :: rest) a W := by
  refine ev_value hgd ?_ (h _ _ (HS.alloc cs ty))
  unfold zeroOf at hz
  cases hi : P.info? ty with
  | none => rw [hi] at hz; cases hz
  | some ii =>
    rw [hi] at hz
    cases hzz : ii.zero with
    | none => simp [hzz] at hz
    | some z =>
      simp [hzz] at hz
      subst hz
      unfold execOp
      simp [ho, Instr.alloc, zeroValue, typeInfo, hi, hzz, newVar, newRow, newObj]
      rfl
theorem box_newR (HS : PrR w0 w W L g0 b q) (hgd : o.guard = none) (ho : o.op = .box ty x) (hx : a.eval x = .agg cs) (h : ∀ g W', PrR w0 w W' ((g, cs) :: L) g0 b q → wpList P ops Q rest (a.put o.dst (.pointer (some ⟨g, 0, none⟩))) W') : wpList P ops Q (o :: rest) a W := by
  refine ev_value hgd ?_ (h _ _ (HS.alloc cs ty))
  unfold execOp
  simp [ho, hx, Instr.box, Value.cells, newVar, newRow, newObj]
  rfl
theorem box_oneR (HS : PrR w0 w W L g0 b q) (hgd : o.guard = none) (ho : o.op = .box ty x) (hx : a.eval x = v) (hv : v.cells = #[v]) (h : ∀ g W', PrR w0 w W' ((g, #[v]) :: L) g0 b q → wpList P ops Q rest (a.put o.dst (.pointer (some ⟨g, 0, none⟩))) W') : wpList P ops Q (o :: rest) a W := by
  refine ev_value hgd ?_ (h _ _ (HS.alloc #[v] ty))
  unfold execOp
  simp [ho, hx, Instr.box, hv, newVar, newRow, newObj]
  rfl
theorem region_tailR {id : Nat} {l : List Oper} (HS : PrR w0 w W L g0 b q) (n : Nat) (hm : P.follows .mixedOrders = true) (hB : Region.lexTailB .any l.toArray n = true)
    (h : ∀ W', PrR w0 w W' L g0 b q → Below W.heap.size W W' → wpStill P l.toArray W' (fun a' => wpList P l.toArray Q (l.drop n) a' W') (l.take n) a) : (Code.region id l.toArray true).wp P Q a W :=
  wp_region_still_tail n hm hB (h W.drew HS.drew (Below.refl _ _).drew)
theorem region_litR {id : Nat} {l : List Oper} (HS : PrR w0 w W L g0 b q) (hm : P.follows .mixedOrders = true) (hB : Region.lexB .any l.toArray = true)
    (h : ∀ W', PrR w0 w W' L g0 b q → Below W.heap.size W W' → wpStill P l.toArray W' (fun a' => Q .normal a' W') l a) : (Code.region id l.toArray true).wp P Q a W :=
  wp_region_still_lit hm hB (h W.drew HS.drew (Below.refl _ _).drew)

theorem wanted_ofR (hgd : o.guard = none) : Region.wanted o (yielded ops a.tmps) = true := by simp [Region.wanted, hgd]
/-- A call of which the contract tells all, in its own words. -/
theorem call_anyR {f : FuncId} {ars : Array Operand} {ts : Array TypeId} {fn : Func} {args : Array Value} {R : Value → World → Prop} (hgd : o.guard = none) (ho : o.op = .call { callee := .value (.func f), args := ars, argTypes := ts })
    (hf : P.funcs[f]? = some fn) (hname : (fn.name == "runtime.NumGoroutine") = false) (hb : fn.body.isSome = true) (hargs : ars.map a.eval = args)
    (hc : Calls P f args W fun e w' => ∃ v, e = .returned v ∧ R v w')
    (h : ∀ v W', R v W' → wpList P ops Q rest (a.put o.dst v) W') : wpList P ops Q (o :: rest) a W := by
  refine PrintLast.goesL_ (N := o.dst) rfl hgd hf hname hb args ho hargs (hc.mono ?_)
  rintro e W' ⟨v, rfl, hr⟩
  exact ⟨v, rfl, h v W' hr⟩
end
end Go.Proofs.YtidficffkghlkaaDoor.MW
