/- Walks over the ladders' memory: what the functions of this seat answer. -/
import Derived.Test.YtaegonmpjgdmgaaDoorProg
import Derived.Test.YtaegonmpjgdmgaaDoorMW
import Derived.WalkKit
import Derived.Deep.LoopGhost
import Derived.Deep.DeepCutAuto
import Derived.BigFrame
import Derived.Deep.QuietTactic
import Derived.BigQuiet
import Derived.Test.YtaegonmpjgdmgaaDoorMC
import Derived.Test.YtaegonmpjgdmgaaDoorRE
import Derived.Test.YtaegonmpjgdmgaaDoorOE
namespace Go.Proofs.YtaegonmpjgdmgaaDoor.K
open Go Go.RowKit Go.Proofs.YtaegonmpjgdmgaaDoorW Go.Proofs.YtaegonmpjgdmgaaDoorW.PrintWords Go.Proofs.YtaegonmpjgdmgaaDoor.MW
set_option linter.unusedVariables false
set_option linter.unusedSimpArgs false
set_option maxRecDepth 100000
theorem ag52 : aggSize Tryd.prog 52 = some 2 := by kernel_rfl
theorem fo52_0 : fieldOff Tryd.prog 52 0 = some 0 := by kernel_rfl
open BActT
theorem c_arg2 (op : Int) (v : Value) (l : List Dev) (i : Nat) (ii : Int) (hii : ii = i) (d : Dev) (hd : l.getD i (0, 0, 0) = d) {w W : World} {L : List (Nat × Array Value)} (ha : ArgsAt w v l) (HS : Priv w W L) : Calls Tryd.prog 28 #[.agg #[.int .i64 op, v], .int .i64 ii] W (Ret W (· = .agg #[.int .i64 d.1, .int .i64 d.2.1, .int .i64 d.2.2])) := by
 subst hd
 exact c_arg op v l i ii hii W (ha.below HS.below)

theorem c_MemBitE (m : Mm) (wf : m.wf) (k n p : Int) (b : Bool) (hb : membit m k (place k n).toNat = b) (w : World) (ht : Tab w) : Calls Tryd.prog 29 #[.agg (mc m), .agg #[.int .i64 k, .int .i64 n, .int .i64 p]] w (Ret w (· = .bool b)) := by
 subst hb
 exact c_MemBit m wf k n p w ht
theorem c_wasE (m : Mm) (wf : m.wf) (k n p : Int) (b : Bool) (hb : (decide (k = 5) && membit m k (place k n).toNat) = b) (w : World) (ht : Tab w) : Calls Tryd.prog 30 #[.agg (mc m), .agg #[.int .i64 k, .int .i64 n, .int .i64 p]] w (Ret w (· = .bool b)) := by
 subst hb
 exact c_was m wf k n p w ht

section
variable {P : Program} {ops : Array Oper} {o : Oper} {a : Act} {Q : Exit → Act → World → Prop} {K : Act → World → Prop} {w W : World} {L : List (Nat × Array Value)}
theorem step_callx {f : FuncId} {ars : Array Operand} {ts : Array TypeId} {fn : Func} {args : Array Value} {N : Option Tmp} {R : Value → Prop} (hw : Region.wanted o (yielded ops a.tmps) = true) (HS : Priv w W L) (hN : o.dst = N) (ho : o.op = .call { callee := .value (.func f), args := ars, argTypes := ts })
  (hf : P.funcs[f]? = some fn) (hname : (fn.name == "runtime.NumGoroutine") = false) (hb : fn.body.isSome = true) (hargs : ars.map a.eval = args) (hc : Calls P f args W (Ret W R))
  (h : ∀ v W', R v → Priv w W' L → K (a.put N v) W') : if Region.wanted o (yielded ops a.tmps) = true then Oper.wp P o a W K Q else K (a.put N undef) W := by
 refine PrintLast.goes_ hf hname hb args hw hN ho hargs (hc.mono ?_)
 rintro e W' ⟨v0, rfl, hr, hb⟩
 exact ⟨_, rfl, h _ W' hr (HS.call hb)⟩
end
theorem one_store {P : Program} {md : Region.Mode} {ops : Array Oper} {Q : Exit → Act → World → Prop} {S : World → Prop} {ds : List Nat} {i : Nat} {oi : Oper} {fuel : Nat} {l : Array Bool} {a : Act} {w0 w : World} {L : List (Nat × Array Value)} {k g off n : Nat} {cs cs' seg : Array Value} {ty : TypeId} {p x : Operand} (l' : Array Bool) (hi : ops[i]? = some oi) (hN : oi.dst = none) (hc : PrintLast.readyB md ops l l' i = true) (hd : i ∉ ds) (hw : Region.wanted oi (yielded ops a.tmps) = true) (HS : Priv w0 w L) (ho : oi.op = .store ty p x) (hz : aggSize P ty = some n)
  (hp : a.eval p = .pointer (some ⟨g, off, none⟩)) (hx : a.eval x = .agg seg) (hL : L[k]? = some (g, cs)) (he : lay cs off seg = cs') (hn : seg.size = n) (hf : off + seg.size ≤ cs.size) (h1 : ∀ u ∈ seg, u.oneCell' = true) (hS : ∀ W', Priv w0 W' (L.set k (g, cs')) → S W') (h : ∀ W', Priv w0 W' (L.set k (g, cs')) → S W' → PrintLast.wpAnyLast P md ops Q S ds fuel l' a W') : PrintLast.wpAnyLast P md ops Q S ds (fuel + 1) l a w :=
 PrintLast.one_ l' hi hN hc hd (fun K hK => step_store_seg hw HS hN ho hz hp hx hL he hn hf h1 (fun W' HP => hK.out _ _ (hS W' HP) (h W' HP)))
theorem Priv.rm3 {w W : World} {x y z : Nat × Array Value} {L : List (Nat × Array Value)} (H : Priv w W (x :: y :: z :: L)) : Priv w W (x :: y :: L) :=
 H.sub (fun u hu => by simp only [List.mem_cons] at hu ⊢; rcases hu with h | h | h <;> simp [h]) (by
  have h := H.nd
  simp only [List.map_cons, List.nodup_cons, List.mem_cons, not_or] at h ⊢
  exact ⟨⟨h.1.1, h.1.2.2⟩, ⟨h.2.1.2, h.2.2.2⟩⟩)
def bitOf (m : Mm) (d : Dev) : Bool := membit m d.1 (place d.1 d.2.1).toNat
def wasOf (m : Mm) (d : Dev) : Bool := decide (d.1 = 5) && membit m d.1 (place d.1 d.2.1).toNat
def isReal (d : Dev) : Bool := decide (d.1 = 10 ∨ d.1 = 12 ∨ d.1 = 13)
/-- The memory behind a contact asked. -/
def tm (m : Mm) (op : Int) (d0 d1 : Dev) : Mm := if op = 3 ∨ op = 4 then keepb m d1.1 d1.2.1 (bitOf m d0) else m
/-- What a contact says. -/
def Tb (m : Mm) (op : Int) (d0 d1 : Dev) (b : Bool) : Prop :=
 if op = 1 then b = bitOf m d0 else if op = 2 then b = !bitOf m d0 else if op = 3 then b = (bitOf m d0 && !wasOf m d1) else if op = 4 then b = (wasOf m d1 && !bitOf m d0)
 else if 5 ≤ op ∧ op ≤ 10 then (if isReal d0 = true then ∃ x y, Rl m d0.1 d0.2.1 d0.2.2 x ∧ Rl m d1.1 d1.2.1 d1.2.2 y ∧ b = cmpF (op - 4) x y else b = cmp (op - 4) (memwhole m d0.1 d0.2.1) (memwhole m d1.1 d1.2.1)) else b = false
theorem Tb.same {m : Mm} {op : Int} {d0 d1 : Dev} {b b' : Bool} (h : Tb m op d0 d1 b) (h2 : Tb m op d0 d1 b') : b = b' := by
 unfold Tb at h h2
 by_cases c1 : op = 1
 ·rw [if_pos c1] at h h2; exact h.trans h2.symm
 rw [if_neg c1] at h h2
 by_cases c2 : op = 2
 ·rw [if_pos c2] at h h2; exact h.trans h2.symm
 rw [if_neg c2] at h h2
 by_cases c3 : op = 3
 ·rw [if_pos c3] at h h2; exact h.trans h2.symm
 rw [if_neg c3] at h h2
 by_cases c4 : op = 4
 ·rw [if_pos c4] at h h2; exact h.trans h2.symm
 rw [if_neg c4] at h h2
 by_cases c5 : 5 ≤ op ∧ op ≤ 10
 ·rw [if_pos c5] at h h2
  by_cases c6 : isReal d0 = true
  ·rw [if_pos c6] at h h2
   obtain ⟨x, y, hx, hy, rfl⟩ := h
   obtain ⟨x', y', hx', hy', rfl⟩ := h2
   exact cmpF_same _ (hx.same hx') (hy.same hy')
  ·rw [if_neg c6] at h h2; exact h.trans h2.symm
 ·rw [if_neg c5] at h h2; exact h.trans h2.symm
theorem c_WholeE (m : Mm) (wf : m.wf) (d : Dev) (r : Int) (hr : memwhole m d.1 d.2.1 = r) (w : World) (ht : Tab w) : Calls Tryd.prog 36 #[.agg (mc m), .agg #[.int .i64 d.1, .int .i64 d.2.1, .int .i64 d.2.2]] w (Ret w (· = .int .i16 r)) := by
 subst hr
 exact c_MemWhole m wf _ _ _ w ht
theorem c_iWholeCmp (o a b : Int) (r : Bool) (hr : cmp o a b = r) (w : World) : Calls Tryd.prog 35 #[.int .i64 o, .int .i16 a, .int .i16 b] w (Ret w (· = .bool r)) := by
 subst hr
 refine Ret.of_eq ((F.impl_WholeCmp.calls o a b _ w (impl_cmp o a b)).mono ?_)
 rintro e w' ⟨he, m, rfl⟩
 exact ⟨he, pw_below_drewN (Below.refl _ _) m⟩

set_option maxHeartbeats 4000000 in
set_option maxRecDepth 100000 in
theorem c_ActTest (m : Mm) (wf : m.wf) (v : Value) (l : List Dev) (d0 d1 : Dev) (hd0 : l.getD 0 (0, 0, 0) = d0) (hd1 : l.getD 1 (0, 0, 0) = d1) (op : Int) (w : World) (ha : ArgsAt w v l) (ht : TB.Tab w) : Calls Tryd.prog 9 #[.agg (mc m), .agg #[.int .i64 op, v]] w (Ret w (fun r => ∃ b, r = .tuple #[.agg (mc (tm m op d0 d1)), .bool b] ∧ Tb m op d0 d1 b)) := by
 have HS := Aside0.mk (Priv.nil w)
 have HT := Aside0.mk ht
 have HTT := Aside0.mk (tab_of ht)
 have HA := Aside0.mk ha
 clear ht ha
 go_enter Tryd.func9, Tryd.ntmps9
 go_wp2_with ((first | ((with_reducible refine gate_dst (N := 2) rfl ?_); (with_reducible refine box_new HS.out rfl rfl (by first | exact eval_tmp rfl | exact eval_const) ?_); intro g2 W2_ HP; clear HS; have HS := Aside0.mk HP; clear HP) | ((with_reducible refine gate_dst (N := 3) rfl ?_); (with_reducible refine box_new HS.out rfl rfl (by first | exact eval_tmp rfl | exact eval_const) ?_); intro g3 W3_ HP; clear HS; have HS := Aside0.mk HP; clear HP) | ((with_reducible refine gate_dst (N := 4) rfl ?_); (with_reducible refine alloc_new HS.out rfl rfl ze46 ?_); intro g4 W4_ HP; clear HS; have HS := Aside0.mk HP; clear HP)); (try simp only [Act.put, List.setIfInBounds_toArray, List.set_cons_zero, List.set_cons_succ]))
 refine start_R (LS := _) (n := 8) #[false, false, false, false, false, false, false, false] HS.out (by kernel_rfl) rfl rfl (fun W_ HSS => HSS.one at1) ?_
 intro W_ HP hHeld; clear HS; have HS := Aside0.mk HP; clear HP
 refine PrintLast.take_ (i := 0) (oi := { dst := some 13, op := Go.Op.load 52 (Go.Operand.tmp 3), type := 52, pos := "l6_act.go:51", after := #[], guard := none }) (N := some 13) (v := ?_) (a' := ?_) #[true, false, false, false, false, false, false, false] rfl rfl (by kernel_rfl) (fun _ _ _ h => h) (Or.inl ⟨by rfl, ?_⟩) hHeld ?_ ?_
 rotate_left
 ·intro w' hS
  refine Eq.trans (run_load_seg hS rfl rfl ag52 rfl (by first | exact at0 | exact at1 | exact at2 | exact at3 | exact at4 | exact at5 | exact at6) (by with_reducible first | exact get_T _ | exact get_C _ | exact get_D _ | exact get_R _ | exact el_T _ _ (by omega) | exact el_C _ _ (by omega) | exact tc_el _ _ (by omega) | exact cc_el _ _ (by omega) | exact whole _) (by with_reducible first | exact mc_size _ | exact tc_size _ | exact cc_size _ | exact dc_size _ | exact rc_size _ | exact sz1 | exact sz2 | exact sz3 | exact sz4)) ?_
  with_reducible rfl
 rotate_left
 ·simp only [PrintLast.putAll, Act.put, List.setIfInBounds_toArray, List.set_cons_zero, List.set_cons_succ, Nat.zero_add, Nat.add_zero, Nat.mul_one, Int.toNat_natCast]
  rfl
 refine PrintLast.take_ (i := 2) (oi := { dst := some 15, op := Go.Op.load 52 (Go.Operand.tmp 3), type := 52, pos := "l6_act.go:51", after := #[], guard := none }) (N := some 15) (v := ?_) (a' := ?_) #[true, false, true, false, false, false, false, false] rfl rfl (by kernel_rfl) (fun _ _ _ h => h) (Or.inl ⟨by rfl, ?_⟩) hHeld ?_ ?_
 rotate_left
 ·intro w' hS
  refine Eq.trans (run_load_seg hS rfl rfl ag52 rfl (by first | exact at0 | exact at1 | exact at2 | exact at3 | exact at4 | exact at5 | exact at6) (by with_reducible first | exact get_T _ | exact get_C _ | exact get_D _ | exact get_R _ | exact el_T _ _ (by omega) | exact el_C _ _ (by omega) | exact tc_el _ _ (by omega) | exact cc_el _ _ (by omega) | exact whole _) (by with_reducible first | exact mc_size _ | exact tc_size _ | exact cc_size _ | exact dc_size _ | exact rc_size _ | exact sz1 | exact sz2 | exact sz3 | exact sz4)) ?_
  with_reducible rfl
 rotate_left
 ·simp only [PrintLast.putAll, Act.put, List.setIfInBounds_toArray, List.set_cons_zero, List.set_cons_succ, Nat.zero_add, Nat.add_zero, Nat.mul_one, Int.toNat_natCast]
  rfl
 clear hHeld
 refine PrintLast.join_ (σ := Nat × Nat) 2 #[true, true, true, true, true, true, false, false] (fun s => [(14, .agg #[.int .i64 d0.1, .int .i64 d0.2.1, .int .i64 d0.2.2]), (16, .agg #[.int .i64 d1.1, .int .i64 d1.2.1, .int .i64 d1.2.2]), (6, .pointer (some ⟨s.1, 0, none⟩)), (7, .pointer (some ⟨s.2, 0, none⟩))]) (fun s w' => Priv w w' ((s.2, #[.int .i64 0, .int .i64 0, .int .i64 0]) :: (s.1, #[.int .i64 0, .int .i64 0, .int .i64 0]) :: [(g4, mc zm), (g3, #[.int .i64 op, v]), (g2, mc m)])) ?_ ?_
 rotate_left
 ·intro H211
  refine PrintLast.join_ (σ := Nat × Nat) 3 #[true, true, true, true, true, false, false, false] (fun s => [(14, .agg #[.int .i64 d0.1, .int .i64 d0.2.1, .int .i64 d0.2.2]), (16, .agg #[.int .i64 d1.1, .int .i64 d1.2.1, .int .i64 d1.2.2]), (6, .pointer (some ⟨s.1, 0, none⟩))]) (fun s w' => Priv w w' ((s.1, #[.int .i64 0, .int .i64 0, .int .i64 0]) :: [(g4, mc zm), (g3, #[.int .i64 op, v]), (g2, mc m)])) ?_ ?_
  ·intro s w' HF
   refine PrintLast.norm_ (a' := ?_) ?_ ?_
   rotate_left
   ·simp only [PrintLast.putAll, Act.put, List.setIfInBounds_toArray, List.set_cons_zero, List.set_cons_succ, Nat.zero_add, Nat.add_zero, Nat.mul_one, Int.toNat_natCast]
    rfl
   refine PrintLast.one_ (i := 5) (oi := { dst := some 7, op := Go.Op.alloc 61, type := 0, pos := "l6_act.go:51", after := #[], guard := none }) (N := some 7) #[true, true, true, true, true, true, false, false] rfl rfl (by kernel_rfl) (by decide) (fun K hK => ?_)
   ·refine step_alloc (wanted_of rfl) HF rfl rfl ze61 ?_
    intro g_ W_ HP
    refine hK.out _ _ (HP.drop1.drop1.one at1) (fun _ => ?_)
    refine PrintLast.norm_ ?_ (H211 (s.1, g_) _ HP)
    simp only [PrintLast.putAll, Act.put, List.setIfInBounds_toArray, List.set_cons_zero, List.set_cons_succ, Nat.zero_add, Nat.add_zero, Nat.mul_one, Int.toNat_natCast]
  intro H210
  refine PrintLast.join_ (σ := Nat × Nat) 3 #[true, true, true, true, false, true, false, false] (fun s => [(14, .agg #[.int .i64 d0.1, .int .i64 d0.2.1, .int .i64 d0.2.2]), (16, .agg #[.int .i64 d1.1, .int .i64 d1.2.1, .int .i64 d1.2.2]), (7, .pointer (some ⟨s.2, 0, none⟩))]) (fun s w' => Priv w w' ((s.2, #[.int .i64 0, .int .i64 0, .int .i64 0]) :: [(g4, mc zm), (g3, #[.int .i64 op, v]), (g2, mc m)])) ?_ ?_
  ·intro s w' HF
   refine PrintLast.norm_ (a' := ?_) ?_ ?_
   rotate_left
   ·simp only [PrintLast.putAll, Act.put, List.setIfInBounds_toArray, List.set_cons_zero, List.set_cons_succ, Nat.zero_add, Nat.add_zero, Nat.mul_one, Int.toNat_natCast]
    rfl
   refine PrintLast.one_ (i := 4) (oi := { dst := some 6, op := Go.Op.alloc 61, type := 0, pos := "l6_act.go:51", after := #[], guard := none }) (N := some 6) #[true, true, true, true, true, true, false, false] rfl rfl (by kernel_rfl) (by decide) (fun K hK => ?_)
   ·refine step_alloc (wanted_of rfl) HF rfl rfl ze61 ?_
    intro g_ W_ HP
    refine hK.out _ _ (HP.swap.drop1.drop1.one at1) (fun _ => ?_)
    refine PrintLast.norm_ ?_ (H211 (g_, s.2) _ HP.swap)
    simp only [PrintLast.putAll, Act.put, List.setIfInBounds_toArray, List.set_cons_zero, List.set_cons_succ, Nat.zero_add, Nat.add_zero, Nat.mul_one, Int.toNat_natCast]
  intro H201
  refine PrintLast.join_ (σ := Nat × Nat) 3 #[true, true, true, false, true, true, false, false] (fun s => [(14, .agg #[.int .i64 d0.1, .int .i64 d0.2.1, .int .i64 d0.2.2]), (6, .pointer (some ⟨s.1, 0, none⟩)), (7, .pointer (some ⟨s.2, 0, none⟩))]) (fun s w' => Priv w w' ((s.2, #[.int .i64 0, .int .i64 0, .int .i64 0]) :: (s.1, #[.int .i64 0, .int .i64 0, .int .i64 0]) :: [(g4, mc zm), (g3, #[.int .i64 op, v]), (g2, mc m)])) ?_ ?_
  ·intro s w' HF
   refine PrintLast.norm_ (a' := ?_) ?_ ?_
   rotate_left
   ·simp only [PrintLast.putAll, Act.put, List.setIfInBounds_toArray, List.set_cons_zero, List.set_cons_succ, Nat.zero_add, Nat.add_zero, Nat.mul_one, Int.toNat_natCast]
    rfl
   refine PrintLast.one_ (i := 3) (oi := { dst := some 16, op := Go.Op.call { callee := Go.Callee.value (Go.Operand.func 28), args := #[Go.Operand.tmp 15, Go.Operand.const (Go.Value.int Go.IntKind.i64 1)], argTypes := #[52, 3] }, type := 61, pos := "l6_act.go:51", after := #[{ on := 2, ground := Go.Ground.data }, { on := 1, ground := Go.Ground.chain }], guard := none }) (N := some 16) #[true, true, true, true, true, true, false, false] rfl rfl (by kernel_rfl) (by decide) (fun K hK => ?_)
   ·refine step_callr (wanted_of rfl) HF rfl rfl Tryd.func28 (by kernel_rfl) rfl (by (try simp only [List.map_toArray, List.map_cons, List.map_nil]); first | done | rfl) (c_arg2 op v l 1 _ (by rfl) d1 hd1 HA.out HF) ?_
    intro W_ HP
    refine hK.out _ _ (HP.drop1.drop1.one at1) (fun _ => ?_)
    refine PrintLast.norm_ ?_ (H211 s _ HP)
    simp only [PrintLast.putAll, Act.put, List.setIfInBounds_toArray, List.set_cons_zero, List.set_cons_succ, Nat.zero_add, Nat.add_zero, Nat.mul_one, Int.toNat_natCast]
  intro H111
  refine PrintLast.join_ (σ := Nat × Nat) 4 #[true, true, true, true, false, false, false, false] (fun s => [(14, .agg #[.int .i64 d0.1, .int .i64 d0.2.1, .int .i64 d0.2.2]), (16, .agg #[.int .i64 d1.1, .int .i64 d1.2.1, .int .i64 d1.2.2])]) (fun s w' => Priv w w' ([(g4, mc zm), (g3, #[.int .i64 op, v]), (g2, mc m)])) ?_ ?_
  ·intro s w' HF
   refine PrintLast.norm_ (a' := ?_) ?_ ?_
   rotate_left
   ·simp only [PrintLast.putAll, Act.put, List.setIfInBounds_toArray, List.set_cons_zero, List.set_cons_succ, Nat.zero_add, Nat.add_zero, Nat.mul_one, Int.toNat_natCast]
    rfl
   refine PrintLast.two_ (i := 4) (j := 5) (oi := { dst := some 6, op := Go.Op.alloc 61, type := 0, pos := "l6_act.go:51", after := #[], guard := none }) (oj := { dst := some 7, op := Go.Op.alloc 61, type := 0, pos := "l6_act.go:51", after := #[], guard := none }) (Ni := some 6) (Nj := some 7) #[true, true, true, true, true, false, false, false] #[true, true, true, true, false, true, false, false] rfl rfl rfl rfl (by kernel_rfl) (by decide) (by decide) (fun K hK => ?_) (fun K hK => ?_)
   ·refine step_alloc (wanted_of rfl) HF rfl rfl ze61 ?_
    intro g_ W_ HP
    refine hK.out _ _ (HP.drop1.one at1) (fun _ => ?_)
    refine PrintLast.norm_ ?_ (H210 (g_, s.2) _ HP)
    simp only [PrintLast.putAll, Act.put, List.setIfInBounds_toArray, List.set_cons_zero, List.set_cons_succ, Nat.zero_add, Nat.add_zero, Nat.mul_one, Int.toNat_natCast]
   ·refine step_alloc (wanted_of rfl) HF rfl rfl ze61 ?_
    intro g_ W_ HP
    refine hK.out _ _ (HP.drop1.one at1) (fun _ => ?_)
    refine PrintLast.norm_ ?_ (H201 (s.1, g_) _ HP)
    simp only [PrintLast.putAll, Act.put, List.setIfInBounds_toArray, List.set_cons_zero, List.set_cons_succ, Nat.zero_add, Nat.add_zero, Nat.mul_one, Int.toNat_natCast]
  intro H200
  refine PrintLast.join_ (σ := Nat × Nat) 4 #[true, true, true, false, true, false, false, false] (fun s => [(14, .agg #[.int .i64 d0.1, .int .i64 d0.2.1, .int .i64 d0.2.2]), (6, .pointer (some ⟨s.1, 0, none⟩))]) (fun s w' => Priv w w' ((s.1, #[.int .i64 0, .int .i64 0, .int .i64 0]) :: [(g4, mc zm), (g3, #[.int .i64 op, v]), (g2, mc m)])) ?_ ?_
  ·intro s w' HF
   refine PrintLast.norm_ (a' := ?_) ?_ ?_
   rotate_left
   ·simp only [PrintLast.putAll, Act.put, List.setIfInBounds_toArray, List.set_cons_zero, List.set_cons_succ, Nat.zero_add, Nat.add_zero, Nat.mul_one, Int.toNat_natCast]
    rfl
   refine PrintLast.two_ (i := 3) (j := 5) (oi := { dst := some 16, op := Go.Op.call { callee := Go.Callee.value (Go.Operand.func 28), args := #[Go.Operand.tmp 15, Go.Operand.const (Go.Value.int Go.IntKind.i64 1)], argTypes := #[52, 3] }, type := 61, pos := "l6_act.go:51", after := #[{ on := 2, ground := Go.Ground.data }, { on := 1, ground := Go.Ground.chain }], guard := none }) (oj := { dst := some 7, op := Go.Op.alloc 61, type := 0, pos := "l6_act.go:51", after := #[], guard := none }) (Ni := some 16) (Nj := some 7) #[true, true, true, true, true, false, false, false] #[true, true, true, false, true, true, false, false] rfl rfl rfl rfl (by kernel_rfl) (by decide) (by decide) (fun K hK => ?_) (fun K hK => ?_)
   ·refine step_callr (wanted_of rfl) HF rfl rfl Tryd.func28 (by kernel_rfl) rfl (by (try simp only [List.map_toArray, List.map_cons, List.map_nil]); first | done | rfl) (c_arg2 op v l 1 _ (by rfl) d1 hd1 HA.out HF) ?_
    intro W_ HP
    refine hK.out _ _ (HP.drop1.one at1) (fun _ => ?_)
    refine PrintLast.norm_ ?_ (H210 s _ HP)
    simp only [PrintLast.putAll, Act.put, List.setIfInBounds_toArray, List.set_cons_zero, List.set_cons_succ, Nat.zero_add, Nat.add_zero, Nat.mul_one, Int.toNat_natCast]
   ·refine step_alloc (wanted_of rfl) HF rfl rfl ze61 ?_
    intro g_ W_ HP
    refine hK.out _ _ (HP.drop1.drop1.one at1) (fun _ => ?_)
    refine PrintLast.norm_ ?_ (H111 (s.1, g_) _ HP)
    simp only [PrintLast.putAll, Act.put, List.setIfInBounds_toArray, List.set_cons_zero, List.set_cons_succ, Nat.zero_add, Nat.add_zero, Nat.mul_one, Int.toNat_natCast]
  intro H110
  refine PrintLast.join_ (σ := Nat × Nat) 4 #[true, true, true, false, false, true, false, false] (fun s => [(14, .agg #[.int .i64 d0.1, .int .i64 d0.2.1, .int .i64 d0.2.2]), (7, .pointer (some ⟨s.2, 0, none⟩))]) (fun s w' => Priv w w' ((s.2, #[.int .i64 0, .int .i64 0, .int .i64 0]) :: [(g4, mc zm), (g3, #[.int .i64 op, v]), (g2, mc m)])) ?_ ?_
  ·intro s w' HF
   refine PrintLast.norm_ (a' := ?_) ?_ ?_
   rotate_left
   ·simp only [PrintLast.putAll, Act.put, List.setIfInBounds_toArray, List.set_cons_zero, List.set_cons_succ, Nat.zero_add, Nat.add_zero, Nat.mul_one, Int.toNat_natCast]
    rfl
   refine PrintLast.two_ (i := 3) (j := 4) (oi := { dst := some 16, op := Go.Op.call { callee := Go.Callee.value (Go.Operand.func 28), args := #[Go.Operand.tmp 15, Go.Operand.const (Go.Value.int Go.IntKind.i64 1)], argTypes := #[52, 3] }, type := 61, pos := "l6_act.go:51", after := #[{ on := 2, ground := Go.Ground.data }, { on := 1, ground := Go.Ground.chain }], guard := none }) (oj := { dst := some 6, op := Go.Op.alloc 61, type := 0, pos := "l6_act.go:51", after := #[], guard := none }) (Ni := some 16) (Nj := some 6) #[true, true, true, true, false, true, false, false] #[true, true, true, false, true, true, false, false] rfl rfl rfl rfl (by kernel_rfl) (by decide) (by decide) (fun K hK => ?_) (fun K hK => ?_)
   ·refine step_callr (wanted_of rfl) HF rfl rfl Tryd.func28 (by kernel_rfl) rfl (by (try simp only [List.map_toArray, List.map_cons, List.map_nil]); first | done | rfl) (c_arg2 op v l 1 _ (by rfl) d1 hd1 HA.out HF) ?_
    intro W_ HP
    refine hK.out _ _ (HP.drop1.one at1) (fun _ => ?_)
    refine PrintLast.norm_ ?_ (H201 s _ HP)
    simp only [PrintLast.putAll, Act.put, List.setIfInBounds_toArray, List.set_cons_zero, List.set_cons_succ, Nat.zero_add, Nat.add_zero, Nat.mul_one, Int.toNat_natCast]
   ·refine step_alloc (wanted_of rfl) HF rfl rfl ze61 ?_
    intro g_ W_ HP
    refine hK.out _ _ (HP.swap.drop1.drop1.one at1) (fun _ => ?_)
    refine PrintLast.norm_ ?_ (H111 (g_, s.2) _ HP.swap)
    simp only [PrintLast.putAll, Act.put, List.setIfInBounds_toArray, List.set_cons_zero, List.set_cons_succ, Nat.zero_add, Nat.add_zero, Nat.mul_one, Int.toNat_natCast]
  intro H101
  refine PrintLast.join_ (σ := Nat × Nat) 4 #[true, false, true, false, true, true, false, false] (fun s => [(6, .pointer (some ⟨s.1, 0, none⟩)), (7, .pointer (some ⟨s.2, 0, none⟩))]) (fun s w' => Priv w w' ((s.2, #[.int .i64 0, .int .i64 0, .int .i64 0]) :: (s.1, #[.int .i64 0, .int .i64 0, .int .i64 0]) :: [(g4, mc zm), (g3, #[.int .i64 op, v]), (g2, mc m)])) ?_ ?_
  ·intro s w' HF
   refine PrintLast.norm_ (a' := ?_) ?_ ?_
   rotate_left
   ·simp only [PrintLast.putAll, Act.put, List.setIfInBounds_toArray, List.set_cons_zero, List.set_cons_succ, Nat.zero_add, Nat.add_zero, Nat.mul_one, Int.toNat_natCast]
    rfl
   refine PrintLast.one_ (i := 1) (oi := { dst := some 14, op := Go.Op.call { callee := Go.Callee.value (Go.Operand.func 28), args := #[Go.Operand.tmp 13, Go.Operand.const (Go.Value.int Go.IntKind.i64 0)], argTypes := #[52, 3] }, type := 61, pos := "l6_act.go:51", after := #[{ on := 0, ground := Go.Ground.data }], guard := none }) (N := some 14) #[true, true, true, false, true, true, false, false] rfl rfl (by kernel_rfl) (by decide) (fun K hK => ?_)
   ·refine step_callr (wanted_of rfl) HF rfl rfl Tryd.func28 (by kernel_rfl) rfl (by (try simp only [List.map_toArray, List.map_cons, List.map_nil]); first | done | rfl) (c_arg2 op v l 0 _ (by rfl) d0 hd0 HA.out HF) ?_
    intro W_ HP
    refine hK.out _ _ (HP.drop1.drop1.one at1) (fun _ => ?_)
    refine PrintLast.norm_ ?_ (H111 s _ HP)
    simp only [PrintLast.putAll, Act.put, List.setIfInBounds_toArray, List.set_cons_zero, List.set_cons_succ, Nat.zero_add, Nat.add_zero, Nat.mul_one, Int.toNat_natCast]
  intro H011
  refine PrintLast.join_ (σ := Nat × Nat) 5 #[true, true, true, false, false, false, false, false] (fun s => [(14, .agg #[.int .i64 d0.1, .int .i64 d0.2.1, .int .i64 d0.2.2])]) (fun s w' => Priv w w' ([(g4, mc zm), (g3, #[.int .i64 op, v]), (g2, mc m)])) ?_ ?_
  ·intro s w' HF
   refine PrintLast.norm_ (a' := ?_) ?_ ?_
   rotate_left
   ·simp only [PrintLast.putAll, Act.put, List.setIfInBounds_toArray, List.set_cons_zero, List.set_cons_succ, Nat.zero_add, Nat.add_zero, Nat.mul_one, Int.toNat_natCast]
    rfl
   refine PrintLast.three_ (i := 3) (j := 4) (k := 5) (oi := { dst := some 16, op := Go.Op.call { callee := Go.Callee.value (Go.Operand.func 28), args := #[Go.Operand.tmp 15, Go.Operand.const (Go.Value.int Go.IntKind.i64 1)], argTypes := #[52, 3] }, type := 61, pos := "l6_act.go:51", after := #[{ on := 2, ground := Go.Ground.data }, { on := 1, ground := Go.Ground.chain }], guard := none }) (oj := { dst := some 6, op := Go.Op.alloc 61, type := 0, pos := "l6_act.go:51", after := #[], guard := none }) (ok := { dst := some 7, op := Go.Op.alloc 61, type := 0, pos := "l6_act.go:51", after := #[], guard := none }) (Ni := some 16) (Nj := some 6) (Nk := some 7) #[true, true, true, true, false, false, false, false] #[true, true, true, false, true, false, false, false] #[true, true, true, false, false, true, false, false] rfl rfl rfl rfl rfl rfl (by kernel_rfl) (by decide) (by decide) (by decide) (fun K hK => ?_) (fun K hK => ?_) (fun K hK => ?_)
   ·refine step_callr (wanted_of rfl) HF rfl rfl Tryd.func28 (by kernel_rfl) rfl (by (try simp only [List.map_toArray, List.map_cons, List.map_nil]); first | done | rfl) (c_arg2 op v l 1 _ (by rfl) d1 hd1 HA.out HF) ?_
    intro W_ HP
    refine hK.out _ _ (HP.one at1) (fun _ => ?_)
    refine PrintLast.norm_ ?_ (H200 s _ HP)
    simp only [PrintLast.putAll, Act.put, List.setIfInBounds_toArray, List.set_cons_zero, List.set_cons_succ, Nat.zero_add, Nat.add_zero, Nat.mul_one, Int.toNat_natCast]
   ·refine step_alloc (wanted_of rfl) HF rfl rfl ze61 ?_
    intro g_ W_ HP
    refine hK.out _ _ (HP.drop1.one at1) (fun _ => ?_)
    refine PrintLast.norm_ ?_ (H110 (g_, s.2) _ HP)
    simp only [PrintLast.putAll, Act.put, List.setIfInBounds_toArray, List.set_cons_zero, List.set_cons_succ, Nat.zero_add, Nat.add_zero, Nat.mul_one, Int.toNat_natCast]
   ·refine step_alloc (wanted_of rfl) HF rfl rfl ze61 ?_
    intro g_ W_ HP
    refine hK.out _ _ (HP.drop1.one at1) (fun _ => ?_)
    refine PrintLast.norm_ ?_ (H101 (s.1, g_) _ HP)
    simp only [PrintLast.putAll, Act.put, List.setIfInBounds_toArray, List.set_cons_zero, List.set_cons_succ, Nat.zero_add, Nat.add_zero, Nat.mul_one, Int.toNat_natCast]
  intro H100
  refine PrintLast.join_ (σ := Nat × Nat) 5 #[true, false, true, false, true, false, false, false] (fun s => [(6, .pointer (some ⟨s.1, 0, none⟩))]) (fun s w' => Priv w w' ((s.1, #[.int .i64 0, .int .i64 0, .int .i64 0]) :: [(g4, mc zm), (g3, #[.int .i64 op, v]), (g2, mc m)])) ?_ ?_
  ·intro s w' HF
   refine PrintLast.norm_ (a' := ?_) ?_ ?_
   rotate_left
   ·simp only [PrintLast.putAll, Act.put, List.setIfInBounds_toArray, List.set_cons_zero, List.set_cons_succ, Nat.zero_add, Nat.add_zero, Nat.mul_one, Int.toNat_natCast]
    rfl
   refine PrintLast.two_ (i := 1) (j := 5) (oi := { dst := some 14, op := Go.Op.call { callee := Go.Callee.value (Go.Operand.func 28), args := #[Go.Operand.tmp 13, Go.Operand.const (Go.Value.int Go.IntKind.i64 0)], argTypes := #[52, 3] }, type := 61, pos := "l6_act.go:51", after := #[{ on := 0, ground := Go.Ground.data }], guard := none }) (oj := { dst := some 7, op := Go.Op.alloc 61, type := 0, pos := "l6_act.go:51", after := #[], guard := none }) (Ni := some 14) (Nj := some 7) #[true, true, true, false, true, false, false, false] #[true, false, true, false, true, true, false, false] rfl rfl rfl rfl (by kernel_rfl) (by decide) (by decide) (fun K hK => ?_) (fun K hK => ?_)
   ·refine step_callr (wanted_of rfl) HF rfl rfl Tryd.func28 (by kernel_rfl) rfl (by (try simp only [List.map_toArray, List.map_cons, List.map_nil]); first | done | rfl) (c_arg2 op v l 0 _ (by rfl) d0 hd0 HA.out HF) ?_
    intro W_ HP
    refine hK.out _ _ (HP.drop1.one at1) (fun _ => ?_)
    refine PrintLast.norm_ ?_ (H110 s _ HP)
    simp only [PrintLast.putAll, Act.put, List.setIfInBounds_toArray, List.set_cons_zero, List.set_cons_succ, Nat.zero_add, Nat.add_zero, Nat.mul_one, Int.toNat_natCast]
   ·refine step_alloc (wanted_of rfl) HF rfl rfl ze61 ?_
    intro g_ W_ HP
    refine hK.out _ _ (HP.drop1.drop1.one at1) (fun _ => ?_)
    refine PrintLast.norm_ ?_ (H011 (s.1, g_) _ HP)
    simp only [PrintLast.putAll, Act.put, List.setIfInBounds_toArray, List.set_cons_zero, List.set_cons_succ, Nat.zero_add, Nat.add_zero, Nat.mul_one, Int.toNat_natCast]
  intro H010
  refine PrintLast.join_ (σ := Nat × Nat) 5 #[true, false, true, false, false, true, false, false] (fun s => [(7, .pointer (some ⟨s.2, 0, none⟩))]) (fun s w' => Priv w w' ((s.2, #[.int .i64 0, .int .i64 0, .int .i64 0]) :: [(g4, mc zm), (g3, #[.int .i64 op, v]), (g2, mc m)])) ?_ ?_
  ·intro s w' HF
   refine PrintLast.norm_ (a' := ?_) ?_ ?_
   rotate_left
   ·simp only [PrintLast.putAll, Act.put, List.setIfInBounds_toArray, List.set_cons_zero, List.set_cons_succ, Nat.zero_add, Nat.add_zero, Nat.mul_one, Int.toNat_natCast]
    rfl
   refine PrintLast.two_ (i := 1) (j := 4) (oi := { dst := some 14, op := Go.Op.call { callee := Go.Callee.value (Go.Operand.func 28), args := #[Go.Operand.tmp 13, Go.Operand.const (Go.Value.int Go.IntKind.i64 0)], argTypes := #[52, 3] }, type := 61, pos := "l6_act.go:51", after := #[{ on := 0, ground := Go.Ground.data }], guard := none }) (oj := { dst := some 6, op := Go.Op.alloc 61, type := 0, pos := "l6_act.go:51", after := #[], guard := none }) (Ni := some 14) (Nj := some 6) #[true, true, true, false, false, true, false, false] #[true, false, true, false, true, true, false, false] rfl rfl rfl rfl (by kernel_rfl) (by decide) (by decide) (fun K hK => ?_) (fun K hK => ?_)
   ·refine step_callr (wanted_of rfl) HF rfl rfl Tryd.func28 (by kernel_rfl) rfl (by (try simp only [List.map_toArray, List.map_cons, List.map_nil]); first | done | rfl) (c_arg2 op v l 0 _ (by rfl) d0 hd0 HA.out HF) ?_
    intro W_ HP
    refine hK.out _ _ (HP.drop1.one at1) (fun _ => ?_)
    refine PrintLast.norm_ ?_ (H101 s _ HP)
    simp only [PrintLast.putAll, Act.put, List.setIfInBounds_toArray, List.set_cons_zero, List.set_cons_succ, Nat.zero_add, Nat.add_zero, Nat.mul_one, Int.toNat_natCast]
   ·refine step_alloc (wanted_of rfl) HF rfl rfl ze61 ?_
    intro g_ W_ HP
    refine hK.out _ _ (HP.swap.drop1.drop1.one at1) (fun _ => ?_)
    refine PrintLast.norm_ ?_ (H011 (g_, s.2) _ HP.swap)
    simp only [PrintLast.putAll, Act.put, List.setIfInBounds_toArray, List.set_cons_zero, List.set_cons_succ, Nat.zero_add, Nat.add_zero, Nat.mul_one, Int.toNat_natCast]
  intro H001
  refine PrintLast.join_ (σ := Nat × Nat) 6 #[true, false, true, false, false, false, false, false] (fun s => []) (fun s w' => Priv w w' ([(g4, mc zm), (g3, #[.int .i64 op, v]), (g2, mc m)])) ?_ ?_
  ·intro s w' HF
   refine PrintLast.norm_ (a' := ?_) ?_ ?_
   rotate_left
   ·simp only [PrintLast.putAll, Act.put, List.setIfInBounds_toArray, List.set_cons_zero, List.set_cons_succ, Nat.zero_add, Nat.add_zero, Nat.mul_one, Int.toNat_natCast]
    rfl
   refine PrintLast.three_ (i := 1) (j := 4) (k := 5) (oi := { dst := some 14, op := Go.Op.call { callee := Go.Callee.value (Go.Operand.func 28), args := #[Go.Operand.tmp 13, Go.Operand.const (Go.Value.int Go.IntKind.i64 0)], argTypes := #[52, 3] }, type := 61, pos := "l6_act.go:51", after := #[{ on := 0, ground := Go.Ground.data }], guard := none }) (oj := { dst := some 6, op := Go.Op.alloc 61, type := 0, pos := "l6_act.go:51", after := #[], guard := none }) (ok := { dst := some 7, op := Go.Op.alloc 61, type := 0, pos := "l6_act.go:51", after := #[], guard := none }) (Ni := some 14) (Nj := some 6) (Nk := some 7) #[true, true, true, false, false, false, false, false] #[true, false, true, false, true, false, false, false] #[true, false, true, false, false, true, false, false] rfl rfl rfl rfl rfl rfl (by kernel_rfl) (by decide) (by decide) (by decide) (fun K hK => ?_) (fun K hK => ?_) (fun K hK => ?_)
   ·refine step_callr (wanted_of rfl) HF rfl rfl Tryd.func28 (by kernel_rfl) rfl (by (try simp only [List.map_toArray, List.map_cons, List.map_nil]); first | done | rfl) (c_arg2 op v l 0 _ (by rfl) d0 hd0 HA.out HF) ?_
    intro W_ HP
    refine hK.out _ _ (HP.one at1) (fun _ => ?_)
    refine PrintLast.norm_ ?_ (H100 s _ HP)
    simp only [PrintLast.putAll, Act.put, List.setIfInBounds_toArray, List.set_cons_zero, List.set_cons_succ, Nat.zero_add, Nat.add_zero, Nat.mul_one, Int.toNat_natCast]
   ·refine step_alloc (wanted_of rfl) HF rfl rfl ze61 ?_
    intro g_ W_ HP
    refine hK.out _ _ (HP.drop1.one at1) (fun _ => ?_)
    refine PrintLast.norm_ ?_ (H010 (g_, s.2) _ HP)
    simp only [PrintLast.putAll, Act.put, List.setIfInBounds_toArray, List.set_cons_zero, List.set_cons_succ, Nat.zero_add, Nat.add_zero, Nat.mul_one, Int.toNat_natCast]
   ·refine step_alloc (wanted_of rfl) HF rfl rfl ze61 ?_
    intro g_ W_ HP
    refine hK.out _ _ (HP.drop1.one at1) (fun _ => ?_)
    refine PrintLast.norm_ ?_ (H001 (s.1, g_) _ HP)
    simp only [PrintLast.putAll, Act.put, List.setIfInBounds_toArray, List.set_cons_zero, List.set_cons_succ, Nat.zero_add, Nat.add_zero, Nat.mul_one, Int.toNat_natCast]
  intro H000
  exact H000 (0, 0) _ HS.out
 intro s w' HP; clear HS; have HS := Aside0.mk HP; clear HP; obtain ⟨ga_, gb_⟩ := s
 refine PrintLast.norm_ (a' := ?_) ?_ ?_
 rotate_left
 ·simp only [PrintLast.putAll, Act.put, List.setIfInBounds_toArray, List.set_cons_zero, List.set_cons_succ, Nat.zero_add, Nat.add_zero, Nat.mul_one, Int.toNat_natCast]
  rfl
 refine PrintLast.one_ (i := 6) (oi := { dst := none, op := Go.Op.store 61 (Go.Operand.tmp 6) (Go.Operand.tmp 14), type := 0, pos := "l6_act.go:51", after := #[{ on := 4, ground := Go.Ground.data }, { on := 1, ground := Go.Ground.data }, { on := 3, ground := Go.Ground.chain }, { on := 0, ground := Go.Ground.phase }, { on := 1, ground := Go.Ground.phase }, { on := 2, ground := Go.Ground.textOnly Go.Departure.lateStores }, { on := 3, ground := Go.Ground.textOnly Go.Departure.lateStoresUnsure }, { on := 4, ground := Go.Ground.phase }, { on := 5, ground := Go.Ground.phase }], guard := none }) (N := none) #[true, true, true, true, true, true, true, false] rfl rfl (by kernel_rfl) (by decide) (fun K hK => ?_)
 refine step_store_seg (wanted_of rfl) HS.out rfl rfl ag61 rfl (by first | exact eval_tmp rfl | exact eval_const) (by first | exact at0 | exact at1 | exact at2 | exact at3 | exact at4 | exact at5 | exact at6) (by with_reducible first | exact set_X _ _ | exact set_Y _ _ | exact set_M _ _ | exact set_S _ _ | exact set_E _ _ | exact set_Time _ _ | exact set_Ran _ _ | exact set_Fault _ _ | exact set_T _ _ | exact set_C _ _ | exact set_D _ _ | exact set_R _ _ | exact put_T _ _ (by omega) _ _ | exact put_C _ _ (by omega) _ _ _ | exact put_D _ _ (by omega) _ | exact put_R _ _ (by omega) _ | exact tc_put _ _ (by omega) _ _ | exact cc_put _ _ (by omega) _ _ _ | exact dc_put _ _ (by omega) _ | exact rc_put _ _ (by omega) _ | exact lay_mc _ _ | exact lay_tc _ _ | exact lay_cc _ _ | exact lay_dc _ _ | exact lay_rc _ _ | exact lay2_0 | exact lay2_1 | exact lay3_0 | exact lay3_1 | exact lay3_2 | exact lay2_w | exact lay3_w) (by with_reducible first | exact mc_size _ | exact tc_size _ | exact cc_size _ | exact dc_size _ | exact rc_size _ | exact sz1 | exact sz2 | exact sz3 | exact sz4) (by simp only [mc_size, tc_size, cc_size, dc_size, rc_size, List.size_toArray, List.length_cons, List.length_nil]; omega) (by first | (with_reducible first | exact mc_one _ | exact tc_one _ | exact cc_one _ | exact dc_one _ | exact rc_one _ | exact t2_one _ _ | exact t3_one _ _ _) | (simp [Value.oneCell']; done)) ?_
 intro W_ HP; clear HS; have HS := Aside0.mk HP; clear HP; (try simp only [List.set_cons_zero, List.set_cons_succ] at HS)
 refine hK.out _ _ (HS.out.drop1.drop1.one at1) (fun _ => ?_)
 clear hK K
 refine PrintLast.one_ (i := 7) (oi := { dst := none, op := Go.Op.store 61 (Go.Operand.tmp 7) (Go.Operand.tmp 16), type := 0, pos := "l6_act.go:51", after := #[{ on := 5, ground := Go.Ground.data }, { on := 3, ground := Go.Ground.data }, { on := 6, ground := Go.Ground.chain }, { on := 0, ground := Go.Ground.phase }, { on := 1, ground := Go.Ground.phase }, { on := 2, ground := Go.Ground.phase }, { on := 3, ground := Go.Ground.phase }, { on := 4, ground := Go.Ground.phase }, { on := 5, ground := Go.Ground.phase }, { on := 6, ground := Go.Ground.phase }], guard := none }) (N := none) #[true, true, true, true, true, true, true, true] rfl rfl (by kernel_rfl) (by decide) (fun K hK => ?_)
 refine step_store_seg (wanted_of rfl) HS.out rfl rfl ag61 rfl (by first | exact eval_tmp rfl | exact eval_const) (by first | exact at0 | exact at1 | exact at2 | exact at3 | exact at4 | exact at5 | exact at6) (by with_reducible first | exact set_X _ _ | exact set_Y _ _ | exact set_M _ _ | exact set_S _ _ | exact set_E _ _ | exact set_Time _ _ | exact set_Ran _ _ | exact set_Fault _ _ | exact set_T _ _ | exact set_C _ _ | exact set_D _ _ | exact set_R _ _ | exact put_T _ _ (by omega) _ _ | exact put_C _ _ (by omega) _ _ _ | exact put_D _ _ (by omega) _ | exact put_R _ _ (by omega) _ | exact tc_put _ _ (by omega) _ _ | exact cc_put _ _ (by omega) _ _ _ | exact dc_put _ _ (by omega) _ | exact rc_put _ _ (by omega) _ | exact lay_mc _ _ | exact lay_tc _ _ | exact lay_cc _ _ | exact lay_dc _ _ | exact lay_rc _ _ | exact lay2_0 | exact lay2_1 | exact lay3_0 | exact lay3_1 | exact lay3_2 | exact lay2_w | exact lay3_w) (by with_reducible first | exact mc_size _ | exact tc_size _ | exact cc_size _ | exact dc_size _ | exact rc_size _ | exact sz1 | exact sz2 | exact sz3 | exact sz4) (by simp only [mc_size, tc_size, cc_size, dc_size, rc_size, List.size_toArray, List.length_cons, List.length_nil]; omega) (by first | (with_reducible first | exact mc_one _ | exact tc_one _ | exact cc_one _ | exact dc_one _ | exact rc_one _ | exact t2_one _ _ | exact t3_one _ _ _) | (simp [Value.oneCell']; done)) ?_
 intro W_ HP; clear HS; have HS := Aside0.mk HP; clear HP; (try simp only [List.set_cons_zero, List.set_cons_succ] at HS)
 refine hK.out _ _ (HS.out.drop1.drop1.one at1) (fun _ => ?_)
 clear hK K
 refine PrintLast.done_ (by kernel_rfl) ?_
 by_cases c1 : op = 1
 ·subst c1
  obtain ⟨b1, hb1⟩ : ∃ b, membit m d0.1 (place d0.1 d0.2.1).toNat = b := ⟨_, rfl⟩
  have hT : Tb m 1 d0 d1 b1 := by unfold Tb bitOf; rw [if_pos rfl, hb1]
  have ht : tm m 1 d0 d1 = m := by unfold tm; rw [if_neg (by decide)]
  go_wp2_with ((first | ((with_reducible refine gate_dst (N := 18) rfl ?_); (with_reducible refine field_at rfl rfl rfl fo52_0 ?_); (try simp only [toNat_16, toNat_12, Int.toNat_natCast, Nat.zero_add, Nat.add_zero, Nat.mul_one])) | ((with_reducible refine gate_dst (N := 19) rfl ?_); (with_reducible refine load_one HS.out rfl rfl on3 rfl (by first | exact at0 | exact at1 | exact at2 | exact at3 | exact at4 | exact at5 | exact at6) (by with_reducible first | exact dc_get _ _ (by omega) | exact rc_get _ _ (by omega) | exact at0a | exact at1a | exact at2a | exact at3a) ?_))); (try simp only [Act.put, List.setIfInBounds_toArray, List.set_cons_zero, List.set_cons_succ]))
  refine start_R (LS := _) (n := 6) #[false, false, false, false, false, false] HS.out (by kernel_rfl) rfl rfl (fun W_ HSS => (Priv.rm3 HSS)) ?_
  intro W_ HP hHeld; clear HS; have HS := Aside0.mk HP; clear HP
  refine PrintLast.take_ (i := 0) (oi := { dst := some 21, op := Go.Op.load 46 (Go.Operand.tmp 2), type := 46, pos := "l6_act.go:54", after := #[], guard := none }) (N := some 21) (v := ?_) (a' := ?_) #[true, false, false, false, false, false] rfl rfl (by kernel_rfl) (fun _ _ _ h => h) (Or.inl ⟨by rfl, ?_⟩) hHeld ?_ ?_
  rotate_left
  ·intro w' hS
   refine Eq.trans (run_load_seg hS rfl rfl ag46 rfl (by first | exact at0 | exact at1 | exact at2 | exact at3 | exact at4 | exact at5 | exact at6) (by with_reducible first | exact get_T _ | exact get_C _ | exact get_D _ | exact get_R _ | exact el_T _ _ (by omega) | exact el_C _ _ (by omega) | exact tc_el _ _ (by omega) | exact cc_el _ _ (by omega) | exact whole _) (by with_reducible first | exact mc_size _ | exact tc_size _ | exact cc_size _ | exact dc_size _ | exact rc_size _ | exact sz1 | exact sz2 | exact sz3 | exact sz4)) ?_
   with_reducible rfl
  rotate_left
  ·simp only [PrintLast.putAll, Act.put, List.setIfInBounds_toArray, List.set_cons_zero, List.set_cons_succ, Nat.zero_add, Nat.add_zero, Nat.mul_one, Int.toNat_natCast]
   rfl
  refine PrintLast.take_ (i := 1) (oi := { dst := some 22, op := Go.Op.load 46 (Go.Operand.tmp 2), type := 46, pos := "l6_act.go:54", after := #[], guard := none }) (N := some 22) (v := ?_) (a' := ?_) #[true, true, false, false, false, false] rfl rfl (by kernel_rfl) (fun _ _ _ h => h) (Or.inl ⟨by rfl, ?_⟩) hHeld ?_ ?_
  rotate_left
  ·intro w' hS
   refine Eq.trans (run_load_seg hS rfl rfl ag46 rfl (by first | exact at0 | exact at1 | exact at2 | exact at3 | exact at4 | exact at5 | exact at6) (by with_reducible first | exact get_T _ | exact get_C _ | exact get_D _ | exact get_R _ | exact el_T _ _ (by omega) | exact el_C _ _ (by omega) | exact tc_el _ _ (by omega) | exact cc_el _ _ (by omega) | exact whole _) (by with_reducible first | exact mc_size _ | exact tc_size _ | exact cc_size _ | exact dc_size _ | exact rc_size _ | exact sz1 | exact sz2 | exact sz3 | exact sz4)) ?_
   with_reducible rfl
  rotate_left
  ·simp only [PrintLast.putAll, Act.put, List.setIfInBounds_toArray, List.set_cons_zero, List.set_cons_succ, Nat.zero_add, Nat.add_zero, Nat.mul_one, Int.toNat_natCast]
   rfl
  refine PrintLast.take_ (i := 2) (oi := { dst := some 23, op := Go.Op.load 61 (Go.Operand.tmp 6), type := 61, pos := "l6_act.go:54", after := #[], guard := none }) (N := some 23) (v := ?_) (a' := ?_) #[true, true, true, false, false, false] rfl rfl (by kernel_rfl) (fun _ _ _ h => h) (Or.inl ⟨by rfl, ?_⟩) hHeld ?_ ?_
  rotate_left
  ·intro w' hS
   refine Eq.trans (run_load_seg hS rfl rfl ag61 rfl (by first | exact at0 | exact at1 | exact at2 | exact at3 | exact at4 | exact at5 | exact at6) (by with_reducible first | exact get_T _ | exact get_C _ | exact get_D _ | exact get_R _ | exact el_T _ _ (by omega) | exact el_C _ _ (by omega) | exact tc_el _ _ (by omega) | exact cc_el _ _ (by omega) | exact whole _) (by with_reducible first | exact mc_size _ | exact tc_size _ | exact cc_size _ | exact dc_size _ | exact rc_size _ | exact sz1 | exact sz2 | exact sz3 | exact sz4)) ?_
   with_reducible rfl
  rotate_left
  ·simp only [PrintLast.putAll, Act.put, List.setIfInBounds_toArray, List.set_cons_zero, List.set_cons_succ, Nat.zero_add, Nat.add_zero, Nat.mul_one, Int.toNat_natCast]
   rfl
  refine PrintLast.one_ (i := 3) (oi := { dst := some 24, op := Go.Op.call { callee := Go.Callee.value (Go.Operand.func 29), args := #[Go.Operand.tmp 22, Go.Operand.tmp 23], argTypes := #[46, 61] }, type := 4, pos := "l6_act.go:54", after := #[{ on := 1, ground := Go.Ground.data }, { on := 2, ground := Go.Ground.data }], guard := none }) (N := some 24) #[true, true, true, true, false, false] rfl rfl (by kernel_rfl) (by decide) ?_
  intro K hK
  refine step_callr (wanted_of rfl) HS.out rfl rfl Tryd.func29 (by kernel_rfl) rfl (by (try simp only [List.map_toArray, List.map_cons, List.map_nil]); first | done | rfl) (c_MemBitE m wf _ _ _ b1 hb1 _ (HTT.out.below HS.out.below)) ?_
  intro W_ HP; clear hHeld; clear HS; have HS := Aside0.mk HP; clear HP
  refine hK.out _ _ ((Priv.rm3 HS.out)) (fun hHeld => ?_)
  clear hK K
  refine PrintLast.norm_ (a' := ?_) ?_ ?_
  rotate_left
  ·show Act.put _ (some 24) _ = _
   simp only [PrintLast.putAll, Act.put, List.setIfInBounds_toArray, List.set_cons_zero, List.set_cons_succ, Nat.zero_add, Nat.add_zero, Nat.mul_one, Int.toNat_natCast]
   rfl
  clear hHeld
  refine one_store (i := 4) (oi := { dst := none, op := Go.Op.store 46 (Go.Operand.tmp 4) (Go.Operand.tmp 21), type := 0, pos := "l6_act.go:54", after := #[{ on := 0, ground := Go.Ground.data }, { on := 3, ground := Go.Ground.chain }, { on := 0, ground := Go.Ground.phase }, { on := 1, ground := Go.Ground.textOnly Go.Departure.lateStores }, { on := 2, ground := Go.Ground.textOnly Go.Departure.lateStores }, { on := 3, ground := Go.Ground.textOnly Go.Departure.lateStoresUnsure }], guard := none }) #[true, true, true, true, true, false] rfl rfl (by kernel_rfl) (by decide) (wanted_of rfl) HS.out rfl ag46 rfl (by first | exact eval_tmp rfl | exact eval_const) (by first | exact at0 | exact at1 | exact at2 | exact at3 | exact at4 | exact at5 | exact at6) (by with_reducible first | exact set_X _ _ | exact set_Y _ _ | exact set_M _ _ | exact set_S _ _ | exact set_E _ _ | exact set_Time _ _ | exact set_Ran _ _ | exact set_Fault _ _ | exact set_T _ _ | exact set_C _ _ | exact set_D _ _ | exact set_R _ _ | exact put_T _ _ (by omega) _ _ | exact put_C _ _ (by omega) _ _ _ | exact put_D _ _ (by omega) _ | exact put_R _ _ (by omega) _ | exact tc_put _ _ (by omega) _ _ | exact cc_put _ _ (by omega) _ _ _ | exact dc_put _ _ (by omega) _ | exact rc_put _ _ (by omega) _ | exact lay_mc _ _ | exact lay_tc _ _ | exact lay_cc _ _ | exact lay_dc _ _ | exact lay_rc _ _ | exact lay2_0 | exact lay2_1 | exact lay3_0 | exact lay3_1 | exact lay3_2 | exact lay2_w | exact lay3_w) (by with_reducible first | exact mc_size _ | exact tc_size _ | exact cc_size _ | exact dc_size _ | exact rc_size _ | exact sz1 | exact sz2 | exact sz3 | exact sz4) (by simp only [mc_size, tc_size, cc_size, dc_size, rc_size, List.size_toArray, List.length_cons, List.length_nil]; omega) (by first | (with_reducible first | exact mc_one _ | exact tc_one _ | exact cc_one _ | exact dc_one _ | exact rc_one _ | exact t2_one _ _ | exact t3_one _ _ _) | (simp [Value.oneCell']; done)) (fun W_ HSS => by simp only [List.set_cons_zero, List.set_cons_succ] at HSS; exact (Priv.rm3 HSS)) ?_
  intro W_ HP hHeld; clear HS; have HS := Aside0.mk HP; clear HP; (try simp only [List.set_cons_zero, List.set_cons_succ] at HS)
  refine PrintLast.pure_ (i := 5) (oi := { dst := some 5, op := Go.Op.assign (Go.Operand.tmp 24), type := 4, pos := "l6_act.go:54", after := #[{ on := 3, ground := Go.Ground.data }, { on := 4, ground := Go.Ground.chain }, { on := 0, ground := Go.Ground.phase }, { on := 1, ground := Go.Ground.phase }, { on := 2, ground := Go.Ground.phase }, { on := 3, ground := Go.Ground.phase }, { on := 4, ground := Go.Ground.phase }], guard := none }) (N := some 5) (v := ?_) (a' := ?_) #[true, true, true, true, true, true] rfl rfl (by kernel_rfl) (fun _ _ _ h => h) (Or.inl ⟨by rfl, ?_⟩) ?_ ?_
  rotate_left
  ·intro w'
   go_simp
   with_reducible rfl
  rotate_left
  ·simp only [PrintLast.putAll, Act.put, List.setIfInBounds_toArray, List.set_cons_zero, List.set_cons_succ, Nat.zero_add, Nat.add_zero, Nat.mul_one, Int.toNat_natCast]
   rfl
  refine PrintLast.done_ (by kernel_rfl) ?_
  clear hHeld
  go_wp2
  refine ret_agg_tmp HS.out (by rfl) (by rfl) (by rfl) (by first | exact at0 | exact at1 | exact at2 | exact at3 | exact at4 | exact at5 | exact at6) ag46 (by with_reducible first | exact mc_size _ | exact tc_size _ | exact cc_size _ | exact dc_size _ | exact rc_size _ | exact sz1 | exact sz2 | exact sz3 | exact sz4) ?_
  exact ⟨_, rfl, ⟨_, by rw [ht]; rfl, hT⟩, HS.out.below⟩
 by_cases c2 : op = 2
 ·subst c2
  obtain ⟨b1, hb1⟩ : ∃ b, membit m d0.1 (place d0.1 d0.2.1).toNat = b := ⟨_, rfl⟩
  have hT : Tb m 2 d0 d1 (!b1) := by unfold Tb bitOf; rw [if_neg (by decide), if_pos rfl, hb1]
  have ht : tm m 2 d0 d1 = m := by unfold tm; rw [if_neg (by decide)]
  go_wp2_with ((first | ((with_reducible refine gate_dst (N := 18) rfl ?_); (with_reducible refine field_at rfl rfl rfl fo52_0 ?_); (try simp only [toNat_16, toNat_12, Int.toNat_natCast, Nat.zero_add, Nat.add_zero, Nat.mul_one])) | ((with_reducible refine gate_dst (N := 19) rfl ?_); (with_reducible refine load_one HS.out rfl rfl on3 rfl (by first | exact at0 | exact at1 | exact at2 | exact at3 | exact at4 | exact at5 | exact at6) (by with_reducible first | exact dc_get _ _ (by omega) | exact rc_get _ _ (by omega) | exact at0a | exact at1a | exact at2a | exact at3a) ?_)) | ((with_reducible refine gate_dst (N := 26) rfl ?_); (with_reducible refine field_at rfl rfl rfl fo52_0 ?_); (try simp only [toNat_16, toNat_12, Int.toNat_natCast, Nat.zero_add, Nat.add_zero, Nat.mul_one])) | ((with_reducible refine gate_dst (N := 27) rfl ?_); (with_reducible refine load_one HS.out rfl rfl on3 rfl (by first | exact at0 | exact at1 | exact at2 | exact at3 | exact at4 | exact at5 | exact at6) (by with_reducible first | exact dc_get _ _ (by omega) | exact rc_get _ _ (by omega) | exact at0a | exact at1a | exact at2a | exact at3a) ?_))); (try simp only [Act.put, List.setIfInBounds_toArray, List.set_cons_zero, List.set_cons_succ]))
  refine start_R (LS := _) (n := 7) #[false, false, false, false, false, false, false] HS.out (by kernel_rfl) rfl rfl (fun W_ HSS => (Priv.rm3 HSS)) ?_
  intro W_ HP hHeld; clear HS; have HS := Aside0.mk HP; clear HP
  refine PrintLast.take_ (i := 0) (oi := { dst := some 29, op := Go.Op.load 46 (Go.Operand.tmp 2), type := 46, pos := "l6_act.go:56", after := #[], guard := none }) (N := some 29) (v := ?_) (a' := ?_) #[true, false, false, false, false, false, false] rfl rfl (by kernel_rfl) (fun _ _ _ h => h) (Or.inl ⟨by rfl, ?_⟩) hHeld ?_ ?_
  rotate_left
  ·intro w' hS
   refine Eq.trans (run_load_seg hS rfl rfl ag46 rfl (by first | exact at0 | exact at1 | exact at2 | exact at3 | exact at4 | exact at5 | exact at6) (by with_reducible first | exact get_T _ | exact get_C _ | exact get_D _ | exact get_R _ | exact el_T _ _ (by omega) | exact el_C _ _ (by omega) | exact tc_el _ _ (by omega) | exact cc_el _ _ (by omega) | exact whole _) (by with_reducible first | exact mc_size _ | exact tc_size _ | exact cc_size _ | exact dc_size _ | exact rc_size _ | exact sz1 | exact sz2 | exact sz3 | exact sz4)) ?_
   with_reducible rfl
  rotate_left
  ·simp only [PrintLast.putAll, Act.put, List.setIfInBounds_toArray, List.set_cons_zero, List.set_cons_succ, Nat.zero_add, Nat.add_zero, Nat.mul_one, Int.toNat_natCast]
   rfl
  refine PrintLast.take_ (i := 1) (oi := { dst := some 30, op := Go.Op.load 46 (Go.Operand.tmp 2), type := 46, pos := "l6_act.go:56", after := #[], guard := none }) (N := some 30) (v := ?_) (a' := ?_) #[true, true, false, false, false, false, false] rfl rfl (by kernel_rfl) (fun _ _ _ h => h) (Or.inl ⟨by rfl, ?_⟩) hHeld ?_ ?_
  rotate_left
  ·intro w' hS
   refine Eq.trans (run_load_seg hS rfl rfl ag46 rfl (by first | exact at0 | exact at1 | exact at2 | exact at3 | exact at4 | exact at5 | exact at6) (by with_reducible first | exact get_T _ | exact get_C _ | exact get_D _ | exact get_R _ | exact el_T _ _ (by omega) | exact el_C _ _ (by omega) | exact tc_el _ _ (by omega) | exact cc_el _ _ (by omega) | exact whole _) (by with_reducible first | exact mc_size _ | exact tc_size _ | exact cc_size _ | exact dc_size _ | exact rc_size _ | exact sz1 | exact sz2 | exact sz3 | exact sz4)) ?_
   with_reducible rfl
  rotate_left
  ·simp only [PrintLast.putAll, Act.put, List.setIfInBounds_toArray, List.set_cons_zero, List.set_cons_succ, Nat.zero_add, Nat.add_zero, Nat.mul_one, Int.toNat_natCast]
   rfl
  refine PrintLast.take_ (i := 2) (oi := { dst := some 31, op := Go.Op.load 61 (Go.Operand.tmp 6), type := 61, pos := "l6_act.go:56", after := #[], guard := none }) (N := some 31) (v := ?_) (a' := ?_) #[true, true, true, false, false, false, false] rfl rfl (by kernel_rfl) (fun _ _ _ h => h) (Or.inl ⟨by rfl, ?_⟩) hHeld ?_ ?_
  rotate_left
  ·intro w' hS
   refine Eq.trans (run_load_seg hS rfl rfl ag61 rfl (by first | exact at0 | exact at1 | exact at2 | exact at3 | exact at4 | exact at5 | exact at6) (by with_reducible first | exact get_T _ | exact get_C _ | exact get_D _ | exact get_R _ | exact el_T _ _ (by omega) | exact el_C _ _ (by omega) | exact tc_el _ _ (by omega) | exact cc_el _ _ (by omega) | exact whole _) (by with_reducible first | exact mc_size _ | exact tc_size _ | exact cc_size _ | exact dc_size _ | exact rc_size _ | exact sz1 | exact sz2 | exact sz3 | exact sz4)) ?_
   with_reducible rfl
  rotate_left
  ·simp only [PrintLast.putAll, Act.put, List.setIfInBounds_toArray, List.set_cons_zero, List.set_cons_succ, Nat.zero_add, Nat.add_zero, Nat.mul_one, Int.toNat_natCast]
   rfl
  refine PrintLast.one_ (i := 3) (oi := { dst := some 32, op := Go.Op.call { callee := Go.Callee.value (Go.Operand.func 29), args := #[Go.Operand.tmp 30, Go.Operand.tmp 31], argTypes := #[46, 61] }, type := 4, pos := "l6_act.go:56", after := #[{ on := 1, ground := Go.Ground.data }, { on := 2, ground := Go.Ground.data }], guard := none }) (N := some 32) #[true, true, true, true, false, false, false] rfl rfl (by kernel_rfl) (by decide) ?_
  intro K hK
  refine step_callr (wanted_of rfl) HS.out rfl rfl Tryd.func29 (by kernel_rfl) rfl (by (try simp only [List.map_toArray, List.map_cons, List.map_nil]); first | done | rfl) (c_MemBitE m wf _ _ _ b1 hb1 _ (HTT.out.below HS.out.below)) ?_
  intro W_ HP; clear hHeld; clear HS; have HS := Aside0.mk HP; clear HP
  refine hK.out _ _ ((Priv.rm3 HS.out)) (fun hHeld => ?_)
  clear hK K
  refine PrintLast.norm_ (a' := ?_) ?_ ?_
  rotate_left
  ·show Act.put _ (some 32) _ = _
   simp only [PrintLast.putAll, Act.put, List.setIfInBounds_toArray, List.set_cons_zero, List.set_cons_succ, Nat.zero_add, Nat.add_zero, Nat.mul_one, Int.toNat_natCast]
   rfl
  refine PrintLast.pure_ (i := 4) (oi := { dst := some 33, op := Go.Op.unOp Go.UnOp.not 4 (Go.Operand.tmp 32), type := 4, pos := "l6_act.go:56", after := #[{ on := 3, ground := Go.Ground.data }, { on := 5, ground := Go.Ground.gcOnly Go.Departure.lateStores }], guard := none }) (N := some 33) (v := ?_) (a' := ?_) #[true, true, true, true, true, false, false] rfl rfl (by kernel_rfl) (fun _ _ _ h => h) (Or.inl ⟨by rfl, ?_⟩) ?_ ?_
  rotate_left
  ·intro w'
   go_simp
   with_reducible rfl
  rotate_left
  ·simp only [PrintLast.putAll, Act.put, List.setIfInBounds_toArray, List.set_cons_zero, List.set_cons_succ, Nat.zero_add, Nat.add_zero, Nat.mul_one, Int.toNat_natCast]
   rfl
  clear hHeld
  refine one_store (i := 5) (oi := { dst := none, op := Go.Op.store 46 (Go.Operand.tmp 4) (Go.Operand.tmp 29), type := 0, pos := "l6_act.go:56", after := #[{ on := 0, ground := Go.Ground.data }, { on := 3, ground := Go.Ground.chain }, { on := 0, ground := Go.Ground.phase }, { on := 1, ground := Go.Ground.textOnly Go.Departure.lateStores }, { on := 2, ground := Go.Ground.textOnly Go.Departure.lateStores }, { on := 3, ground := Go.Ground.textOnly Go.Departure.lateStoresUnsure }, { on := 4, ground := Go.Ground.textOnly Go.Departure.lateStores }], guard := none }) #[true, true, true, true, true, true, false] rfl rfl (by kernel_rfl) (by decide) (wanted_of rfl) HS.out rfl ag46 rfl (by first | exact eval_tmp rfl | exact eval_const) (by first | exact at0 | exact at1 | exact at2 | exact at3 | exact at4 | exact at5 | exact at6) (by with_reducible first | exact set_X _ _ | exact set_Y _ _ | exact set_M _ _ | exact set_S _ _ | exact set_E _ _ | exact set_Time _ _ | exact set_Ran _ _ | exact set_Fault _ _ | exact set_T _ _ | exact set_C _ _ | exact set_D _ _ | exact set_R _ _ | exact put_T _ _ (by omega) _ _ | exact put_C _ _ (by omega) _ _ _ | exact put_D _ _ (by omega) _ | exact put_R _ _ (by omega) _ | exact tc_put _ _ (by omega) _ _ | exact cc_put _ _ (by omega) _ _ _ | exact dc_put _ _ (by omega) _ | exact rc_put _ _ (by omega) _ | exact lay_mc _ _ | exact lay_tc _ _ | exact lay_cc _ _ | exact lay_dc _ _ | exact lay_rc _ _ | exact lay2_0 | exact lay2_1 | exact lay3_0 | exact lay3_1 | exact lay3_2 | exact lay2_w | exact lay3_w) (by with_reducible first | exact mc_size _ | exact tc_size _ | exact cc_size _ | exact dc_size _ | exact rc_size _ | exact sz1 | exact sz2 | exact sz3 | exact sz4) (by simp only [mc_size, tc_size, cc_size, dc_size, rc_size, List.size_toArray, List.length_cons, List.length_nil]; omega) (by first | (with_reducible first | exact mc_one _ | exact tc_one _ | exact cc_one _ | exact dc_one _ | exact rc_one _ | exact t2_one _ _ | exact t3_one _ _ _) | (simp [Value.oneCell']; done)) (fun W_ HSS => by simp only [List.set_cons_zero, List.set_cons_succ] at HSS; exact (Priv.rm3 HSS)) ?_
  intro W_ HP hHeld; clear HS; have HS := Aside0.mk HP; clear HP; (try simp only [List.set_cons_zero, List.set_cons_succ] at HS)
  refine PrintLast.pure_ (i := 6) (oi := { dst := some 5, op := Go.Op.assign (Go.Operand.tmp 33), type := 4, pos := "l6_act.go:56", after := #[{ on := 4, ground := Go.Ground.data }, { on := 5, ground := Go.Ground.chain }, { on := 0, ground := Go.Ground.phase }, { on := 1, ground := Go.Ground.phase }, { on := 2, ground := Go.Ground.phase }, { on := 3, ground := Go.Ground.phase }, { on := 4, ground := Go.Ground.phase }, { on := 5, ground := Go.Ground.phase }], guard := none }) (N := some 5) (v := ?_) (a' := ?_) #[true, true, true, true, true, true, true] rfl rfl (by kernel_rfl) (fun _ _ _ h => h) (Or.inl ⟨by rfl, ?_⟩) ?_ ?_
  rotate_left
  ·intro w'
   go_simp
   with_reducible rfl
  rotate_left
  ·simp only [PrintLast.putAll, Act.put, List.setIfInBounds_toArray, List.set_cons_zero, List.set_cons_succ, Nat.zero_add, Nat.add_zero, Nat.mul_one, Int.toNat_natCast]
   rfl
  refine PrintLast.done_ (by kernel_rfl) ?_
  clear hHeld
  go_wp2
  refine ret_agg_tmp HS.out (by rfl) (by rfl) (by rfl) (by first | exact at0 | exact at1 | exact at2 | exact at3 | exact at4 | exact at5 | exact at6) ag46 (by with_reducible first | exact mc_size _ | exact tc_size _ | exact cc_size _ | exact dc_size _ | exact rc_size _ | exact sz1 | exact sz2 | exact sz3 | exact sz4) ?_
  exact ⟨_, rfl, ⟨_, by rw [ht]; rfl, hT⟩, HS.out.below⟩
 by_cases c3 : op = 3
 ·subst c3
  obtain ⟨b1, hb1⟩ : ∃ b, membit m d0.1 (place d0.1 d0.2.1).toNat = b := ⟨_, rfl⟩
  obtain ⟨b2, hb2⟩ : ∃ b, (decide (d1.1 = 5) && membit m d1.1 (place d1.1 d1.2.1).toNat) = b := ⟨_, rfl⟩
  have hT : Tb m 3 d0 d1 (b1 && !b2) := by unfold Tb bitOf wasOf; rw [if_neg (by decide), if_neg (by decide), if_pos rfl, hb1, hb2]
  have ht : tm m 3 d0 d1 = keepb m d1.1 d1.2.1 b1 := by unfold tm bitOf; rw [if_pos (by decide), hb1]
  go_wp2_with ((first | ((with_reducible refine gate_dst (N := 18) rfl ?_); (with_reducible refine field_at rfl rfl rfl fo52_0 ?_); (try simp only [toNat_16, toNat_12, Int.toNat_natCast, Nat.zero_add, Nat.add_zero, Nat.mul_one])) | ((with_reducible refine gate_dst (N := 19) rfl ?_); (with_reducible refine load_one HS.out rfl rfl on3 rfl (by first | exact at0 | exact at1 | exact at2 | exact at3 | exact at4 | exact at5 | exact at6) (by with_reducible first | exact dc_get _ _ (by omega) | exact rc_get _ _ (by omega) | exact at0a | exact at1a | exact at2a | exact at3a) ?_)) | ((with_reducible refine gate_dst (N := 26) rfl ?_); (with_reducible refine field_at rfl rfl rfl fo52_0 ?_); (try simp only [toNat_16, toNat_12, Int.toNat_natCast, Nat.zero_add, Nat.add_zero, Nat.mul_one])) | ((with_reducible refine gate_dst (N := 27) rfl ?_); (with_reducible refine load_one HS.out rfl rfl on3 rfl (by first | exact at0 | exact at1 | exact at2 | exact at3 | exact at4 | exact at5 | exact at6) (by with_reducible first | exact dc_get _ _ (by omega) | exact rc_get _ _ (by omega) | exact at0a | exact at1a | exact at2a | exact at3a) ?_)) | ((with_reducible refine gate_dst (N := 35) rfl ?_); (with_reducible refine field_at rfl rfl rfl fo52_0 ?_); (try simp only [toNat_16, toNat_12, Int.toNat_natCast, Nat.zero_add, Nat.add_zero, Nat.mul_one])) | ((with_reducible refine gate_dst (N := 36) rfl ?_); (with_reducible refine load_one HS.out rfl rfl on3 rfl (by first | exact at0 | exact at1 | exact at2 | exact at3 | exact at4 | exact at5 | exact at6) (by with_reducible first | exact dc_get _ _ (by omega) | exact rc_get _ _ (by omega) | exact at0a | exact at1a | exact at2a | exact at3a) ?_))); (try simp only [Act.put, List.setIfInBounds_toArray, List.set_cons_zero, List.set_cons_succ]))
  refine start_R (LS := _) (n := 8) #[false, false, false, false, false, false, false, false] HS.out (by kernel_rfl) rfl rfl (fun W_ HSS => HSS) ?_
  intro W_ HP hHeld; clear HS; have HS := Aside0.mk HP; clear HP
  refine PrintLast.take_ (i := 0) (oi := { dst := some 38, op := Go.Op.load 46 (Go.Operand.tmp 2), type := 46, pos := "l6_act.go:58", after := #[], guard := none }) (N := some 38) (v := ?_) (a' := ?_) #[true, false, false, false, false, false, false, false] rfl rfl (by kernel_rfl) (fun _ _ _ h => h) (Or.inl ⟨by rfl, ?_⟩) hHeld ?_ ?_
  rotate_left
  ·intro w' hS
   refine Eq.trans (run_load_seg hS rfl rfl ag46 rfl (by first | exact at0 | exact at1 | exact at2 | exact at3 | exact at4 | exact at5 | exact at6) (by with_reducible first | exact get_T _ | exact get_C _ | exact get_D _ | exact get_R _ | exact el_T _ _ (by omega) | exact el_C _ _ (by omega) | exact tc_el _ _ (by omega) | exact cc_el _ _ (by omega) | exact whole _) (by with_reducible first | exact mc_size _ | exact tc_size _ | exact cc_size _ | exact dc_size _ | exact rc_size _ | exact sz1 | exact sz2 | exact sz3 | exact sz4)) ?_
   with_reducible rfl
  rotate_left
  ·simp only [PrintLast.putAll, Act.put, List.setIfInBounds_toArray, List.set_cons_zero, List.set_cons_succ, Nat.zero_add, Nat.add_zero, Nat.mul_one, Int.toNat_natCast]
   rfl
  refine PrintLast.take_ (i := 1) (oi := { dst := some 39, op := Go.Op.load 61 (Go.Operand.tmp 6), type := 61, pos := "l6_act.go:58", after := #[], guard := none }) (N := some 39) (v := ?_) (a' := ?_) #[true, true, false, false, false, false, false, false] rfl rfl (by kernel_rfl) (fun _ _ _ h => h) (Or.inl ⟨by rfl, ?_⟩) hHeld ?_ ?_
  rotate_left
  ·intro w' hS
   refine Eq.trans (run_load_seg hS rfl rfl ag61 rfl (by first | exact at0 | exact at1 | exact at2 | exact at3 | exact at4 | exact at5 | exact at6) (by with_reducible first | exact get_T _ | exact get_C _ | exact get_D _ | exact get_R _ | exact el_T _ _ (by omega) | exact el_C _ _ (by omega) | exact tc_el _ _ (by omega) | exact cc_el _ _ (by omega) | exact whole _) (by with_reducible first | exact mc_size _ | exact tc_size _ | exact cc_size _ | exact dc_size _ | exact rc_size _ | exact sz1 | exact sz2 | exact sz3 | exact sz4)) ?_
   with_reducible rfl
  rotate_left
  ·simp only [PrintLast.putAll, Act.put, List.setIfInBounds_toArray, List.set_cons_zero, List.set_cons_succ, Nat.zero_add, Nat.add_zero, Nat.mul_one, Int.toNat_natCast]
   rfl
  refine PrintLast.take_ (i := 3) (oi := { dst := some 41, op := Go.Op.load 46 (Go.Operand.tmp 2), type := 46, pos := "l6_act.go:58", after := #[], guard := none }) (N := some 41) (v := ?_) (a' := ?_) #[true, true, false, true, false, false, false, false] rfl rfl (by kernel_rfl) (fun _ _ _ h => h) (Or.inl ⟨by rfl, ?_⟩) hHeld ?_ ?_
  rotate_left
  ·intro w' hS
   refine Eq.trans (run_load_seg hS rfl rfl ag46 rfl (by first | exact at0 | exact at1 | exact at2 | exact at3 | exact at4 | exact at5 | exact at6) (by with_reducible first | exact get_T _ | exact get_C _ | exact get_D _ | exact get_R _ | exact el_T _ _ (by omega) | exact el_C _ _ (by omega) | exact tc_el _ _ (by omega) | exact cc_el _ _ (by omega) | exact whole _) (by with_reducible first | exact mc_size _ | exact tc_size _ | exact cc_size _ | exact dc_size _ | exact rc_size _ | exact sz1 | exact sz2 | exact sz3 | exact sz4)) ?_
   with_reducible rfl
  rotate_left
  ·simp only [PrintLast.putAll, Act.put, List.setIfInBounds_toArray, List.set_cons_zero, List.set_cons_succ, Nat.zero_add, Nat.add_zero, Nat.mul_one, Int.toNat_natCast]
   rfl
  refine PrintLast.take_ (i := 4) (oi := { dst := some 42, op := Go.Op.load 61 (Go.Operand.tmp 7), type := 61, pos := "l6_act.go:58", after := #[], guard := none }) (N := some 42) (v := ?_) (a' := ?_) #[true, true, false, true, true, false, false, false] rfl rfl (by kernel_rfl) (fun _ _ _ h => h) (Or.inl ⟨by rfl, ?_⟩) hHeld ?_ ?_
  rotate_left
  ·intro w' hS
   refine Eq.trans (run_load_seg hS rfl rfl ag61 rfl (by first | exact at0 | exact at1 | exact at2 | exact at3 | exact at4 | exact at5 | exact at6) (by with_reducible first | exact get_T _ | exact get_C _ | exact get_D _ | exact get_R _ | exact el_T _ _ (by omega) | exact el_C _ _ (by omega) | exact tc_el _ _ (by omega) | exact cc_el _ _ (by omega) | exact whole _) (by with_reducible first | exact mc_size _ | exact tc_size _ | exact cc_size _ | exact dc_size _ | exact rc_size _ | exact sz1 | exact sz2 | exact sz3 | exact sz4)) ?_
   with_reducible rfl
  rotate_left
  ·simp only [PrintLast.putAll, Act.put, List.setIfInBounds_toArray, List.set_cons_zero, List.set_cons_succ, Nat.zero_add, Nat.add_zero, Nat.mul_one, Int.toNat_natCast]
   rfl
  refine PrintLast.one_ (i := 2) (oi := { dst := some 40, op := Go.Op.call { callee := Go.Callee.value (Go.Operand.func 29), args := #[Go.Operand.tmp 38, Go.Operand.tmp 39], argTypes := #[46, 61] }, type := 4, pos := "l6_act.go:58", after := #[{ on := 0, ground := Go.Ground.data }, { on := 1, ground := Go.Ground.data }], guard := none }) (N := some 40) #[true, true, true, true, true, false, false, false] rfl rfl (by kernel_rfl) (by decide) ?_
  intro K hK
  refine step_callr (wanted_of rfl) HS.out rfl rfl Tryd.func29 (by kernel_rfl) rfl (by (try simp only [List.map_toArray, List.map_cons, List.map_nil]); first | done | rfl) (c_MemBitE m wf _ _ _ b1 hb1 _ (HTT.out.below HS.out.below)) ?_
  intro W_ HP; clear hHeld; clear HS; have HS := Aside0.mk HP; clear HP
  refine hK.out _ _ (HS.out) (fun hHeld => ?_)
  clear hK K
  refine PrintLast.norm_ (a' := ?_) ?_ ?_
  rotate_left
  ·show Act.put _ (some 40) _ = _
   simp only [PrintLast.putAll, Act.put, List.setIfInBounds_toArray, List.set_cons_zero, List.set_cons_succ, Nat.zero_add, Nat.add_zero, Nat.mul_one, Int.toNat_natCast]
   rfl
  refine PrintLast.one_ (i := 5) (oi := { dst := some 43, op := Go.Op.call { callee := Go.Callee.value (Go.Operand.func 30), args := #[Go.Operand.tmp 41, Go.Operand.tmp 42], argTypes := #[46, 61] }, type := 4, pos := "l6_act.go:58", after := #[{ on := 3, ground := Go.Ground.data }, { on := 4, ground := Go.Ground.data }, { on := 2, ground := Go.Ground.chain }], guard := none }) (N := some 43) #[true, true, true, true, true, true, false, false] rfl rfl (by kernel_rfl) (by decide) ?_
  intro K hK
  refine step_callr (wanted_of rfl) HS.out rfl rfl Tryd.func30 (by kernel_rfl) rfl (by (try simp only [List.map_toArray, List.map_cons, List.map_nil]); first | done | rfl) (c_wasE m wf _ _ _ b2 hb2 _ (HTT.out.below HS.out.below)) ?_
  intro W_ HP; clear hHeld; clear HS; have HS := Aside0.mk HP; clear HP
  refine hK.out _ _ (HS.out) (fun hHeld => ?_)
  clear hK K
  refine PrintLast.norm_ (a' := ?_) ?_ ?_
  rotate_left
  ·show Act.put _ (some 43) _ = _
   simp only [PrintLast.putAll, Act.put, List.setIfInBounds_toArray, List.set_cons_zero, List.set_cons_succ, Nat.zero_add, Nat.add_zero, Nat.mul_one, Int.toNat_natCast]
   rfl
  refine PrintLast.pure_ (i := 6) (oi := { dst := some 8, op := Go.Op.assign (Go.Operand.tmp 40), type := 4, pos := "l6_act.go:58", after := #[{ on := 2, ground := Go.Ground.data }, { on := 5, ground := Go.Ground.chain }, { on := 0, ground := Go.Ground.phase }, { on := 1, ground := Go.Ground.phase }, { on := 2, ground := Go.Ground.phase }, { on := 3, ground := Go.Ground.textOnly Go.Departure.lateStores }, { on := 4, ground := Go.Ground.textOnly Go.Departure.lateStores }, { on := 5, ground := Go.Ground.textOnly Go.Departure.lateStoresUnsure }], guard := none }) (N := some 8) (v := ?_) (a' := ?_) #[true, true, true, true, true, true, true, false] rfl rfl (by kernel_rfl) (fun _ _ _ h => h) (Or.inl ⟨by rfl, ?_⟩) ?_ ?_
  rotate_left
  ·intro w'
   go_simp
   with_reducible rfl
  rotate_left
  ·simp only [PrintLast.putAll, Act.put, List.setIfInBounds_toArray, List.set_cons_zero, List.set_cons_succ, Nat.zero_add, Nat.add_zero, Nat.mul_one, Int.toNat_natCast]
   rfl
  refine PrintLast.pure_ (i := 7) (oi := { dst := some 9, op := Go.Op.assign (Go.Operand.tmp 43), type := 4, pos := "l6_act.go:58", after := #[{ on := 5, ground := Go.Ground.data }, { on := 6, ground := Go.Ground.chain }, { on := 0, ground := Go.Ground.phase }, { on := 1, ground := Go.Ground.phase }, { on := 2, ground := Go.Ground.phase }, { on := 3, ground := Go.Ground.phase }, { on := 4, ground := Go.Ground.phase }, { on := 5, ground := Go.Ground.phase }, { on := 6, ground := Go.Ground.phase }], guard := none }) (N := some 9) (v := ?_) (a' := ?_) #[true, true, true, true, true, true, true, true] rfl rfl (by kernel_rfl) (fun _ _ _ h => h) (Or.inl ⟨by rfl, ?_⟩) ?_ ?_
  rotate_left
  ·intro w'
   go_simp
   with_reducible rfl
  rotate_left
  ·simp only [PrintLast.putAll, Act.put, List.setIfInBounds_toArray, List.set_cons_zero, List.set_cons_succ, Nat.zero_add, Nat.add_zero, Nat.mul_one, Int.toNat_natCast]
   rfl
  refine PrintLast.done_ (by kernel_rfl) ?_
  clear hHeld
  clear hb1 hb2
  cases b1 <;> cases b2
  all_goals
   go_wp2_with ((first | ((with_reducible refine gate_dst (N := 47) rfl ?_); refine call_ev2 HS.out rfl rfl Tryd.func31 (by kernel_rfl) rfl (by (try simp only [List.map_toArray, List.map_cons, List.map_nil]); first | done | rfl) (c_keep _ wf _ _ _ _ _ (HTT.out.below HS.out.below)) ?_; rintro v_ W_ rfl HP HB_; clear HS; have HS := Aside0.mk HP; clear HP; clear HB_) | ((with_reducible refine gate_store (t := 46) (p := 4) rfl ?_); (with_reducible refine store_seg HS.out rfl rfl rfl ag46 rfl (by first | exact eval_tmp rfl | exact eval_const) (by first | exact at0 | exact at1 | exact at2 | exact at3 | exact at4 | exact at5 | exact at6) (by with_reducible first | exact tc_put _ _ (by omega) _ _ | exact cc_put _ _ (by omega) _ _ _ | exact dc_put _ _ (by omega) _ | exact rc_put _ _ (by omega) _ | exact lay_mc _ _ | exact lay_tc _ _ | exact lay_cc _ _ | exact lay_dc _ _ | exact lay_rc _ _ | exact lay2_0 | exact lay2_1 | exact lay3_0 | exact lay3_1 | exact lay3_2 | exact lay2_w | exact lay3_w) (by with_reducible first | exact mc_size _ | exact tc_size _ | exact cc_size _ | exact dc_size _ | exact rc_size _ | exact sz1 | exact sz2 | exact sz3 | exact sz4) (by simp only [mc_size, tc_size, cc_size, dc_size, rc_size, List.size_toArray, List.length_cons, List.length_nil]; omega) (by first | (with_reducible first | exact mc_one _ | exact tc_one _ | exact cc_one _ | exact dc_one _ | exact rc_one _ | exact t2_one _ _ | exact t3_one _ _ _) | (simp [Value.oneCell']; done)) ?_); intro W_ HP; clear HS; have HS := Aside0.mk HP; clear HP; (try simp only [List.set_cons_zero, List.set_cons_succ] at HS)) | ((with_reducible refine gate_dst (N := 44) rfl ?_); (with_reducible refine load_seg HS.out rfl rfl ag46 rfl (by first | exact at0 | exact at1 | exact at2 | exact at3 | exact at4 | exact at5 | exact at6) (by with_reducible first | exact tc_el _ _ (by omega) | exact cc_el _ _ (by omega) | exact whole _) (by with_reducible first | exact mc_size _ | exact tc_size _ | exact cc_size _ | exact dc_size _ | exact rc_size _ | exact sz1 | exact sz2 | exact sz3 | exact sz4) ?_)) | ((with_reducible refine gate_dst (N := 45) rfl ?_); (with_reducible refine load_seg HS.out rfl rfl ag61 rfl (by first | exact at0 | exact at1 | exact at2 | exact at3 | exact at4 | exact at5 | exact at6) (by with_reducible first | exact tc_el _ _ (by omega) | exact cc_el _ _ (by omega) | exact whole _) (by with_reducible first | exact mc_size _ | exact tc_size _ | exact cc_size _ | exact dc_size _ | exact rc_size _ | exact sz1 | exact sz2 | exact sz3 | exact sz4) ?_))); (try simp only [Act.put, List.setIfInBounds_toArray, List.set_cons_zero, List.set_cons_succ]))
   refine ret_agg_tmp HS.out (by rfl) (by rfl) (by rfl) (by first | exact at0 | exact at1 | exact at2 | exact at3 | exact at4 | exact at5 | exact at6) ag46 (by with_reducible first | exact mc_size _ | exact tc_size _ | exact cc_size _ | exact dc_size _ | exact rc_size _ | exact sz1 | exact sz2 | exact sz3 | exact sz4) ?_
   exact ⟨_, rfl, ⟨_, by rw [ht]; rfl, hT⟩, HS.out.below⟩
 by_cases c4 : op = 4
 ·subst c4
  obtain ⟨b1, hb1⟩ : ∃ b, membit m d0.1 (place d0.1 d0.2.1).toNat = b := ⟨_, rfl⟩
  obtain ⟨b2, hb2⟩ : ∃ b, (decide (d1.1 = 5) && membit m d1.1 (place d1.1 d1.2.1).toNat) = b := ⟨_, rfl⟩
  have hT : Tb m 4 d0 d1 (b2 && !b1) := by unfold Tb bitOf wasOf; rw [if_neg (by decide), if_neg (by decide), if_neg (by decide), if_pos rfl, hb1, hb2]
  have ht : tm m 4 d0 d1 = keepb m d1.1 d1.2.1 b1 := by unfold tm bitOf; rw [if_pos (by decide), hb1]
  go_wp2_with ((first | ((with_reducible refine gate_dst (N := 18) rfl ?_); (with_reducible refine field_at rfl rfl rfl fo52_0 ?_); (try simp only [toNat_16, toNat_12, Int.toNat_natCast, Nat.zero_add, Nat.add_zero, Nat.mul_one])) | ((with_reducible refine gate_dst (N := 19) rfl ?_); (with_reducible refine load_one HS.out rfl rfl on3 rfl (by first | exact at0 | exact at1 | exact at2 | exact at3 | exact at4 | exact at5 | exact at6) (by with_reducible first | exact dc_get _ _ (by omega) | exact rc_get _ _ (by omega) | exact at0a | exact at1a | exact at2a | exact at3a) ?_)) | ((with_reducible refine gate_dst (N := 26) rfl ?_); (with_reducible refine field_at rfl rfl rfl fo52_0 ?_); (try simp only [toNat_16, toNat_12, Int.toNat_natCast, Nat.zero_add, Nat.add_zero, Nat.mul_one])) | ((with_reducible refine gate_dst (N := 27) rfl ?_); (with_reducible refine load_one HS.out rfl rfl on3 rfl (by first | exact at0 | exact at1 | exact at2 | exact at3 | exact at4 | exact at5 | exact at6) (by with_reducible first | exact dc_get _ _ (by omega) | exact rc_get _ _ (by omega) | exact at0a | exact at1a | exact at2a | exact at3a) ?_)) | ((with_reducible refine gate_dst (N := 35) rfl ?_); (with_reducible refine field_at rfl rfl rfl fo52_0 ?_); (try simp only [toNat_16, toNat_12, Int.toNat_natCast, Nat.zero_add, Nat.add_zero, Nat.mul_one])) | ((with_reducible refine gate_dst (N := 36) rfl ?_); (with_reducible refine load_one HS.out rfl rfl on3 rfl (by first | exact at0 | exact at1 | exact at2 | exact at3 | exact at4 | exact at5 | exact at6) (by with_reducible first | exact dc_get _ _ (by omega) | exact rc_get _ _ (by omega) | exact at0a | exact at1a | exact at2a | exact at3a) ?_)) | ((with_reducible refine gate_dst (N := 54) rfl ?_); (with_reducible refine field_at rfl rfl rfl fo52_0 ?_); (try simp only [toNat_16, toNat_12, Int.toNat_natCast, Nat.zero_add, Nat.add_zero, Nat.mul_one])) | ((with_reducible refine gate_dst (N := 55) rfl ?_); (with_reducible refine load_one HS.out rfl rfl on3 rfl (by first | exact at0 | exact at1 | exact at2 | exact at3 | exact at4 | exact at5 | exact at6) (by with_reducible first | exact dc_get _ _ (by omega) | exact rc_get _ _ (by omega) | exact at0a | exact at1a | exact at2a | exact at3a) ?_))); (try simp only [Act.put, List.setIfInBounds_toArray, List.set_cons_zero, List.set_cons_succ]))
  refine start_R (LS := _) (n := 8) #[false, false, false, false, false, false, false, false] HS.out (by kernel_rfl) rfl rfl (fun W_ HSS => HSS) ?_
  intro W_ HP hHeld; clear HS; have HS := Aside0.mk HP; clear HP
  refine PrintLast.take_ (i := 0) (oi := { dst := some 57, op := Go.Op.load 46 (Go.Operand.tmp 2), type := 46, pos := "l6_act.go:61", after := #[], guard := none }) (N := some 57) (v := ?_) (a' := ?_) #[true, false, false, false, false, false, false, false] rfl rfl (by kernel_rfl) (fun _ _ _ h => h) (Or.inl ⟨by rfl, ?_⟩) hHeld ?_ ?_
  rotate_left
  ·intro w' hS
   refine Eq.trans (run_load_seg hS rfl rfl ag46 rfl (by first | exact at0 | exact at1 | exact at2 | exact at3 | exact at4 | exact at5 | exact at6) (by with_reducible first | exact get_T _ | exact get_C _ | exact get_D _ | exact get_R _ | exact el_T _ _ (by omega) | exact el_C _ _ (by omega) | exact tc_el _ _ (by omega) | exact cc_el _ _ (by omega) | exact whole _) (by with_reducible first | exact mc_size _ | exact tc_size _ | exact cc_size _ | exact dc_size _ | exact rc_size _ | exact sz1 | exact sz2 | exact sz3 | exact sz4)) ?_
   with_reducible rfl
  rotate_left
  ·simp only [PrintLast.putAll, Act.put, List.setIfInBounds_toArray, List.set_cons_zero, List.set_cons_succ, Nat.zero_add, Nat.add_zero, Nat.mul_one, Int.toNat_natCast]
   rfl
  refine PrintLast.take_ (i := 1) (oi := { dst := some 58, op := Go.Op.load 61 (Go.Operand.tmp 6), type := 61, pos := "l6_act.go:61", after := #[], guard := none }) (N := some 58) (v := ?_) (a' := ?_) #[true, true, false, false, false, false, false, false] rfl rfl (by kernel_rfl) (fun _ _ _ h => h) (Or.inl ⟨by rfl, ?_⟩) hHeld ?_ ?_
  rotate_left
  ·intro w' hS
   refine Eq.trans (run_load_seg hS rfl rfl ag61 rfl (by first | exact at0 | exact at1 | exact at2 | exact at3 | exact at4 | exact at5 | exact at6) (by with_reducible first | exact get_T _ | exact get_C _ | exact get_D _ | exact get_R _ | exact el_T _ _ (by omega) | exact el_C _ _ (by omega) | exact tc_el _ _ (by omega) | exact cc_el _ _ (by omega) | exact whole _) (by with_reducible first | exact mc_size _ | exact tc_size _ | exact cc_size _ | exact dc_size _ | exact rc_size _ | exact sz1 | exact sz2 | exact sz3 | exact sz4)) ?_
   with_reducible rfl
  rotate_left
  ·simp only [PrintLast.putAll, Act.put, List.setIfInBounds_toArray, List.set_cons_zero, List.set_cons_succ, Nat.zero_add, Nat.add_zero, Nat.mul_one, Int.toNat_natCast]
   rfl
  refine PrintLast.take_ (i := 3) (oi := { dst := some 60, op := Go.Op.load 46 (Go.Operand.tmp 2), type := 46, pos := "l6_act.go:61", after := #[], guard := none }) (N := some 60) (v := ?_) (a' := ?_) #[true, true, false, true, false, false, false, false] rfl rfl (by kernel_rfl) (fun _ _ _ h => h) (Or.inl ⟨by rfl, ?_⟩) hHeld ?_ ?_
  rotate_left
  ·intro w' hS
   refine Eq.trans (run_load_seg hS rfl rfl ag46 rfl (by first | exact at0 | exact at1 | exact at2 | exact at3 | exact at4 | exact at5 | exact at6) (by with_reducible first | exact get_T _ | exact get_C _ | exact get_D _ | exact get_R _ | exact el_T _ _ (by omega) | exact el_C _ _ (by omega) | exact tc_el _ _ (by omega) | exact cc_el _ _ (by omega) | exact whole _) (by with_reducible first | exact mc_size _ | exact tc_size _ | exact cc_size _ | exact dc_size _ | exact rc_size _ | exact sz1 | exact sz2 | exact sz3 | exact sz4)) ?_
   with_reducible rfl
  rotate_left
  ·simp only [PrintLast.putAll, Act.put, List.setIfInBounds_toArray, List.set_cons_zero, List.set_cons_succ, Nat.zero_add, Nat.add_zero, Nat.mul_one, Int.toNat_natCast]
   rfl
  refine PrintLast.take_ (i := 4) (oi := { dst := some 61, op := Go.Op.load 61 (Go.Operand.tmp 7), type := 61, pos := "l6_act.go:61", after := #[], guard := none }) (N := some 61) (v := ?_) (a' := ?_) #[true, true, false, true, true, false, false, false] rfl rfl (by kernel_rfl) (fun _ _ _ h => h) (Or.inl ⟨by rfl, ?_⟩) hHeld ?_ ?_
  rotate_left
  ·intro w' hS
   refine Eq.trans (run_load_seg hS rfl rfl ag61 rfl (by first | exact at0 | exact at1 | exact at2 | exact at3 | exact at4 | exact at5 | exact at6) (by with_reducible first | exact get_T _ | exact get_C _ | exact get_D _ | exact get_R _ | exact el_T _ _ (by omega) | exact el_C _ _ (by omega) | exact tc_el _ _ (by omega) | exact cc_el _ _ (by omega) | exact whole _) (by with_reducible first | exact mc_size _ | exact tc_size _ | exact cc_size _ | exact dc_size _ | exact rc_size _ | exact sz1 | exact sz2 | exact sz3 | exact sz4)) ?_
   with_reducible rfl
  rotate_left
  ·simp only [PrintLast.putAll, Act.put, List.setIfInBounds_toArray, List.set_cons_zero, List.set_cons_succ, Nat.zero_add, Nat.add_zero, Nat.mul_one, Int.toNat_natCast]
   rfl
  refine PrintLast.one_ (i := 2) (oi := { dst := some 59, op := Go.Op.call { callee := Go.Callee.value (Go.Operand.func 29), args := #[Go.Operand.tmp 57, Go.Operand.tmp 58], argTypes := #[46, 61] }, type := 4, pos := "l6_act.go:61", after := #[{ on := 0, ground := Go.Ground.data }, { on := 1, ground := Go.Ground.data }], guard := none }) (N := some 59) #[true, true, true, true, true, false, false, false] rfl rfl (by kernel_rfl) (by decide) ?_
  intro K hK
  refine step_callr (wanted_of rfl) HS.out rfl rfl Tryd.func29 (by kernel_rfl) rfl (by (try simp only [List.map_toArray, List.map_cons, List.map_nil]); first | done | rfl) (c_MemBitE m wf _ _ _ b1 hb1 _ (HTT.out.below HS.out.below)) ?_
  intro W_ HP; clear hHeld; clear HS; have HS := Aside0.mk HP; clear HP
  refine hK.out _ _ (HS.out) (fun hHeld => ?_)
  clear hK K
  refine PrintLast.norm_ (a' := ?_) ?_ ?_
  rotate_left
  ·show Act.put _ (some 59) _ = _
   simp only [PrintLast.putAll, Act.put, List.setIfInBounds_toArray, List.set_cons_zero, List.set_cons_succ, Nat.zero_add, Nat.add_zero, Nat.mul_one, Int.toNat_natCast]
   rfl
  refine PrintLast.one_ (i := 5) (oi := { dst := some 62, op := Go.Op.call { callee := Go.Callee.value (Go.Operand.func 30), args := #[Go.Operand.tmp 60, Go.Operand.tmp 61], argTypes := #[46, 61] }, type := 4, pos := "l6_act.go:61", after := #[{ on := 3, ground := Go.Ground.data }, { on := 4, ground := Go.Ground.data }, { on := 2, ground := Go.Ground.chain }], guard := none }) (N := some 62) #[true, true, true, true, true, true, false, false] rfl rfl (by kernel_rfl) (by decide) ?_
  intro K hK
  refine step_callr (wanted_of rfl) HS.out rfl rfl Tryd.func30 (by kernel_rfl) rfl (by (try simp only [List.map_toArray, List.map_cons, List.map_nil]); first | done | rfl) (c_wasE m wf _ _ _ b2 hb2 _ (HTT.out.below HS.out.below)) ?_
  intro W_ HP; clear hHeld; clear HS; have HS := Aside0.mk HP; clear HP
  refine hK.out _ _ (HS.out) (fun hHeld => ?_)
  clear hK K
  refine PrintLast.norm_ (a' := ?_) ?_ ?_
  rotate_left
  ·show Act.put _ (some 62) _ = _
   simp only [PrintLast.putAll, Act.put, List.setIfInBounds_toArray, List.set_cons_zero, List.set_cons_succ, Nat.zero_add, Nat.add_zero, Nat.mul_one, Int.toNat_natCast]
   rfl
  refine PrintLast.pure_ (i := 6) (oi := { dst := some 10, op := Go.Op.assign (Go.Operand.tmp 59), type := 4, pos := "l6_act.go:61", after := #[{ on := 2, ground := Go.Ground.data }, { on := 5, ground := Go.Ground.chain }, { on := 0, ground := Go.Ground.phase }, { on := 1, ground := Go.Ground.phase }, { on := 2, ground := Go.Ground.phase }, { on := 3, ground := Go.Ground.textOnly Go.Departure.lateStores }, { on := 4, ground := Go.Ground.textOnly Go.Departure.lateStores }, { on := 5, ground := Go.Ground.textOnly Go.Departure.lateStoresUnsure }], guard := none }) (N := some 10) (v := ?_) (a' := ?_) #[true, true, true, true, true, true, true, false] rfl rfl (by kernel_rfl) (fun _ _ _ h => h) (Or.inl ⟨by rfl, ?_⟩) ?_ ?_
  rotate_left
  ·intro w'
   go_simp
   with_reducible rfl
  rotate_left
  ·simp only [PrintLast.putAll, Act.put, List.setIfInBounds_toArray, List.set_cons_zero, List.set_cons_succ, Nat.zero_add, Nat.add_zero, Nat.mul_one, Int.toNat_natCast]
   rfl
  refine PrintLast.pure_ (i := 7) (oi := { dst := some 11, op := Go.Op.assign (Go.Operand.tmp 62), type := 4, pos := "l6_act.go:61", after := #[{ on := 5, ground := Go.Ground.data }, { on := 6, ground := Go.Ground.chain }, { on := 0, ground := Go.Ground.phase }, { on := 1, ground := Go.Ground.phase }, { on := 2, ground := Go.Ground.phase }, { on := 3, ground := Go.Ground.phase }, { on := 4, ground := Go.Ground.phase }, { on := 5, ground := Go.Ground.phase }, { on := 6, ground := Go.Ground.phase }], guard := none }) (N := some 11) (v := ?_) (a' := ?_) #[true, true, true, true, true, true, true, true] rfl rfl (by kernel_rfl) (fun _ _ _ h => h) (Or.inl ⟨by rfl, ?_⟩) ?_ ?_
  rotate_left
  ·intro w'
   go_simp
   with_reducible rfl
  rotate_left
  ·simp only [PrintLast.putAll, Act.put, List.setIfInBounds_toArray, List.set_cons_zero, List.set_cons_succ, Nat.zero_add, Nat.add_zero, Nat.mul_one, Int.toNat_natCast]
   rfl
  refine PrintLast.done_ (by kernel_rfl) ?_
  clear hHeld
  clear hb1 hb2
  cases b1 <;> cases b2
  all_goals
   go_wp2_with ((first | ((with_reducible refine gate_dst (N := 66) rfl ?_); refine call_ev2 HS.out rfl rfl Tryd.func31 (by kernel_rfl) rfl (by (try simp only [List.map_toArray, List.map_cons, List.map_nil]); first | done | rfl) (c_keep _ wf _ _ _ _ _ (HTT.out.below HS.out.below)) ?_; rintro v_ W_ rfl HP HB_; clear HS; have HS := Aside0.mk HP; clear HP; clear HB_) | ((with_reducible refine gate_store (t := 46) (p := 4) rfl ?_); (with_reducible refine store_seg HS.out rfl rfl rfl ag46 rfl (by first | exact eval_tmp rfl | exact eval_const) (by first | exact at0 | exact at1 | exact at2 | exact at3 | exact at4 | exact at5 | exact at6) (by with_reducible first | exact tc_put _ _ (by omega) _ _ | exact cc_put _ _ (by omega) _ _ _ | exact dc_put _ _ (by omega) _ | exact rc_put _ _ (by omega) _ | exact lay_mc _ _ | exact lay_tc _ _ | exact lay_cc _ _ | exact lay_dc _ _ | exact lay_rc _ _ | exact lay2_0 | exact lay2_1 | exact lay3_0 | exact lay3_1 | exact lay3_2 | exact lay2_w | exact lay3_w) (by with_reducible first | exact mc_size _ | exact tc_size _ | exact cc_size _ | exact dc_size _ | exact rc_size _ | exact sz1 | exact sz2 | exact sz3 | exact sz4) (by simp only [mc_size, tc_size, cc_size, dc_size, rc_size, List.size_toArray, List.length_cons, List.length_nil]; omega) (by first | (with_reducible first | exact mc_one _ | exact tc_one _ | exact cc_one _ | exact dc_one _ | exact rc_one _ | exact t2_one _ _ | exact t3_one _ _ _) | (simp [Value.oneCell']; done)) ?_); intro W_ HP; clear HS; have HS := Aside0.mk HP; clear HP; (try simp only [List.set_cons_zero, List.set_cons_succ] at HS)) | ((with_reducible refine gate_dst (N := 63) rfl ?_); (with_reducible refine load_seg HS.out rfl rfl ag46 rfl (by first | exact at0 | exact at1 | exact at2 | exact at3 | exact at4 | exact at5 | exact at6) (by with_reducible first | exact tc_el _ _ (by omega) | exact cc_el _ _ (by omega) | exact whole _) (by with_reducible first | exact mc_size _ | exact tc_size _ | exact cc_size _ | exact dc_size _ | exact rc_size _ | exact sz1 | exact sz2 | exact sz3 | exact sz4) ?_)) | ((with_reducible refine gate_dst (N := 64) rfl ?_); (with_reducible refine load_seg HS.out rfl rfl ag61 rfl (by first | exact at0 | exact at1 | exact at2 | exact at3 | exact at4 | exact at5 | exact at6) (by with_reducible first | exact tc_el _ _ (by omega) | exact cc_el _ _ (by omega) | exact whole _) (by with_reducible first | exact mc_size _ | exact tc_size _ | exact cc_size _ | exact dc_size _ | exact rc_size _ | exact sz1 | exact sz2 | exact sz3 | exact sz4) ?_))); (try simp only [Act.put, List.setIfInBounds_toArray, List.set_cons_zero, List.set_cons_succ]))
   refine ret_agg_tmp HS.out (by rfl) (by rfl) (by rfl) (by first | exact at0 | exact at1 | exact at2 | exact at3 | exact at4 | exact at5 | exact at6) ag46 (by with_reducible first | exact mc_size _ | exact tc_size _ | exact cc_size _ | exact dc_size _ | exact rc_size _ | exact sz1 | exact sz2 | exact sz3 | exact sz4) ?_
   exact ⟨_, rfl, ⟨_, by rw [ht]; rfl, hT⟩, HS.out.below⟩
 have ht : tm m op d0 d1 = m := by unfold tm; rw [if_neg (by omega)]
 have hT0 : ∀ b, (if 5 ≤ op ∧ op ≤ 10 then (if isReal d0 = true then ∃ x y, Rl m d0.1 d0.2.1 d0.2.2 x ∧ Rl m d1.1 d1.2.1 d1.2.2 y ∧ b = cmpF (op - 4) x y else b = cmp (op - 4) (memwhole m d0.1 d0.2.1) (memwhole m d1.1 d1.2.1)) else b = false) → Tb m op d0 d1 b := fun b h => by unfold Tb; rw [if_neg c1, if_neg c2, if_neg c3, if_neg c4]; exact h
 have ho : op - 4 = op - 5 + 1 := by omega
 rw [ho] at hT0
 have n1 : (op == 1) = false := beq_eq_false_iff_ne.mpr c1
 have n2 : (op == 2) = false := beq_eq_false_iff_ne.mpr c2
 have n3 : (op == 3) = false := beq_eq_false_iff_ne.mpr c3
 have n4 : (op == 4) = false := beq_eq_false_iff_ne.mpr c4
 clear ho c1 c2 c3 c4
 by_cases c5 : 5 ≤ op ∧ op ≤ 10
 ·have w1 : wrap64 (op - 5) = op - 5 := by unfold wrap64; omega
  have w2 : wrap64 (op - 5 + 1) = op - 5 + 1 := by unfold wrap64; omega
  have hin : decide (5 ≤ op ∧ op ≤ 10) = true := decide_eq_true c5
  rcases (show (isReal d0 = true ∧ ((d0.1 == 10) = true ∨ ((d0.1 == 10) = false ∧ (d0.1 == 12) = true) ∨ ((d0.1 == 10) = false ∧ (d0.1 == 12) = false ∧ (d0.1 == 13) = true))) ∨ (isReal d0 ≠ true ∧ (d0.1 == 10) = false ∧ (d0.1 == 12) = false ∧ (d0.1 == 13) = false) from by unfold isReal; simp only [beq_iff_eq, beq_eq_false_iff_ne, decide_eq_true_eq, ne_eq]; omega) with ⟨hr, hk⟩ | ⟨hr, e10, e12, e13⟩
  ·rcases hk with e10 | ⟨e10, e12⟩ | ⟨e10, e12, e13⟩
   case' inl => go_wp2_with ((first | ((with_reducible refine gate_dst (N := 75) rfl ?_); refine call_ev2 HS.out rfl rfl Tryd.func32 (by kernel_rfl) rfl (by (try simp only [List.map_toArray, List.map_cons, List.map_nil]); first | done | rfl) (c_inE _ _ _ _ hin _) ?_; rintro v_ W_ rfl HP HB_; clear HS; have HS := Aside0.mk HP; clear HP; clear HB_) | ((with_reducible refine gate_dst (N := 18) rfl ?_); (with_reducible refine field_at rfl rfl rfl fo52_0 ?_); (try simp only [toNat_16, toNat_12, Int.toNat_natCast, Nat.zero_add, Nat.add_zero, Nat.mul_one])) | ((with_reducible refine gate_dst (N := 19) rfl ?_); (with_reducible refine load_one HS.out rfl rfl on3 rfl (by first | exact at0 | exact at1 | exact at2 | exact at3 | exact at4 | exact at5 | exact at6) (by with_reducible first | exact dc_get _ _ (by omega) | exact rc_get _ _ (by omega) | exact at0a | exact at1a | exact at2a | exact at3a) ?_)) | ((with_reducible refine gate_dst (N := 26) rfl ?_); (with_reducible refine field_at rfl rfl rfl fo52_0 ?_); (try simp only [toNat_16, toNat_12, Int.toNat_natCast, Nat.zero_add, Nat.add_zero, Nat.mul_one])) | ((with_reducible refine gate_dst (N := 27) rfl ?_); (with_reducible refine load_one HS.out rfl rfl on3 rfl (by first | exact at0 | exact at1 | exact at2 | exact at3 | exact at4 | exact at5 | exact at6) (by with_reducible first | exact dc_get _ _ (by omega) | exact rc_get _ _ (by omega) | exact at0a | exact at1a | exact at2a | exact at3a) ?_)) | ((with_reducible refine gate_dst (N := 35) rfl ?_); (with_reducible refine field_at rfl rfl rfl fo52_0 ?_); (try simp only [toNat_16, toNat_12, Int.toNat_natCast, Nat.zero_add, Nat.add_zero, Nat.mul_one])) | ((with_reducible refine gate_dst (N := 36) rfl ?_); (with_reducible refine load_one HS.out rfl rfl on3 rfl (by first | exact at0 | exact at1 | exact at2 | exact at3 | exact at4 | exact at5 | exact at6) (by with_reducible first | exact dc_get _ _ (by omega) | exact rc_get _ _ (by omega) | exact at0a | exact at1a | exact at2a | exact at3a) ?_)) | ((with_reducible refine gate_dst (N := 54) rfl ?_); (with_reducible refine field_at rfl rfl rfl fo52_0 ?_); (try simp only [toNat_16, toNat_12, Int.toNat_natCast, Nat.zero_add, Nat.add_zero, Nat.mul_one])) | ((with_reducible refine gate_dst (N := 55) rfl ?_); (with_reducible refine load_one HS.out rfl rfl on3 rfl (by first | exact at0 | exact at1 | exact at2 | exact at3 | exact at4 | exact at5 | exact at6) (by with_reducible first | exact dc_get _ _ (by omega) | exact rc_get _ _ (by omega) | exact at0a | exact at1a | exact at2a | exact at3a) ?_)) | ((with_reducible refine gate_dst (N := 73) rfl ?_); (with_reducible refine field_at rfl rfl rfl fo52_0 ?_); (try simp only [toNat_16, toNat_12, Int.toNat_natCast, Nat.zero_add, Nat.add_zero, Nat.mul_one])) | ((with_reducible refine gate_dst (N := 74) rfl ?_); (with_reducible refine load_one HS.out rfl rfl on3 rfl (by first | exact at0 | exact at1 | exact at2 | exact at3 | exact at4 | exact at5 | exact at6) (by with_reducible first | exact dc_get _ _ (by omega) | exact rc_get _ _ (by omega) | exact at0a | exact at1a | exact at2a | exact at3a) ?_)) | ((with_reducible refine gate_dst (N := 76) rfl ?_); (with_reducible refine field_at rfl rfl rfl fo52_0 ?_); (try simp only [toNat_16, toNat_12, Int.toNat_natCast, Nat.zero_add, Nat.add_zero, Nat.mul_one])) | ((with_reducible refine gate_dst (N := 77) rfl ?_); (with_reducible refine load_one HS.out rfl rfl on3 rfl (by first | exact at0 | exact at1 | exact at2 | exact at3 | exact at4 | exact at5 | exact at6) (by with_reducible first | exact dc_get _ _ (by omega) | exact rc_get _ _ (by omega) | exact at0a | exact at1a | exact at2a | exact at3a) ?_)) | ((with_reducible refine gate_dst (N := 80) rfl ?_); (with_reducible refine field_at rfl rfl rfl fo61_0 ?_); (try simp only [toNat_16, toNat_12, Int.toNat_natCast, Nat.zero_add, Nat.add_zero, Nat.mul_one])) | ((with_reducible refine gate_dst (N := 81) rfl ?_); (with_reducible refine load_one HS.out rfl rfl on3 rfl (by first | exact at0 | exact at1 | exact at2 | exact at3 | exact at4 | exact at5 | exact at6) (by with_reducible first | exact dc_get _ _ (by omega) | exact rc_get _ _ (by omega) | exact at0a | exact at1a | exact at2a | exact at3a) ?_))); (try simp only [Act.put, List.setIfInBounds_toArray, List.set_cons_zero, List.set_cons_succ]))
   case' inr.inl => go_wp2_with ((first | ((with_reducible refine gate_dst (N := 75) rfl ?_); refine call_ev2 HS.out rfl rfl Tryd.func32 (by kernel_rfl) rfl (by (try simp only [List.map_toArray, List.map_cons, List.map_nil]); first | done | rfl) (c_inE _ _ _ _ hin _) ?_; rintro v_ W_ rfl HP HB_; clear HS; have HS := Aside0.mk HP; clear HP; clear HB_) | ((with_reducible refine gate_dst (N := 18) rfl ?_); (with_reducible refine field_at rfl rfl rfl fo52_0 ?_); (try simp only [toNat_16, toNat_12, Int.toNat_natCast, Nat.zero_add, Nat.add_zero, Nat.mul_one])) | ((with_reducible refine gate_dst (N := 19) rfl ?_); (with_reducible refine load_one HS.out rfl rfl on3 rfl (by first | exact at0 | exact at1 | exact at2 | exact at3 | exact at4 | exact at5 | exact at6) (by with_reducible first | exact dc_get _ _ (by omega) | exact rc_get _ _ (by omega) | exact at0a | exact at1a | exact at2a | exact at3a) ?_)) | ((with_reducible refine gate_dst (N := 26) rfl ?_); (with_reducible refine field_at rfl rfl rfl fo52_0 ?_); (try simp only [toNat_16, toNat_12, Int.toNat_natCast, Nat.zero_add, Nat.add_zero, Nat.mul_one])) | ((with_reducible refine gate_dst (N := 27) rfl ?_); (with_reducible refine load_one HS.out rfl rfl on3 rfl (by first | exact at0 | exact at1 | exact at2 | exact at3 | exact at4 | exact at5 | exact at6) (by with_reducible first | exact dc_get _ _ (by omega) | exact rc_get _ _ (by omega) | exact at0a | exact at1a | exact at2a | exact at3a) ?_)) | ((with_reducible refine gate_dst (N := 35) rfl ?_); (with_reducible refine field_at rfl rfl rfl fo52_0 ?_); (try simp only [toNat_16, toNat_12, Int.toNat_natCast, Nat.zero_add, Nat.add_zero, Nat.mul_one])) | ((with_reducible refine gate_dst (N := 36) rfl ?_); (with_reducible refine load_one HS.out rfl rfl on3 rfl (by first | exact at0 | exact at1 | exact at2 | exact at3 | exact at4 | exact at5 | exact at6) (by with_reducible first | exact dc_get _ _ (by omega) | exact rc_get _ _ (by omega) | exact at0a | exact at1a | exact at2a | exact at3a) ?_)) | ((with_reducible refine gate_dst (N := 54) rfl ?_); (with_reducible refine field_at rfl rfl rfl fo52_0 ?_); (try simp only [toNat_16, toNat_12, Int.toNat_natCast, Nat.zero_add, Nat.add_zero, Nat.mul_one])) | ((with_reducible refine gate_dst (N := 55) rfl ?_); (with_reducible refine load_one HS.out rfl rfl on3 rfl (by first | exact at0 | exact at1 | exact at2 | exact at3 | exact at4 | exact at5 | exact at6) (by with_reducible first | exact dc_get _ _ (by omega) | exact rc_get _ _ (by omega) | exact at0a | exact at1a | exact at2a | exact at3a) ?_)) | ((with_reducible refine gate_dst (N := 73) rfl ?_); (with_reducible refine field_at rfl rfl rfl fo52_0 ?_); (try simp only [toNat_16, toNat_12, Int.toNat_natCast, Nat.zero_add, Nat.add_zero, Nat.mul_one])) | ((with_reducible refine gate_dst (N := 74) rfl ?_); (with_reducible refine load_one HS.out rfl rfl on3 rfl (by first | exact at0 | exact at1 | exact at2 | exact at3 | exact at4 | exact at5 | exact at6) (by with_reducible first | exact dc_get _ _ (by omega) | exact rc_get _ _ (by omega) | exact at0a | exact at1a | exact at2a | exact at3a) ?_)) | ((with_reducible refine gate_dst (N := 76) rfl ?_); (with_reducible refine field_at rfl rfl rfl fo52_0 ?_); (try simp only [toNat_16, toNat_12, Int.toNat_natCast, Nat.zero_add, Nat.add_zero, Nat.mul_one])) | ((with_reducible refine gate_dst (N := 77) rfl ?_); (with_reducible refine load_one HS.out rfl rfl on3 rfl (by first | exact at0 | exact at1 | exact at2 | exact at3 | exact at4 | exact at5 | exact at6) (by with_reducible first | exact dc_get _ _ (by omega) | exact rc_get _ _ (by omega) | exact at0a | exact at1a | exact at2a | exact at3a) ?_)) | ((with_reducible refine gate_dst (N := 80) rfl ?_); (with_reducible refine field_at rfl rfl rfl fo61_0 ?_); (try simp only [toNat_16, toNat_12, Int.toNat_natCast, Nat.zero_add, Nat.add_zero, Nat.mul_one])) | ((with_reducible refine gate_dst (N := 81) rfl ?_); (with_reducible refine load_one HS.out rfl rfl on3 rfl (by first | exact at0 | exact at1 | exact at2 | exact at3 | exact at4 | exact at5 | exact at6) (by with_reducible first | exact dc_get _ _ (by omega) | exact rc_get _ _ (by omega) | exact at0a | exact at1a | exact at2a | exact at3a) ?_)) | ((with_reducible refine gate_dst (N := 84) rfl ?_); refine ungate (by rfl) ?_; (with_reducible refine field_at rfl rfl rfl fo61_0 ?_); (try simp only [toNat_16, toNat_12, Int.toNat_natCast, Nat.zero_add, Nat.add_zero, Nat.mul_one])) | ((with_reducible refine gate_dst (N := 85) rfl ?_); refine ungate (by rfl) ?_; (with_reducible refine load_one HS.out rfl rfl on3 rfl (by first | exact at0 | exact at1 | exact at2 | exact at3 | exact at4 | exact at5 | exact at6) (by with_reducible first | exact dc_get _ _ (by omega) | exact rc_get _ _ (by omega) | exact at0a | exact at1a | exact at2a | exact at3a) ?_))); (try simp only [Act.put, List.setIfInBounds_toArray, List.set_cons_zero, List.set_cons_succ]))
   case' inr.inr => go_wp2_with ((first | ((with_reducible refine gate_dst (N := 75) rfl ?_); refine call_ev2 HS.out rfl rfl Tryd.func32 (by kernel_rfl) rfl (by (try simp only [List.map_toArray, List.map_cons, List.map_nil]); first | done | rfl) (c_inE _ _ _ _ hin _) ?_; rintro v_ W_ rfl HP HB_; clear HS; have HS := Aside0.mk HP; clear HP; clear HB_) | ((with_reducible refine gate_dst (N := 18) rfl ?_); (with_reducible refine field_at rfl rfl rfl fo52_0 ?_); (try simp only [toNat_16, toNat_12, Int.toNat_natCast, Nat.zero_add, Nat.add_zero, Nat.mul_one])) | ((with_reducible refine gate_dst (N := 19) rfl ?_); (with_reducible refine load_one HS.out rfl rfl on3 rfl (by first | exact at0 | exact at1 | exact at2 | exact at3 | exact at4 | exact at5 | exact at6) (by with_reducible first | exact dc_get _ _ (by omega) | exact rc_get _ _ (by omega) | exact at0a | exact at1a | exact at2a | exact at3a) ?_)) | ((with_reducible refine gate_dst (N := 26) rfl ?_); (with_reducible refine field_at rfl rfl rfl fo52_0 ?_); (try simp only [toNat_16, toNat_12, Int.toNat_natCast, Nat.zero_add, Nat.add_zero, Nat.mul_one])) | ((with_reducible refine gate_dst (N := 27) rfl ?_); (with_reducible refine load_one HS.out rfl rfl on3 rfl (by first | exact at0 | exact at1 | exact at2 | exact at3 | exact at4 | exact at5 | exact at6) (by with_reducible first | exact dc_get _ _ (by omega) | exact rc_get _ _ (by omega) | exact at0a | exact at1a | exact at2a | exact at3a) ?_)) | ((with_reducible refine gate_dst (N := 35) rfl ?_); (with_reducible refine field_at rfl rfl rfl fo52_0 ?_); (try simp only [toNat_16, toNat_12, Int.toNat_natCast, Nat.zero_add, Nat.add_zero, Nat.mul_one])) | ((with_reducible refine gate_dst (N := 36) rfl ?_); (with_reducible refine load_one HS.out rfl rfl on3 rfl (by first | exact at0 | exact at1 | exact at2 | exact at3 | exact at4 | exact at5 | exact at6) (by with_reducible first | exact dc_get _ _ (by omega) | exact rc_get _ _ (by omega) | exact at0a | exact at1a | exact at2a | exact at3a) ?_)) | ((with_reducible refine gate_dst (N := 54) rfl ?_); (with_reducible refine field_at rfl rfl rfl fo52_0 ?_); (try simp only [toNat_16, toNat_12, Int.toNat_natCast, Nat.zero_add, Nat.add_zero, Nat.mul_one])) | ((with_reducible refine gate_dst (N := 55) rfl ?_); (with_reducible refine load_one HS.out rfl rfl on3 rfl (by first | exact at0 | exact at1 | exact at2 | exact at3 | exact at4 | exact at5 | exact at6) (by with_reducible first | exact dc_get _ _ (by omega) | exact rc_get _ _ (by omega) | exact at0a | exact at1a | exact at2a | exact at3a) ?_)) | ((with_reducible refine gate_dst (N := 73) rfl ?_); (with_reducible refine field_at rfl rfl rfl fo52_0 ?_); (try simp only [toNat_16, toNat_12, Int.toNat_natCast, Nat.zero_add, Nat.add_zero, Nat.mul_one])) | ((with_reducible refine gate_dst (N := 74) rfl ?_); (with_reducible refine load_one HS.out rfl rfl on3 rfl (by first | exact at0 | exact at1 | exact at2 | exact at3 | exact at4 | exact at5 | exact at6) (by with_reducible first | exact dc_get _ _ (by omega) | exact rc_get _ _ (by omega) | exact at0a | exact at1a | exact at2a | exact at3a) ?_)) | ((with_reducible refine gate_dst (N := 76) rfl ?_); (with_reducible refine field_at rfl rfl rfl fo52_0 ?_); (try simp only [toNat_16, toNat_12, Int.toNat_natCast, Nat.zero_add, Nat.add_zero, Nat.mul_one])) | ((with_reducible refine gate_dst (N := 77) rfl ?_); (with_reducible refine load_one HS.out rfl rfl on3 rfl (by first | exact at0 | exact at1 | exact at2 | exact at3 | exact at4 | exact at5 | exact at6) (by with_reducible first | exact dc_get _ _ (by omega) | exact rc_get _ _ (by omega) | exact at0a | exact at1a | exact at2a | exact at3a) ?_)) | ((with_reducible refine gate_dst (N := 80) rfl ?_); (with_reducible refine field_at rfl rfl rfl fo61_0 ?_); (try simp only [toNat_16, toNat_12, Int.toNat_natCast, Nat.zero_add, Nat.add_zero, Nat.mul_one])) | ((with_reducible refine gate_dst (N := 81) rfl ?_); (with_reducible refine load_one HS.out rfl rfl on3 rfl (by first | exact at0 | exact at1 | exact at2 | exact at3 | exact at4 | exact at5 | exact at6) (by with_reducible first | exact dc_get _ _ (by omega) | exact rc_get _ _ (by omega) | exact at0a | exact at1a | exact at2a | exact at3a) ?_)) | ((with_reducible refine gate_dst (N := 84) rfl ?_); refine ungate (by rfl) ?_; (with_reducible refine field_at rfl rfl rfl fo61_0 ?_); (try simp only [toNat_16, toNat_12, Int.toNat_natCast, Nat.zero_add, Nat.add_zero, Nat.mul_one])) | ((with_reducible refine gate_dst (N := 85) rfl ?_); refine ungate (by rfl) ?_; (with_reducible refine load_one HS.out rfl rfl on3 rfl (by first | exact at0 | exact at1 | exact at2 | exact at3 | exact at4 | exact at5 | exact at6) (by with_reducible first | exact dc_get _ _ (by omega) | exact rc_get _ _ (by omega) | exact at0a | exact at1a | exact at2a | exact at3a) ?_)) | ((with_reducible refine gate_dst (N := 89) rfl ?_); refine ungate (by rfl) ?_; (with_reducible refine field_at rfl rfl rfl fo61_0 ?_); (try simp only [toNat_16, toNat_12, Int.toNat_natCast, Nat.zero_add, Nat.add_zero, Nat.mul_one])) | ((with_reducible refine gate_dst (N := 90) rfl ?_); refine ungate (by rfl) ?_; (with_reducible refine load_one HS.out rfl rfl on3 rfl (by first | exact at0 | exact at1 | exact at2 | exact at3 | exact at4 | exact at5 | exact at6) (by with_reducible first | exact dc_get _ _ (by omega) | exact rc_get _ _ (by omega) | exact at0a | exact at1a | exact at2a | exact at3a) ?_))); (try simp only [Act.put, List.setIfInBounds_toArray, List.set_cons_zero, List.set_cons_succ]))
   all_goals
    refine start_R (LS := _) (n := 11) #[false, false, false, false, false, false, false, false, false, false, false] HS.out (by kernel_rfl) rfl rfl (fun W_ HSS => (Priv.rm3 HSS)) ?_
    intro W_ HP hHeld; clear HS; have HS := Aside0.mk HP; clear HP
    refine PrintLast.take_ (i := 0) (oi := { dst := some 93, op := Go.Op.load 46 (Go.Operand.tmp 2), type := 46, pos := "l6_act.go:66", after := #[], guard := none }) (N := some 93) (v := ?_) (a' := ?_) #[true, false, false, false, false, false, false, false, false, false, false] rfl rfl (by kernel_rfl) (fun _ _ _ h => h) (Or.inl ⟨by rfl, ?_⟩) hHeld ?_ ?_
    rotate_left
    ·intro w' hS
     refine Eq.trans (run_load_seg hS rfl rfl ag46 rfl (by first | exact at0 | exact at1 | exact at2 | exact at3 | exact at4 | exact at5 | exact at6) (by with_reducible first | exact get_T _ | exact get_C _ | exact get_D _ | exact get_R _ | exact el_T _ _ (by omega) | exact el_C _ _ (by omega) | exact tc_el _ _ (by omega) | exact cc_el _ _ (by omega) | exact whole _) (by with_reducible first | exact mc_size _ | exact tc_size _ | exact cc_size _ | exact dc_size _ | exact rc_size _ | exact sz1 | exact sz2 | exact sz3 | exact sz4)) ?_
     with_reducible rfl
    rotate_left
    ·simp only [PrintLast.putAll, Act.put, List.setIfInBounds_toArray, List.set_cons_zero, List.set_cons_succ, Nat.zero_add, Nat.add_zero, Nat.mul_one, Int.toNat_natCast]
     rfl
    refine PrintLast.pure_ (i := 1) (oi := { dst := some 94, op := Go.Op.move (Go.Operand.tmp 12), type := 3, pos := "l6_act.go:66", after := #[], guard := none }) (N := some 94) (v := ?_) (a' := ?_) #[true, true, false, false, false, false, false, false, false, false, false] rfl rfl (by kernel_rfl) (fun _ _ _ h => h) (Or.inl ⟨by rfl, ?_⟩) ?_ ?_
    rotate_left
    ·intro w'
     go_simp
     with_reducible rfl
    rotate_left
    ·simp only [PrintLast.putAll, Act.put, List.setIfInBounds_toArray, List.set_cons_zero, List.set_cons_succ, Nat.zero_add, Nat.add_zero, Nat.mul_one, Int.toNat_natCast]
     rfl
    refine PrintLast.take_ (i := 2) (oi := { dst := some 95, op := Go.Op.load 46 (Go.Operand.tmp 2), type := 46, pos := "l6_act.go:66", after := #[], guard := none }) (N := some 95) (v := ?_) (a' := ?_) #[true, true, true, false, false, false, false, false, false, false, false] rfl rfl (by kernel_rfl) (fun _ _ _ h => h) (Or.inl ⟨by rfl, ?_⟩) hHeld ?_ ?_
    rotate_left
    ·intro w' hS
     refine Eq.trans (run_load_seg hS rfl rfl ag46 rfl (by first | exact at0 | exact at1 | exact at2 | exact at3 | exact at4 | exact at5 | exact at6) (by with_reducible first | exact get_T _ | exact get_C _ | exact get_D _ | exact get_R _ | exact el_T _ _ (by omega) | exact el_C _ _ (by omega) | exact tc_el _ _ (by omega) | exact cc_el _ _ (by omega) | exact whole _) (by with_reducible first | exact mc_size _ | exact tc_size _ | exact cc_size _ | exact dc_size _ | exact rc_size _ | exact sz1 | exact sz2 | exact sz3 | exact sz4)) ?_
     with_reducible rfl
    rotate_left
    ·simp only [PrintLast.putAll, Act.put, List.setIfInBounds_toArray, List.set_cons_zero, List.set_cons_succ, Nat.zero_add, Nat.add_zero, Nat.mul_one, Int.toNat_natCast]
     rfl
    refine PrintLast.take_ (i := 3) (oi := { dst := some 96, op := Go.Op.load 61 (Go.Operand.tmp 6), type := 61, pos := "l6_act.go:66", after := #[], guard := none }) (N := some 96) (v := ?_) (a' := ?_) #[true, true, true, true, false, false, false, false, false, false, false] rfl rfl (by kernel_rfl) (fun _ _ _ h => h) (Or.inl ⟨by rfl, ?_⟩) hHeld ?_ ?_
    rotate_left
    ·intro w' hS
     refine Eq.trans (run_load_seg hS rfl rfl ag61 rfl (by first | exact at0 | exact at1 | exact at2 | exact at3 | exact at4 | exact at5 | exact at6) (by with_reducible first | exact get_T _ | exact get_C _ | exact get_D _ | exact get_R _ | exact el_T _ _ (by omega) | exact el_C _ _ (by omega) | exact tc_el _ _ (by omega) | exact cc_el _ _ (by omega) | exact whole _) (by with_reducible first | exact mc_size _ | exact tc_size _ | exact cc_size _ | exact dc_size _ | exact rc_size _ | exact sz1 | exact sz2 | exact sz3 | exact sz4)) ?_
     with_reducible rfl
    rotate_left
    ·simp only [PrintLast.putAll, Act.put, List.setIfInBounds_toArray, List.set_cons_zero, List.set_cons_succ, Nat.zero_add, Nat.add_zero, Nat.mul_one, Int.toNat_natCast]
     rfl
    refine PrintLast.take_ (i := 5) (oi := { dst := some 98, op := Go.Op.load 46 (Go.Operand.tmp 2), type := 46, pos := "l6_act.go:66", after := #[], guard := none }) (N := some 98) (v := ?_) (a' := ?_) #[true, true, true, true, false, true, false, false, false, false, false] rfl rfl (by kernel_rfl) (fun _ _ _ h => h) (Or.inl ⟨by rfl, ?_⟩) hHeld ?_ ?_
    rotate_left
    ·intro w' hS
     refine Eq.trans (run_load_seg hS rfl rfl ag46 rfl (by first | exact at0 | exact at1 | exact at2 | exact at3 | exact at4 | exact at5 | exact at6) (by with_reducible first | exact get_T _ | exact get_C _ | exact get_D _ | exact get_R _ | exact el_T _ _ (by omega) | exact el_C _ _ (by omega) | exact tc_el _ _ (by omega) | exact cc_el _ _ (by omega) | exact whole _) (by with_reducible first | exact mc_size _ | exact tc_size _ | exact cc_size _ | exact dc_size _ | exact rc_size _ | exact sz1 | exact sz2 | exact sz3 | exact sz4)) ?_
     with_reducible rfl
    rotate_left
    ·simp only [PrintLast.putAll, Act.put, List.setIfInBounds_toArray, List.set_cons_zero, List.set_cons_succ, Nat.zero_add, Nat.add_zero, Nat.mul_one, Int.toNat_natCast]
     rfl
    refine PrintLast.take_ (i := 6) (oi := { dst := some 99, op := Go.Op.load 61 (Go.Operand.tmp 7), type := 61, pos := "l6_act.go:66", after := #[], guard := none }) (N := some 99) (v := ?_) (a' := ?_) #[true, true, true, true, false, true, true, false, false, false, false] rfl rfl (by kernel_rfl) (fun _ _ _ h => h) (Or.inl ⟨by rfl, ?_⟩) hHeld ?_ ?_
    rotate_left
    ·intro w' hS
     refine Eq.trans (run_load_seg hS rfl rfl ag61 rfl (by first | exact at0 | exact at1 | exact at2 | exact at3 | exact at4 | exact at5 | exact at6) (by with_reducible first | exact get_T _ | exact get_C _ | exact get_D _ | exact get_R _ | exact el_T _ _ (by omega) | exact el_C _ _ (by omega) | exact tc_el _ _ (by omega) | exact cc_el _ _ (by omega) | exact whole _) (by with_reducible first | exact mc_size _ | exact tc_size _ | exact cc_size _ | exact dc_size _ | exact rc_size _ | exact sz1 | exact sz2 | exact sz3 | exact sz4)) ?_
     with_reducible rfl
    rotate_left
    ·simp only [PrintLast.putAll, Act.put, List.setIfInBounds_toArray, List.set_cons_zero, List.set_cons_succ, Nat.zero_add, Nat.add_zero, Nat.mul_one, Int.toNat_natCast]
     rfl
    refine PrintLast.one_ (i := 4) (oi := { dst := some 97, op := Go.Op.call { callee := Go.Callee.value (Go.Operand.func 34), args := #[Go.Operand.tmp 95, Go.Operand.tmp 96], argTypes := #[46, 61] }, type := 33, pos := "l6_act.go:66", after := #[{ on := 2, ground := Go.Ground.data }, { on := 3, ground := Go.Ground.data }], guard := none }) (N := some 97) #[true, true, true, true, true, true, true, false, false, false, false] rfl rfl (by kernel_rfl) (by decide) ?_
    intro K hK
    refine step_callx (wanted_of rfl) HS.out rfl rfl Tryd.func34 (by kernel_rfl) rfl (by (try simp only [List.map_toArray, List.map_cons, List.map_nil]); first | done | rfl) (c_MemReal m _ _ _ _ (HT.out.below HS.out.below)) ?_
    rintro v_ W_ ⟨x4, rfl, hx4⟩ HP; clear hHeld; clear HS; have HS := Aside0.mk HP; clear HP
    refine hK.out _ _ ((Priv.rm3 HS.out)) (fun hHeld => ?_)
    clear hK K
    refine PrintLast.norm_ (a' := ?_) ?_ ?_
    rotate_left
    ·show Act.put _ (some 97) _ = _
     simp only [PrintLast.putAll, Act.put, List.setIfInBounds_toArray, List.set_cons_zero, List.set_cons_succ, Nat.zero_add, Nat.add_zero, Nat.mul_one, Int.toNat_natCast]
     rfl
    refine PrintLast.one_ (i := 7) (oi := { dst := some 100, op := Go.Op.call { callee := Go.Callee.value (Go.Operand.func 34), args := #[Go.Operand.tmp 98, Go.Operand.tmp 99], argTypes := #[46, 61] }, type := 33, pos := "l6_act.go:66", after := #[{ on := 5, ground := Go.Ground.data }, { on := 6, ground := Go.Ground.data }, { on := 4, ground := Go.Ground.chain }], guard := none }) (N := some 100) #[true, true, true, true, true, true, true, true, false, false, false] rfl rfl (by kernel_rfl) (by decide) ?_
    intro K hK
    refine step_callx (wanted_of rfl) HS.out rfl rfl Tryd.func34 (by kernel_rfl) rfl (by (try simp only [List.map_toArray, List.map_cons, List.map_nil]); first | done | rfl) (c_MemReal m _ _ _ _ (HT.out.below HS.out.below)) ?_
    rintro v_ W_ ⟨x7, rfl, hx7⟩ HP; clear hHeld; clear HS; have HS := Aside0.mk HP; clear HP
    refine hK.out _ _ ((Priv.rm3 HS.out)) (fun hHeld => ?_)
    clear hK K
    refine PrintLast.norm_ (a' := ?_) ?_ ?_
    rotate_left
    ·show Act.put _ (some 100) _ = _
     simp only [PrintLast.putAll, Act.put, List.setIfInBounds_toArray, List.set_cons_zero, List.set_cons_succ, Nat.zero_add, Nat.add_zero, Nat.mul_one, Int.toNat_natCast]
     rfl
    refine PrintLast.one_ (i := 8) (oi := { dst := some 101, op := Go.Op.call { callee := Go.Callee.value (Go.Operand.func 33), args := #[Go.Operand.tmp 94, Go.Operand.tmp 97, Go.Operand.tmp 100], argTypes := #[3, 33, 33] }, type := 4, pos := "l6_act.go:66", after := #[{ on := 1, ground := Go.Ground.data }, { on := 4, ground := Go.Ground.data }, { on := 7, ground := Go.Ground.data }, { on := 7, ground := Go.Ground.chain }], guard := none }) (N := some 101) #[true, true, true, true, true, true, true, true, true, false, false] rfl rfl (by kernel_rfl) (by decide) ?_
    intro K hK
    refine step_callr (wanted_of rfl) HS.out rfl rfl Tryd.func33 (by kernel_rfl) rfl (by (try simp only [List.map_toArray, List.map_cons, List.map_nil]); first | done | rfl) (c_implRealCmp _ _ _ _) ?_
    intro W_ HP; clear hHeld; clear HS; have HS := Aside0.mk HP; clear HP
    refine hK.out _ _ ((Priv.rm3 HS.out)) (fun hHeld => ?_)
    clear hK K
    refine PrintLast.norm_ (a' := ?_) ?_ ?_
    rotate_left
    ·show Act.put _ (some 101) _ = _
     simp only [PrintLast.putAll, Act.put, List.setIfInBounds_toArray, List.set_cons_zero, List.set_cons_succ, Nat.zero_add, Nat.add_zero, Nat.mul_one, Int.toNat_natCast]
     rfl
    clear hHeld
    refine one_store (i := 9) (oi := { dst := none, op := Go.Op.store 46 (Go.Operand.tmp 4) (Go.Operand.tmp 93), type := 0, pos := "l6_act.go:66", after := #[{ on := 0, ground := Go.Ground.data }, { on := 8, ground := Go.Ground.chain }, { on := 0, ground := Go.Ground.phase }, { on := 1, ground := Go.Ground.textOnly Go.Departure.lateStores }, { on := 2, ground := Go.Ground.textOnly Go.Departure.lateStores }, { on := 3, ground := Go.Ground.textOnly Go.Departure.lateStores }, { on := 4, ground := Go.Ground.textOnly Go.Departure.lateStoresUnsure }, { on := 5, ground := Go.Ground.textOnly Go.Departure.lateStores }, { on := 6, ground := Go.Ground.textOnly Go.Departure.lateStores }, { on := 7, ground := Go.Ground.textOnly Go.Departure.lateStoresUnsure }, { on := 8, ground := Go.Ground.textOnly Go.Departure.lateStoresUnsure }], guard := none }) #[true, true, true, true, true, true, true, true, true, true, false] rfl rfl (by kernel_rfl) (by decide) (wanted_of rfl) HS.out rfl ag46 rfl (by first | exact eval_tmp rfl | exact eval_const) (by first | exact at0 | exact at1 | exact at2 | exact at3 | exact at4 | exact at5 | exact at6) (by with_reducible first | exact set_X _ _ | exact set_Y _ _ | exact set_M _ _ | exact set_S _ _ | exact set_E _ _ | exact set_Time _ _ | exact set_Ran _ _ | exact set_Fault _ _ | exact set_T _ _ | exact set_C _ _ | exact set_D _ _ | exact set_R _ _ | exact put_T _ _ (by omega) _ _ | exact put_C _ _ (by omega) _ _ _ | exact put_D _ _ (by omega) _ | exact put_R _ _ (by omega) _ | exact tc_put _ _ (by omega) _ _ | exact cc_put _ _ (by omega) _ _ _ | exact dc_put _ _ (by omega) _ | exact rc_put _ _ (by omega) _ | exact lay_mc _ _ | exact lay_tc _ _ | exact lay_cc _ _ | exact lay_dc _ _ | exact lay_rc _ _ | exact lay2_0 | exact lay2_1 | exact lay3_0 | exact lay3_1 | exact lay3_2 | exact lay2_w | exact lay3_w) (by with_reducible first | exact mc_size _ | exact tc_size _ | exact cc_size _ | exact dc_size _ | exact rc_size _ | exact sz1 | exact sz2 | exact sz3 | exact sz4) (by simp only [mc_size, tc_size, cc_size, dc_size, rc_size, List.size_toArray, List.length_cons, List.length_nil]; omega) (by first | (with_reducible first | exact mc_one _ | exact tc_one _ | exact cc_one _ | exact dc_one _ | exact rc_one _ | exact t2_one _ _ | exact t3_one _ _ _) | (simp [Value.oneCell']; done)) (fun W_ HSS => by simp only [List.set_cons_zero, List.set_cons_succ] at HSS; exact (Priv.rm3 HSS)) ?_
    intro W_ HP hHeld; clear HS; have HS := Aside0.mk HP; clear HP; (try simp only [List.set_cons_zero, List.set_cons_succ] at HS)
    refine PrintLast.pure_ (i := 10) (oi := { dst := some 5, op := Go.Op.assign (Go.Operand.tmp 101), type := 4, pos := "l6_act.go:66", after := #[{ on := 8, ground := Go.Ground.data }, { on := 9, ground := Go.Ground.chain }, { on := 0, ground := Go.Ground.phase }, { on := 1, ground := Go.Ground.phase }, { on := 2, ground := Go.Ground.phase }, { on := 3, ground := Go.Ground.phase }, { on := 4, ground := Go.Ground.phase }, { on := 5, ground := Go.Ground.phase }, { on := 6, ground := Go.Ground.phase }, { on := 7, ground := Go.Ground.phase }, { on := 8, ground := Go.Ground.phase }, { on := 9, ground := Go.Ground.phase }], guard := none }) (N := some 5) (v := ?_) (a' := ?_) #[true, true, true, true, true, true, true, true, true, true, true] rfl rfl (by kernel_rfl) (fun _ _ _ h => h) (Or.inl ⟨by rfl, ?_⟩) ?_ ?_
    rotate_left
    ·intro w'
     go_simp
     with_reducible rfl
    rotate_left
    ·simp only [PrintLast.putAll, Act.put, List.setIfInBounds_toArray, List.set_cons_zero, List.set_cons_succ, Nat.zero_add, Nat.add_zero, Nat.mul_one, Int.toNat_natCast]
     rfl
    refine PrintLast.done_ (by kernel_rfl) ?_
    clear hHeld
    go_wp2
    refine ret_agg_tmp HS.out (by rfl) (by rfl) (by rfl) (by first | exact at0 | exact at1 | exact at2 | exact at3 | exact at4 | exact at5 | exact at6) ag46 (by with_reducible first | exact mc_size _ | exact tc_size _ | exact cc_size _ | exact dc_size _ | exact rc_size _ | exact sz1 | exact sz2 | exact sz3 | exact sz4) ?_
    exact ⟨_, rfl, ⟨_, by rw [ht]; rfl, hT0 _ (by rw [if_pos c5, if_pos hr]; exact ⟨x4, x7, hx4, hx7, rfl⟩)⟩, HS.out.below⟩
  ·obtain ⟨i0, hi0⟩ : ∃ i, memwhole m d0.1 d0.2.1 = i := ⟨_, rfl⟩
   obtain ⟨i1, hi1⟩ : ∃ i, memwhole m d1.1 d1.2.1 = i := ⟨_, rfl⟩
   obtain ⟨b, hcmp⟩ : ∃ b, cmp (op - 5 + 1) i0 i1 = b := ⟨_, rfl⟩
   have hT : Tb m op d0 d1 b := hT0 _ (by rw [if_pos c5, if_neg hr, hi0, hi1, hcmp])
   go_wp2_with ((first | ((with_reducible refine gate_dst (N := 75) rfl ?_); refine call_ev2 HS.out rfl rfl Tryd.func32 (by kernel_rfl) rfl (by (try simp only [List.map_toArray, List.map_cons, List.map_nil]); first | done | rfl) (c_inE _ _ _ _ hin _) ?_; rintro v_ W_ rfl HP HB_; clear HS; have HS := Aside0.mk HP; clear HP; clear HB_) | ((with_reducible refine gate_dst (N := 18) rfl ?_); (with_reducible refine field_at rfl rfl rfl fo52_0 ?_); (try simp only [toNat_16, toNat_12, Int.toNat_natCast, Nat.zero_add, Nat.add_zero, Nat.mul_one])) | ((with_reducible refine gate_dst (N := 19) rfl ?_); (with_reducible refine load_one HS.out rfl rfl on3 rfl (by first | exact at0 | exact at1 | exact at2 | exact at3 | exact at4 | exact at5 | exact at6) (by with_reducible first | exact dc_get _ _ (by omega) | exact rc_get _ _ (by omega) | exact at0a | exact at1a | exact at2a | exact at3a) ?_)) | ((with_reducible refine gate_dst (N := 26) rfl ?_); (with_reducible refine field_at rfl rfl rfl fo52_0 ?_); (try simp only [toNat_16, toNat_12, Int.toNat_natCast, Nat.zero_add, Nat.add_zero, Nat.mul_one])) | ((with_reducible refine gate_dst (N := 27) rfl ?_); (with_reducible refine load_one HS.out rfl rfl on3 rfl (by first | exact at0 | exact at1 | exact at2 | exact at3 | exact at4 | exact at5 | exact at6) (by with_reducible first | exact dc_get _ _ (by omega) | exact rc_get _ _ (by omega) | exact at0a | exact at1a | exact at2a | exact at3a) ?_)) | ((with_reducible refine gate_dst (N := 35) rfl ?_); (with_reducible refine field_at rfl rfl rfl fo52_0 ?_); (try simp only [toNat_16, toNat_12, Int.toNat_natCast, Nat.zero_add, Nat.add_zero, Nat.mul_one])) | ((with_reducible refine gate_dst (N := 36) rfl ?_); (with_reducible refine load_one HS.out rfl rfl on3 rfl (by first | exact at0 | exact at1 | exact at2 | exact at3 | exact at4 | exact at5 | exact at6) (by with_reducible first | exact dc_get _ _ (by omega) | exact rc_get _ _ (by omega) | exact at0a | exact at1a | exact at2a | exact at3a) ?_)) | ((with_reducible refine gate_dst (N := 54) rfl ?_); (with_reducible refine field_at rfl rfl rfl fo52_0 ?_); (try simp only [toNat_16, toNat_12, Int.toNat_natCast, Nat.zero_add, Nat.add_zero, Nat.mul_one])) | ((with_reducible refine gate_dst (N := 55) rfl ?_); (with_reducible refine load_one HS.out rfl rfl on3 rfl (by first | exact at0 | exact at1 | exact at2 | exact at3 | exact at4 | exact at5 | exact at6) (by with_reducible first | exact dc_get _ _ (by omega) | exact rc_get _ _ (by omega) | exact at0a | exact at1a | exact at2a | exact at3a) ?_)) | ((with_reducible refine gate_dst (N := 73) rfl ?_); (with_reducible refine field_at rfl rfl rfl fo52_0 ?_); (try simp only [toNat_16, toNat_12, Int.toNat_natCast, Nat.zero_add, Nat.add_zero, Nat.mul_one])) | ((with_reducible refine gate_dst (N := 74) rfl ?_); (with_reducible refine load_one HS.out rfl rfl on3 rfl (by first | exact at0 | exact at1 | exact at2 | exact at3 | exact at4 | exact at5 | exact at6) (by with_reducible first | exact dc_get _ _ (by omega) | exact rc_get _ _ (by omega) | exact at0a | exact at1a | exact at2a | exact at3a) ?_)) | ((with_reducible refine gate_dst (N := 76) rfl ?_); (with_reducible refine field_at rfl rfl rfl fo52_0 ?_); (try simp only [toNat_16, toNat_12, Int.toNat_natCast, Nat.zero_add, Nat.add_zero, Nat.mul_one])) | ((with_reducible refine gate_dst (N := 77) rfl ?_); (with_reducible refine load_one HS.out rfl rfl on3 rfl (by first | exact at0 | exact at1 | exact at2 | exact at3 | exact at4 | exact at5 | exact at6) (by with_reducible first | exact dc_get _ _ (by omega) | exact rc_get _ _ (by omega) | exact at0a | exact at1a | exact at2a | exact at3a) ?_)) | ((with_reducible refine gate_dst (N := 80) rfl ?_); (with_reducible refine field_at rfl rfl rfl fo61_0 ?_); (try simp only [toNat_16, toNat_12, Int.toNat_natCast, Nat.zero_add, Nat.add_zero, Nat.mul_one])) | ((with_reducible refine gate_dst (N := 81) rfl ?_); (with_reducible refine load_one HS.out rfl rfl on3 rfl (by first | exact at0 | exact at1 | exact at2 | exact at3 | exact at4 | exact at5 | exact at6) (by with_reducible first | exact dc_get _ _ (by omega) | exact rc_get _ _ (by omega) | exact at0a | exact at1a | exact at2a | exact at3a) ?_)) | ((with_reducible refine gate_dst (N := 84) rfl ?_); refine ungate (by rfl) ?_; (with_reducible refine field_at rfl rfl rfl fo61_0 ?_); (try simp only [toNat_16, toNat_12, Int.toNat_natCast, Nat.zero_add, Nat.add_zero, Nat.mul_one])) | ((with_reducible refine gate_dst (N := 85) rfl ?_); refine ungate (by rfl) ?_; (with_reducible refine load_one HS.out rfl rfl on3 rfl (by first | exact at0 | exact at1 | exact at2 | exact at3 | exact at4 | exact at5 | exact at6) (by with_reducible first | exact dc_get _ _ (by omega) | exact rc_get _ _ (by omega) | exact at0a | exact at1a | exact at2a | exact at3a) ?_)) | ((with_reducible refine gate_dst (N := 89) rfl ?_); refine ungate (by rfl) ?_; (with_reducible refine field_at rfl rfl rfl fo61_0 ?_); (try simp only [toNat_16, toNat_12, Int.toNat_natCast, Nat.zero_add, Nat.add_zero, Nat.mul_one])) | ((with_reducible refine gate_dst (N := 90) rfl ?_); refine ungate (by rfl) ?_; (with_reducible refine load_one HS.out rfl rfl on3 rfl (by first | exact at0 | exact at1 | exact at2 | exact at3 | exact at4 | exact at5 | exact at6) (by with_reducible first | exact dc_get _ _ (by omega) | exact rc_get _ _ (by omega) | exact at0a | exact at1a | exact at2a | exact at3a) ?_))); (try simp only [Act.put, List.setIfInBounds_toArray, List.set_cons_zero, List.set_cons_succ]))
   refine start_R (LS := _) (n := 11) #[false, false, false, false, false, false, false, false, false, false, false] HS.out (by kernel_rfl) rfl rfl (fun W_ HSS => (Priv.rm3 HSS)) ?_
   intro W_ HP hHeld; clear HS; have HS := Aside0.mk HP; clear HP
   refine PrintLast.take_ (i := 0) (oi := { dst := some 102, op := Go.Op.load 46 (Go.Operand.tmp 2), type := 46, pos := "l6_act.go:68", after := #[], guard := none }) (N := some 102) (v := ?_) (a' := ?_) #[true, false, false, false, false, false, false, false, false, false, false] rfl rfl (by kernel_rfl) (fun _ _ _ h => h) (Or.inl ⟨by rfl, ?_⟩) hHeld ?_ ?_
   rotate_left
   ·intro w' hS
    refine Eq.trans (run_load_seg hS rfl rfl ag46 rfl (by first | exact at0 | exact at1 | exact at2 | exact at3 | exact at4 | exact at5 | exact at6) (by with_reducible first | exact get_T _ | exact get_C _ | exact get_D _ | exact get_R _ | exact el_T _ _ (by omega) | exact el_C _ _ (by omega) | exact tc_el _ _ (by omega) | exact cc_el _ _ (by omega) | exact whole _) (by with_reducible first | exact mc_size _ | exact tc_size _ | exact cc_size _ | exact dc_size _ | exact rc_size _ | exact sz1 | exact sz2 | exact sz3 | exact sz4)) ?_
    with_reducible rfl
   rotate_left
   ·simp only [PrintLast.putAll, Act.put, List.setIfInBounds_toArray, List.set_cons_zero, List.set_cons_succ, Nat.zero_add, Nat.add_zero, Nat.mul_one, Int.toNat_natCast]
    rfl
   refine PrintLast.pure_ (i := 1) (oi := { dst := some 103, op := Go.Op.move (Go.Operand.tmp 12), type := 3, pos := "l6_act.go:68", after := #[], guard := none }) (N := some 103) (v := ?_) (a' := ?_) #[true, true, false, false, false, false, false, false, false, false, false] rfl rfl (by kernel_rfl) (fun _ _ _ h => h) (Or.inl ⟨by rfl, ?_⟩) ?_ ?_
   rotate_left
   ·intro w'
    go_simp
    with_reducible rfl
   rotate_left
   ·simp only [PrintLast.putAll, Act.put, List.setIfInBounds_toArray, List.set_cons_zero, List.set_cons_succ, Nat.zero_add, Nat.add_zero, Nat.mul_one, Int.toNat_natCast]
    rfl
   refine PrintLast.take_ (i := 2) (oi := { dst := some 104, op := Go.Op.load 46 (Go.Operand.tmp 2), type := 46, pos := "l6_act.go:68", after := #[], guard := none }) (N := some 104) (v := ?_) (a' := ?_) #[true, true, true, false, false, false, false, false, false, false, false] rfl rfl (by kernel_rfl) (fun _ _ _ h => h) (Or.inl ⟨by rfl, ?_⟩) hHeld ?_ ?_
   rotate_left
   ·intro w' hS
    refine Eq.trans (run_load_seg hS rfl rfl ag46 rfl (by first | exact at0 | exact at1 | exact at2 | exact at3 | exact at4 | exact at5 | exact at6) (by with_reducible first | exact get_T _ | exact get_C _ | exact get_D _ | exact get_R _ | exact el_T _ _ (by omega) | exact el_C _ _ (by omega) | exact tc_el _ _ (by omega) | exact cc_el _ _ (by omega) | exact whole _) (by with_reducible first | exact mc_size _ | exact tc_size _ | exact cc_size _ | exact dc_size _ | exact rc_size _ | exact sz1 | exact sz2 | exact sz3 | exact sz4)) ?_
    with_reducible rfl
   rotate_left
   ·simp only [PrintLast.putAll, Act.put, List.setIfInBounds_toArray, List.set_cons_zero, List.set_cons_succ, Nat.zero_add, Nat.add_zero, Nat.mul_one, Int.toNat_natCast]
    rfl
   refine PrintLast.take_ (i := 3) (oi := { dst := some 105, op := Go.Op.load 61 (Go.Operand.tmp 6), type := 61, pos := "l6_act.go:68", after := #[], guard := none }) (N := some 105) (v := ?_) (a' := ?_) #[true, true, true, true, false, false, false, false, false, false, false] rfl rfl (by kernel_rfl) (fun _ _ _ h => h) (Or.inl ⟨by rfl, ?_⟩) hHeld ?_ ?_
   rotate_left
   ·intro w' hS
    refine Eq.trans (run_load_seg hS rfl rfl ag61 rfl (by first | exact at0 | exact at1 | exact at2 | exact at3 | exact at4 | exact at5 | exact at6) (by with_reducible first | exact get_T _ | exact get_C _ | exact get_D _ | exact get_R _ | exact el_T _ _ (by omega) | exact el_C _ _ (by omega) | exact tc_el _ _ (by omega) | exact cc_el _ _ (by omega) | exact whole _) (by with_reducible first | exact mc_size _ | exact tc_size _ | exact cc_size _ | exact dc_size _ | exact rc_size _ | exact sz1 | exact sz2 | exact sz3 | exact sz4)) ?_
    with_reducible rfl
   rotate_left
   ·simp only [PrintLast.putAll, Act.put, List.setIfInBounds_toArray, List.set_cons_zero, List.set_cons_succ, Nat.zero_add, Nat.add_zero, Nat.mul_one, Int.toNat_natCast]
    rfl
   refine PrintLast.take_ (i := 5) (oi := { dst := some 107, op := Go.Op.load 46 (Go.Operand.tmp 2), type := 46, pos := "l6_act.go:68", after := #[], guard := none }) (N := some 107) (v := ?_) (a' := ?_) #[true, true, true, true, false, true, false, false, false, false, false] rfl rfl (by kernel_rfl) (fun _ _ _ h => h) (Or.inl ⟨by rfl, ?_⟩) hHeld ?_ ?_
   rotate_left
   ·intro w' hS
    refine Eq.trans (run_load_seg hS rfl rfl ag46 rfl (by first | exact at0 | exact at1 | exact at2 | exact at3 | exact at4 | exact at5 | exact at6) (by with_reducible first | exact get_T _ | exact get_C _ | exact get_D _ | exact get_R _ | exact el_T _ _ (by omega) | exact el_C _ _ (by omega) | exact tc_el _ _ (by omega) | exact cc_el _ _ (by omega) | exact whole _) (by with_reducible first | exact mc_size _ | exact tc_size _ | exact cc_size _ | exact dc_size _ | exact rc_size _ | exact sz1 | exact sz2 | exact sz3 | exact sz4)) ?_
    with_reducible rfl
   rotate_left
   ·simp only [PrintLast.putAll, Act.put, List.setIfInBounds_toArray, List.set_cons_zero, List.set_cons_succ, Nat.zero_add, Nat.add_zero, Nat.mul_one, Int.toNat_natCast]
    rfl
   refine PrintLast.take_ (i := 6) (oi := { dst := some 108, op := Go.Op.load 61 (Go.Operand.tmp 7), type := 61, pos := "l6_act.go:68", after := #[], guard := none }) (N := some 108) (v := ?_) (a' := ?_) #[true, true, true, true, false, true, true, false, false, false, false] rfl rfl (by kernel_rfl) (fun _ _ _ h => h) (Or.inl ⟨by rfl, ?_⟩) hHeld ?_ ?_
   rotate_left
   ·intro w' hS
    refine Eq.trans (run_load_seg hS rfl rfl ag61 rfl (by first | exact at0 | exact at1 | exact at2 | exact at3 | exact at4 | exact at5 | exact at6) (by with_reducible first | exact get_T _ | exact get_C _ | exact get_D _ | exact get_R _ | exact el_T _ _ (by omega) | exact el_C _ _ (by omega) | exact tc_el _ _ (by omega) | exact cc_el _ _ (by omega) | exact whole _) (by with_reducible first | exact mc_size _ | exact tc_size _ | exact cc_size _ | exact dc_size _ | exact rc_size _ | exact sz1 | exact sz2 | exact sz3 | exact sz4)) ?_
    with_reducible rfl
   rotate_left
   ·simp only [PrintLast.putAll, Act.put, List.setIfInBounds_toArray, List.set_cons_zero, List.set_cons_succ, Nat.zero_add, Nat.add_zero, Nat.mul_one, Int.toNat_natCast]
    rfl
   refine PrintLast.one_ (i := 4) (oi := { dst := some 106, op := Go.Op.call { callee := Go.Callee.value (Go.Operand.func 36), args := #[Go.Operand.tmp 104, Go.Operand.tmp 105], argTypes := #[46, 61] }, type := 31, pos := "l6_act.go:68", after := #[{ on := 2, ground := Go.Ground.data }, { on := 3, ground := Go.Ground.data }], guard := none }) (N := some 106) #[true, true, true, true, true, true, true, false, false, false, false] rfl rfl (by kernel_rfl) (by decide) ?_
   intro K hK
   refine step_callr (wanted_of rfl) HS.out rfl rfl Tryd.func36 (by kernel_rfl) rfl (by (try simp only [List.map_toArray, List.map_cons, List.map_nil]); first | done | rfl) (c_WholeE m wf d0 i0 hi0 _ (HTT.out.below HS.out.below)) ?_
   intro W_ HP; clear hHeld; clear HS; have HS := Aside0.mk HP; clear HP
   refine hK.out _ _ ((Priv.rm3 HS.out)) (fun hHeld => ?_)
   clear hK K
   refine PrintLast.norm_ (a' := ?_) ?_ ?_
   rotate_left
   ·show Act.put _ (some 106) _ = _
    simp only [PrintLast.putAll, Act.put, List.setIfInBounds_toArray, List.set_cons_zero, List.set_cons_succ, Nat.zero_add, Nat.add_zero, Nat.mul_one, Int.toNat_natCast]
    rfl
   refine PrintLast.one_ (i := 7) (oi := { dst := some 109, op := Go.Op.call { callee := Go.Callee.value (Go.Operand.func 36), args := #[Go.Operand.tmp 107, Go.Operand.tmp 108], argTypes := #[46, 61] }, type := 31, pos := "l6_act.go:68", after := #[{ on := 5, ground := Go.Ground.data }, { on := 6, ground := Go.Ground.data }, { on := 4, ground := Go.Ground.chain }], guard := none }) (N := some 109) #[true, true, true, true, true, true, true, true, false, false, false] rfl rfl (by kernel_rfl) (by decide) ?_
   intro K hK
   refine step_callr (wanted_of rfl) HS.out rfl rfl Tryd.func36 (by kernel_rfl) rfl (by (try simp only [List.map_toArray, List.map_cons, List.map_nil]); first | done | rfl) (c_WholeE m wf d1 i1 hi1 _ (HTT.out.below HS.out.below)) ?_
   intro W_ HP; clear hHeld; clear HS; have HS := Aside0.mk HP; clear HP
   refine hK.out _ _ ((Priv.rm3 HS.out)) (fun hHeld => ?_)
   clear hK K
   refine PrintLast.norm_ (a' := ?_) ?_ ?_
   rotate_left
   ·show Act.put _ (some 109) _ = _
    simp only [PrintLast.putAll, Act.put, List.setIfInBounds_toArray, List.set_cons_zero, List.set_cons_succ, Nat.zero_add, Nat.add_zero, Nat.mul_one, Int.toNat_natCast]
    rfl
   refine PrintLast.one_ (i := 8) (oi := { dst := some 110, op := Go.Op.call { callee := Go.Callee.value (Go.Operand.func 35), args := #[Go.Operand.tmp 103, Go.Operand.tmp 106, Go.Operand.tmp 109], argTypes := #[3, 31, 31] }, type := 4, pos := "l6_act.go:68", after := #[{ on := 1, ground := Go.Ground.data }, { on := 4, ground := Go.Ground.data }, { on := 7, ground := Go.Ground.data }, { on := 7, ground := Go.Ground.chain }], guard := none }) (N := some 110) #[true, true, true, true, true, true, true, true, true, false, false] rfl rfl (by kernel_rfl) (by decide) ?_
   intro K hK
   refine step_callr (wanted_of rfl) HS.out rfl rfl Tryd.func35 (by kernel_rfl) rfl (by (try simp only [List.map_toArray, List.map_cons, List.map_nil]); first | done | rfl) (c_iWholeCmp _ _ _ _ hcmp _) ?_
   intro W_ HP; clear hHeld; clear HS; have HS := Aside0.mk HP; clear HP
   refine hK.out _ _ ((Priv.rm3 HS.out)) (fun hHeld => ?_)
   clear hK K
   refine PrintLast.norm_ (a' := ?_) ?_ ?_
   rotate_left
   ·show Act.put _ (some 110) _ = _
    simp only [PrintLast.putAll, Act.put, List.setIfInBounds_toArray, List.set_cons_zero, List.set_cons_succ, Nat.zero_add, Nat.add_zero, Nat.mul_one, Int.toNat_natCast]
    rfl
   clear hHeld
   refine one_store (i := 9) (oi := { dst := none, op := Go.Op.store 46 (Go.Operand.tmp 4) (Go.Operand.tmp 102), type := 0, pos := "l6_act.go:68", after := #[{ on := 0, ground := Go.Ground.data }, { on := 8, ground := Go.Ground.chain }, { on := 0, ground := Go.Ground.phase }, { on := 1, ground := Go.Ground.textOnly Go.Departure.lateStores }, { on := 2, ground := Go.Ground.textOnly Go.Departure.lateStores }, { on := 3, ground := Go.Ground.textOnly Go.Departure.lateStores }, { on := 4, ground := Go.Ground.textOnly Go.Departure.lateStoresUnsure }, { on := 5, ground := Go.Ground.textOnly Go.Departure.lateStores }, { on := 6, ground := Go.Ground.textOnly Go.Departure.lateStores }, { on := 7, ground := Go.Ground.textOnly Go.Departure.lateStoresUnsure }, { on := 8, ground := Go.Ground.textOnly Go.Departure.lateStoresUnsure }], guard := none }) #[true, true, true, true, true, true, true, true, true, true, false] rfl rfl (by kernel_rfl) (by decide) (wanted_of rfl) HS.out rfl ag46 rfl (by first | exact eval_tmp rfl | exact eval_const) (by first | exact at0 | exact at1 | exact at2 | exact at3 | exact at4 | exact at5 | exact at6) (by with_reducible first | exact set_X _ _ | exact set_Y _ _ | exact set_M _ _ | exact set_S _ _ | exact set_E _ _ | exact set_Time _ _ | exact set_Ran _ _ | exact set_Fault _ _ | exact set_T _ _ | exact set_C _ _ | exact set_D _ _ | exact set_R _ _ | exact put_T _ _ (by omega) _ _ | exact put_C _ _ (by omega) _ _ _ | exact put_D _ _ (by omega) _ | exact put_R _ _ (by omega) _ | exact tc_put _ _ (by omega) _ _ | exact cc_put _ _ (by omega) _ _ _ | exact dc_put _ _ (by omega) _ | exact rc_put _ _ (by omega) _ | exact lay_mc _ _ | exact lay_tc _ _ | exact lay_cc _ _ | exact lay_dc _ _ | exact lay_rc _ _ | exact lay2_0 | exact lay2_1 | exact lay3_0 | exact lay3_1 | exact lay3_2 | exact lay2_w | exact lay3_w) (by with_reducible first | exact mc_size _ | exact tc_size _ | exact cc_size _ | exact dc_size _ | exact rc_size _ | exact sz1 | exact sz2 | exact sz3 | exact sz4) (by simp only [mc_size, tc_size, cc_size, dc_size, rc_size, List.size_toArray, List.length_cons, List.length_nil]; omega) (by first | (with_reducible first | exact mc_one _ | exact tc_one _ | exact cc_one _ | exact dc_one _ | exact rc_one _ | exact t2_one _ _ | exact t3_one _ _ _) | (simp [Value.oneCell']; done)) (fun W_ HSS => by simp only [List.set_cons_zero, List.set_cons_succ] at HSS; exact (Priv.rm3 HSS)) ?_
   intro W_ HP hHeld; clear HS; have HS := Aside0.mk HP; clear HP; (try simp only [List.set_cons_zero, List.set_cons_succ] at HS)
   refine PrintLast.pure_ (i := 10) (oi := { dst := some 5, op := Go.Op.assign (Go.Operand.tmp 110), type := 4, pos := "l6_act.go:68", after := #[{ on := 8, ground := Go.Ground.data }, { on := 9, ground := Go.Ground.chain }, { on := 0, ground := Go.Ground.phase }, { on := 1, ground := Go.Ground.phase }, { on := 2, ground := Go.Ground.phase }, { on := 3, ground := Go.Ground.phase }, { on := 4, ground := Go.Ground.phase }, { on := 5, ground := Go.Ground.phase }, { on := 6, ground := Go.Ground.phase }, { on := 7, ground := Go.Ground.phase }, { on := 8, ground := Go.Ground.phase }, { on := 9, ground := Go.Ground.phase }], guard := none }) (N := some 5) (v := ?_) (a' := ?_) #[true, true, true, true, true, true, true, true, true, true, true] rfl rfl (by kernel_rfl) (fun _ _ _ h => h) (Or.inl ⟨by rfl, ?_⟩) ?_ ?_
   rotate_left
   ·intro w'
    go_simp
    with_reducible rfl
   rotate_left
   ·simp only [PrintLast.putAll, Act.put, List.setIfInBounds_toArray, List.set_cons_zero, List.set_cons_succ, Nat.zero_add, Nat.add_zero, Nat.mul_one, Int.toNat_natCast]
    rfl
   refine PrintLast.done_ (by kernel_rfl) ?_
   clear hHeld
   go_wp2
   refine ret_agg_tmp HS.out (by rfl) (by rfl) (by rfl) (by first | exact at0 | exact at1 | exact at2 | exact at3 | exact at4 | exact at5 | exact at6) ag46 (by with_reducible first | exact mc_size _ | exact tc_size _ | exact cc_size _ | exact dc_size _ | exact rc_size _ | exact sz1 | exact sz2 | exact sz3 | exact sz4) ?_
   exact ⟨_, rfl, ⟨_, by rw [ht]; rfl, hT⟩, HS.out.below⟩
 ·have hin : decide (5 ≤ op ∧ op ≤ 10) = false := decide_eq_false c5
  have hT : Tb m op d0 d1 false := hT0 _ (by rw [if_neg c5])
  go_wp2_with ((first | ((with_reducible refine gate_dst (N := 75) rfl ?_); refine call_ev2 HS.out rfl rfl Tryd.func32 (by kernel_rfl) rfl (by (try simp only [List.map_toArray, List.map_cons, List.map_nil]); first | done | rfl) (c_inE _ _ _ _ hin _) ?_; rintro v_ W_ rfl HP HB_; clear HS; have HS := Aside0.mk HP; clear HP; clear HB_) | ((with_reducible refine gate_dst (N := 18) rfl ?_); (with_reducible refine field_at rfl rfl rfl fo52_0 ?_); (try simp only [toNat_16, toNat_12, Int.toNat_natCast, Nat.zero_add, Nat.add_zero, Nat.mul_one])) | ((with_reducible refine gate_dst (N := 19) rfl ?_); (with_reducible refine load_one HS.out rfl rfl on3 rfl (by first | exact at0 | exact at1 | exact at2 | exact at3 | exact at4 | exact at5 | exact at6) (by with_reducible first | exact dc_get _ _ (by omega) | exact rc_get _ _ (by omega) | exact at0a | exact at1a | exact at2a | exact at3a) ?_)) | ((with_reducible refine gate_store (t := 46) (p := 4) rfl ?_); (with_reducible refine store_seg HS.out rfl rfl rfl ag46 rfl (by first | exact eval_tmp rfl | exact eval_const) (by first | exact at0 | exact at1 | exact at2 | exact at3 | exact at4 | exact at5 | exact at6) (by with_reducible first | exact tc_put _ _ (by omega) _ _ | exact cc_put _ _ (by omega) _ _ _ | exact dc_put _ _ (by omega) _ | exact rc_put _ _ (by omega) _ | exact lay_mc _ _ | exact lay_tc _ _ | exact lay_cc _ _ | exact lay_dc _ _ | exact lay_rc _ _ | exact lay2_0 | exact lay2_1 | exact lay3_0 | exact lay3_1 | exact lay3_2 | exact lay2_w | exact lay3_w) (by with_reducible first | exact mc_size _ | exact tc_size _ | exact cc_size _ | exact dc_size _ | exact rc_size _ | exact sz1 | exact sz2 | exact sz3 | exact sz4) (by simp only [mc_size, tc_size, cc_size, dc_size, rc_size, List.size_toArray, List.length_cons, List.length_nil]; omega) (by first | (with_reducible first | exact mc_one _ | exact tc_one _ | exact cc_one _ | exact dc_one _ | exact rc_one _ | exact t2_one _ _ | exact t3_one _ _ _) | (simp [Value.oneCell']; done)) ?_); intro W_ HP; clear HS; have HS := Aside0.mk HP; clear HP; (try simp only [List.set_cons_zero, List.set_cons_succ] at HS)) | ((with_reducible refine gate_dst (N := 26) rfl ?_); (with_reducible refine field_at rfl rfl rfl fo52_0 ?_); (try simp only [toNat_16, toNat_12, Int.toNat_natCast, Nat.zero_add, Nat.add_zero, Nat.mul_one])) | ((with_reducible refine gate_dst (N := 27) rfl ?_); (with_reducible refine load_one HS.out rfl rfl on3 rfl (by first | exact at0 | exact at1 | exact at2 | exact at3 | exact at4 | exact at5 | exact at6) (by with_reducible first | exact dc_get _ _ (by omega) | exact rc_get _ _ (by omega) | exact at0a | exact at1a | exact at2a | exact at3a) ?_)) | ((with_reducible refine gate_dst (N := 35) rfl ?_); (with_reducible refine field_at rfl rfl rfl fo52_0 ?_); (try simp only [toNat_16, toNat_12, Int.toNat_natCast, Nat.zero_add, Nat.add_zero, Nat.mul_one])) | ((with_reducible refine gate_dst (N := 36) rfl ?_); (with_reducible refine load_one HS.out rfl rfl on3 rfl (by first | exact at0 | exact at1 | exact at2 | exact at3 | exact at4 | exact at5 | exact at6) (by with_reducible first | exact dc_get _ _ (by omega) | exact rc_get _ _ (by omega) | exact at0a | exact at1a | exact at2a | exact at3a) ?_)) | ((with_reducible refine gate_dst (N := 54) rfl ?_); (with_reducible refine field_at rfl rfl rfl fo52_0 ?_); (try simp only [toNat_16, toNat_12, Int.toNat_natCast, Nat.zero_add, Nat.add_zero, Nat.mul_one])) | ((with_reducible refine gate_dst (N := 55) rfl ?_); (with_reducible refine load_one HS.out rfl rfl on3 rfl (by first | exact at0 | exact at1 | exact at2 | exact at3 | exact at4 | exact at5 | exact at6) (by with_reducible first | exact dc_get _ _ (by omega) | exact rc_get _ _ (by omega) | exact at0a | exact at1a | exact at2a | exact at3a) ?_)) | ((with_reducible refine gate_dst (N := 73) rfl ?_); (with_reducible refine field_at rfl rfl rfl fo52_0 ?_); (try simp only [toNat_16, toNat_12, Int.toNat_natCast, Nat.zero_add, Nat.add_zero, Nat.mul_one])) | ((with_reducible refine gate_dst (N := 74) rfl ?_); (with_reducible refine load_one HS.out rfl rfl on3 rfl (by first | exact at0 | exact at1 | exact at2 | exact at3 | exact at4 | exact at5 | exact at6) (by with_reducible first | exact dc_get _ _ (by omega) | exact rc_get _ _ (by omega) | exact at0a | exact at1a | exact at2a | exact at3a) ?_)) | ((with_reducible refine gate_dst (N := 111) rfl ?_); (with_reducible refine load_seg HS.out rfl rfl ag46 rfl (by first | exact at0 | exact at1 | exact at2 | exact at3 | exact at4 | exact at5 | exact at6) (by with_reducible first | exact tc_el _ _ (by omega) | exact cc_el _ _ (by omega) | exact whole _) (by with_reducible first | exact mc_size _ | exact tc_size _ | exact cc_size _ | exact dc_size _ | exact rc_size _ | exact sz1 | exact sz2 | exact sz3 | exact sz4) ?_))); (try simp only [Act.put, List.setIfInBounds_toArray, List.set_cons_zero, List.set_cons_succ]))
  refine ret_agg_tmp HS.out (by rfl) (by rfl) (by rfl) (by first | exact at0 | exact at1 | exact at2 | exact at3 | exact at4 | exact at5 | exact at6) ag46 (by with_reducible first | exact mc_size _ | exact tc_size _ | exact cc_size _ | exact dc_size _ | exact rc_size _ | exact sz1 | exact sz2 | exact sz3 | exact sz4) ?_
  exact ⟨_, rfl, ⟨_, by rw [ht]; rfl, hT⟩, HS.out.below⟩

end Go.Proofs.YtaegonmpjgdmgaaDoor.K
