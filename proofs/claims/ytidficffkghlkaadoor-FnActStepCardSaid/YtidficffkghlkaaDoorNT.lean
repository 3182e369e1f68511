/- Walks over the ladders' memory: what the functions of this seat answer. -/
import Derived.Test.YtidficffkghlkaaDoorProg
import Derived.Test.YtidficffkghlkaaDoorMW
import Derived.WalkKit
import Derived.Deep.LoopGhost
import Derived.Deep.DeepCutAuto
import Derived.BigFrame
import Derived.Deep.QuietTactic
import Derived.BigQuiet
import Derived.Test.YtidficffkghlkaaDoorMF
namespace Go.Proofs.YtidficffkghlkaaDoor.K
open Go Go.RowKit Go.Proofs.YtidficffkghlkaaDoorW Go.Proofs.YtidficffkghlkaaDoorW.PrintWords Go.Proofs.YtidficffkghlkaaDoor.MW
set_option linter.unusedVariables false
set_option linter.unusedSimpArgs false
set_option maxRecDepth 100000
theorem ag49 : aggSize Tryd.prog 49 = some 2 := by kernel_rfl
theorem fo49_0 : fieldOff Tryd.prog 49 0 = some 0 := by kernel_rfl
theorem cl_in (x M : Int) (h0 : 0 ≤ x) (h1 : x < 65536) (hM : M = 255 ∨ M = 65280) : 0 ≤ bits .andNot .u16 x M ∧ bits .andNot .u16 x M < 65536 := by
  rw [u16_andNot x M h0 h1 (by omega) (by omega)]
  have : x.toNat &&& (65535 - M.toNat) ≤ x.toNat := Nat.and_le_left
  omega
theorem cl_bit (x M : Int) (h0 : 0 ≤ x) (h1 : x < 65536) (i : Nat) (hi : i < 16) : (M = 255 → testb (bits .andNot .u16 x M) i = (decide (8 ≤ i) && testb x i)) ∧ (M = 65280 → testb (bits .andNot .u16 x M) i = (decide (i < 8) && testb x i)) := by
  have k : ∀ n : Nat, (M.toNat = n) → 0 ≤ M → M < 65536 → testb (bits .andNot .u16 x M) i = (x.toNat.testBit i && (65535 - n).testBit i) := by
    intro n hn h2 h3
    rw [u16_andNot x M h0 h1 h2 h3, testb_nat _ _ (by omega), Int.toNat_natCast, Nat.testBit_and, hn]
  have hx := testb_nat x i h0
  obtain rfl | rfl | rfl | rfl | rfl | rfl | rfl | rfl | rfl | rfl | rfl | rfl | rfl | rfl | rfl | rfl : i = 0 ∨ i = 1 ∨ i = 2 ∨ i = 3 ∨ i = 4 ∨ i = 5 ∨ i = 6 ∨ i = 7 ∨ i = 8 ∨ i = 9 ∨ i = 10 ∨ i = 11 ∨ i = 12 ∨ i = 13 ∨ i = 14 ∨ i = 15 := by omega
  all_goals
    refine ⟨fun hM => ?_, fun hM => ?_⟩
    · subst hM
      rw [k 255 rfl (by decide) (by decide), hx]
      generalize x.toNat.testBit _ = b
      cases b <;> decide
    · subst hM
      rw [k 65280 rfl (by decide) (by decide), hx]
      generalize x.toNat.testBit _ = b
      cases b <;> decide
def cleared (m : Mm) (M : Int) : Mm := { m with S := bits .andNot .u16 m.S M }
theorem cleared_wf (m : Mm) (wf : m.wf) (M : Int) (hM : M = 255 ∨ M = 65280) : (cleared m M).wf := { wf with S := cl_in m.S M wf.S.1 wf.S.2 hM }
def stepped (m : Mm) (j : Nat) (M : Int) : Mm := memput (cleared m M) 4 j true

set_option maxHeartbeats 4000000 in
set_option maxRecDepth 100000 in
theorem c_PulledStep (m : Mm) (wf : m.wf) (v : Value) (l : List Dev) (j : Nat) (hj : j < 16) (M : Int) (hM : ((j : Int) / 8 = 0 ∧ M = 255) ∨ ((j : Int) / 8 = 1 ∧ M = 65280)) (hd0 : l.getD 0 (0, 0, 0) = (4, (j : Int), 0)) (hd1 : l.getD 1 (0, 0, 0) = (0, 0, 0)) (w : World) (ha : ArgsAt w v l) (ht : Tab w) :
    Calls Tryd.prog 45 #[.agg (mc m), .agg #[.int .i64 25, v]] w (Ret w (· = .agg (mc (stepped m j M)))) := by
  have hlt : (j : Int) < devN 4 := by show (j : Int) < 16; omega
  have hpl : place 4 j = j := place_self 4 j (by omega) hlt
  have hw0 : IntKind.i64.wrap 0 = 0 := by decide
  have hw1 : IntKind.i64.wrap 1 = 1 := by decide
  have hw8 : IntKind.i64.wrap 8 = 8 := by decide
  have hu0 : IntKind.u16.wrap 255 = 255 := by decide
  have hu1 : IntKind.u16.wrap 65280 = 65280 := by decide
  have HS := Aside0.mk (Priv.nil w)
  have HT := Aside0.mk ht
  have HA := Aside0.mk ha
  clear ht ha
  rcases hM with ⟨hq_, rfl⟩ | ⟨hq_, rfl⟩
  · have hq : (j : Int) / 8 = 0 := hq_
    clear hq_
    go_enter Tryd.func45, Tryd.ntmps45
    go_wp2_with ((first
      | ((with_reducible refine gate_dst (N := 2) rfl ?_); (with_reducible refine box_new HS.out rfl rfl (by first | exact eval_tmp rfl | exact eval_const) ?_); intro g2 W2_ HP; clear HS; have HS := Aside0.mk HP; clear HP)
      | ((with_reducible refine gate_dst (N := 3) rfl ?_); (with_reducible refine box_new HS.out rfl rfl (by first | exact eval_tmp rfl | exact eval_const) ?_); intro g3 W3_ HP; clear HS; have HS := Aside0.mk HP; clear HP)
      | ((with_reducible refine gate_dst (N := 4) rfl ?_); (with_reducible refine alloc_new HS.out rfl rfl ze37 ?_); intro g4 W4_ HP; clear HS; have HS := Aside0.mk HP; clear HP)); (try simp only [Act.put, List.setIfInBounds_toArray, List.set_cons_zero, List.set_cons_succ]))
    refine start_R (LS := _) (n := 8) #[false, false, false, false, false, false, false, false] HS.out (by kernel_rfl) rfl rfl (fun W_ HSS => HSS.one at1) ?_
    intro W_ HP hHeld; clear HS; have HS := Aside0.mk HP; clear HP
    refine PrintLast.take_ (i := 0) (oi := { dst := some 10, op := Go.Op.load 49 (Go.Operand.tmp 3), type := 49, pos := "l6_act.go:114", after := #[], guard := none }) (N := some 10) (v := ?_) (a' := ?_) #[true, false, false, false, false, false, false, false] rfl rfl (by kernel_rfl) (fun _ _ _ h => h) (Or.inl ⟨by rfl, ?_⟩) hHeld ?_ ?_
    rotate_left
    · intro w' hS
      refine Eq.trans (run_load_seg hS rfl rfl ag49 rfl (by first | exact at0 | exact at1 | exact at2 | exact at3 | exact at4 | exact at5 | exact at6) (by with_reducible first | exact get_T _ | exact get_C _ | exact get_D _ | exact get_R _ | exact el_T _ _ (by omega) | exact el_C _ _ (by omega) | exact tc_el _ _ (by omega) | exact cc_el _ _ (by omega) | exact whole _) (by with_reducible first | exact mc_size _ | exact tc_size _ | exact cc_size _ | exact dc_size _ | exact rc_size _ | exact sz1 | exact sz2 | exact sz3 | exact sz4)) ?_
      with_reducible rfl
    rotate_left
    · simp only [PrintLast.putAll, Act.put, List.setIfInBounds_toArray, List.set_cons_zero, List.set_cons_succ, Nat.zero_add, Nat.add_zero, Nat.mul_one, Int.toNat_natCast]
      rfl
    refine PrintLast.take_ (i := 2) (oi := { dst := some 12, op := Go.Op.load 49 (Go.Operand.tmp 3), type := 49, pos := "l6_act.go:114", after := #[], guard := none }) (N := some 12) (v := ?_) (a' := ?_) #[true, false, true, false, false, false, false, false] rfl rfl (by kernel_rfl) (fun _ _ _ h => h) (Or.inl ⟨by rfl, ?_⟩) hHeld ?_ ?_
    rotate_left
    · intro w' hS
      refine Eq.trans (run_load_seg hS rfl rfl ag49 rfl (by first | exact at0 | exact at1 | exact at2 | exact at3 | exact at4 | exact at5 | exact at6) (by with_reducible first | exact get_T _ | exact get_C _ | exact get_D _ | exact get_R _ | exact el_T _ _ (by omega) | exact el_C _ _ (by omega) | exact tc_el _ _ (by omega) | exact cc_el _ _ (by omega) | exact whole _) (by with_reducible first | exact mc_size _ | exact tc_size _ | exact cc_size _ | exact dc_size _ | exact rc_size _ | exact sz1 | exact sz2 | exact sz3 | exact sz4)) ?_
      with_reducible rfl
    rotate_left
    · simp only [PrintLast.putAll, Act.put, List.setIfInBounds_toArray, List.set_cons_zero, List.set_cons_succ, Nat.zero_add, Nat.add_zero, Nat.mul_one, Int.toNat_natCast]
      rfl
    clear hHeld
    refine PrintLast.join_ (σ := Nat × Nat) 2 #[true, true, true, true, true, true, false, false] (fun s => [(11, .agg #[.int .i64 4, .int .i64 (j : Int), .int .i64 0]), (13, .agg #[.int .i64 0, .int .i64 0, .int .i64 0]), (5, .pointer (some ⟨s.1, 0, none⟩)), (6, .pointer (some ⟨s.2, 0, none⟩))]) (fun s w' => Priv w w' ((s.2, #[.int .i64 0, .int .i64 0, .int .i64 0]) :: (s.1, #[.int .i64 0, .int .i64 0, .int .i64 0]) :: [(g4, mc zm), (g3, #[.int .i64 25, v]), (g2, mc m)])) ?_ ?_
    rotate_left
    · intro H211
      refine PrintLast.join_ (σ := Nat × Nat) 3 #[true, true, true, true, true, false, false, false] (fun s => [(11, .agg #[.int .i64 4, .int .i64 (j : Int), .int .i64 0]), (13, .agg #[.int .i64 0, .int .i64 0, .int .i64 0]), (5, .pointer (some ⟨s.1, 0, none⟩))]) (fun s w' => Priv w w' ((s.1, #[.int .i64 0, .int .i64 0, .int .i64 0]) :: [(g4, mc zm), (g3, #[.int .i64 25, v]), (g2, mc m)])) ?_ ?_
      · intro s w' HF
        refine PrintLast.norm_ (a' := ?_) ?_ ?_
        rotate_left
        · simp only [PrintLast.putAll, Act.put, List.setIfInBounds_toArray, List.set_cons_zero, List.set_cons_succ, Nat.zero_add, Nat.add_zero, Nat.mul_one, Int.toNat_natCast]
          rfl
        refine PrintLast.one_ (i := 5) (oi := { dst := some 6, op := Go.Op.alloc 42, type := 0, pos := "l6_act.go:114", after := #[], guard := none }) (N := some 6) #[true, true, true, true, true, true, false, false] rfl rfl (by kernel_rfl) (by decide) (fun K hK => ?_)
        · refine step_alloc (wanted_of rfl) HF rfl rfl ze42 ?_
          intro g_ W_ HP
          refine hK.out _ _ (HP.drop1.drop1.one at1) (fun _ => ?_)
          refine PrintLast.norm_ ?_ (H211 (s.1, g_) _ HP)
          simp only [PrintLast.putAll, Act.put, List.setIfInBounds_toArray, List.set_cons_zero, List.set_cons_succ, Nat.zero_add, Nat.add_zero, Nat.mul_one, Int.toNat_natCast]
      intro H210
      refine PrintLast.join_ (σ := Nat × Nat) 3 #[true, true, true, true, false, true, false, false] (fun s => [(11, .agg #[.int .i64 4, .int .i64 (j : Int), .int .i64 0]), (13, .agg #[.int .i64 0, .int .i64 0, .int .i64 0]), (6, .pointer (some ⟨s.2, 0, none⟩))]) (fun s w' => Priv w w' ((s.2, #[.int .i64 0, .int .i64 0, .int .i64 0]) :: [(g4, mc zm), (g3, #[.int .i64 25, v]), (g2, mc m)])) ?_ ?_
      · intro s w' HF
        refine PrintLast.norm_ (a' := ?_) ?_ ?_
        rotate_left
        · simp only [PrintLast.putAll, Act.put, List.setIfInBounds_toArray, List.set_cons_zero, List.set_cons_succ, Nat.zero_add, Nat.add_zero, Nat.mul_one, Int.toNat_natCast]
          rfl
        refine PrintLast.one_ (i := 4) (oi := { dst := some 5, op := Go.Op.alloc 42, type := 0, pos := "l6_act.go:114", after := #[], guard := none }) (N := some 5) #[true, true, true, true, true, true, false, false] rfl rfl (by kernel_rfl) (by decide) (fun K hK => ?_)
        · refine step_alloc (wanted_of rfl) HF rfl rfl ze42 ?_
          intro g_ W_ HP
          refine hK.out _ _ (HP.swap.drop1.drop1.one at1) (fun _ => ?_)
          refine PrintLast.norm_ ?_ (H211 (g_, s.2) _ HP.swap)
          simp only [PrintLast.putAll, Act.put, List.setIfInBounds_toArray, List.set_cons_zero, List.set_cons_succ, Nat.zero_add, Nat.add_zero, Nat.mul_one, Int.toNat_natCast]
      intro H201
      refine PrintLast.join_ (σ := Nat × Nat) 3 #[true, true, true, false, true, true, false, false] (fun s => [(11, .agg #[.int .i64 4, .int .i64 (j : Int), .int .i64 0]), (5, .pointer (some ⟨s.1, 0, none⟩)), (6, .pointer (some ⟨s.2, 0, none⟩))]) (fun s w' => Priv w w' ((s.2, #[.int .i64 0, .int .i64 0, .int .i64 0]) :: (s.1, #[.int .i64 0, .int .i64 0, .int .i64 0]) :: [(g4, mc zm), (g3, #[.int .i64 25, v]), (g2, mc m)])) ?_ ?_
      · intro s w' HF
        refine PrintLast.norm_ (a' := ?_) ?_ ?_
        rotate_left
        · simp only [PrintLast.putAll, Act.put, List.setIfInBounds_toArray, List.set_cons_zero, List.set_cons_succ, Nat.zero_add, Nat.add_zero, Nat.mul_one, Int.toNat_natCast]
          rfl
        refine PrintLast.one_ (i := 3) (oi := { dst := some 13, op := Go.Op.call { callee := Go.Callee.value (Go.Operand.func 40), args := #[Go.Operand.tmp 12, Go.Operand.const (Go.Value.int Go.IntKind.i64 1)], argTypes := #[49, 3] }, type := 42, pos := "l6_act.go:114", after := #[{ on := 2, ground := Go.Ground.data }, { on := 1, ground := Go.Ground.chain }], guard := none }) (N := some 13) #[true, true, true, true, true, true, false, false] rfl rfl (by kernel_rfl) (by decide) (fun K hK => ?_)
        · refine step_callr (wanted_of rfl) HF rfl rfl Tryd.func40 (by kernel_rfl) rfl (by (try simp only [List.map_toArray, List.map_cons, List.map_nil]); first | done | rfl) (c_arg3 _ v l 1 _ (by rfl) _ _ _ hd1 HA.out HF) ?_
          intro W_ HP
          refine hK.out _ _ (HP.drop1.drop1.one at1) (fun _ => ?_)
          refine PrintLast.norm_ ?_ (H211 s _ HP)
          simp only [PrintLast.putAll, Act.put, List.setIfInBounds_toArray, List.set_cons_zero, List.set_cons_succ, Nat.zero_add, Nat.add_zero, Nat.mul_one, Int.toNat_natCast]
      intro H111
      refine PrintLast.join_ (σ := Nat × Nat) 4 #[true, true, true, true, false, false, false, false] (fun s => [(11, .agg #[.int .i64 4, .int .i64 (j : Int), .int .i64 0]), (13, .agg #[.int .i64 0, .int .i64 0, .int .i64 0])]) (fun s w' => Priv w w' ([(g4, mc zm), (g3, #[.int .i64 25, v]), (g2, mc m)])) ?_ ?_
      · intro s w' HF
        refine PrintLast.norm_ (a' := ?_) ?_ ?_
        rotate_left
        · simp only [PrintLast.putAll, Act.put, List.setIfInBounds_toArray, List.set_cons_zero, List.set_cons_succ, Nat.zero_add, Nat.add_zero, Nat.mul_one, Int.toNat_natCast]
          rfl
        refine PrintLast.two_ (i := 4) (j := 5) (oi := { dst := some 5, op := Go.Op.alloc 42, type := 0, pos := "l6_act.go:114", after := #[], guard := none }) (oj := { dst := some 6, op := Go.Op.alloc 42, type := 0, pos := "l6_act.go:114", after := #[], guard := none }) (Ni := some 5) (Nj := some 6) #[true, true, true, true, true, false, false, false] #[true, true, true, true, false, true, false, false] rfl rfl rfl rfl (by kernel_rfl) (by decide) (by decide) (fun K hK => ?_) (fun K hK => ?_)
        · refine step_alloc (wanted_of rfl) HF rfl rfl ze42 ?_
          intro g_ W_ HP
          refine hK.out _ _ (HP.drop1.one at1) (fun _ => ?_)
          refine PrintLast.norm_ ?_ (H210 (g_, s.2) _ HP)
          simp only [PrintLast.putAll, Act.put, List.setIfInBounds_toArray, List.set_cons_zero, List.set_cons_succ, Nat.zero_add, Nat.add_zero, Nat.mul_one, Int.toNat_natCast]
        · refine step_alloc (wanted_of rfl) HF rfl rfl ze42 ?_
          intro g_ W_ HP
          refine hK.out _ _ (HP.drop1.one at1) (fun _ => ?_)
          refine PrintLast.norm_ ?_ (H201 (s.1, g_) _ HP)
          simp only [PrintLast.putAll, Act.put, List.setIfInBounds_toArray, List.set_cons_zero, List.set_cons_succ, Nat.zero_add, Nat.add_zero, Nat.mul_one, Int.toNat_natCast]
      intro H200
      refine PrintLast.join_ (σ := Nat × Nat) 4 #[true, true, true, false, true, false, false, false] (fun s => [(11, .agg #[.int .i64 4, .int .i64 (j : Int), .int .i64 0]), (5, .pointer (some ⟨s.1, 0, none⟩))]) (fun s w' => Priv w w' ((s.1, #[.int .i64 0, .int .i64 0, .int .i64 0]) :: [(g4, mc zm), (g3, #[.int .i64 25, v]), (g2, mc m)])) ?_ ?_
      · intro s w' HF
        refine PrintLast.norm_ (a' := ?_) ?_ ?_
        rotate_left
        · simp only [PrintLast.putAll, Act.put, List.setIfInBounds_toArray, List.set_cons_zero, List.set_cons_succ, Nat.zero_add, Nat.add_zero, Nat.mul_one, Int.toNat_natCast]
          rfl
        refine PrintLast.two_ (i := 3) (j := 5) (oi := { dst := some 13, op := Go.Op.call { callee := Go.Callee.value (Go.Operand.func 40), args := #[Go.Operand.tmp 12, Go.Operand.const (Go.Value.int Go.IntKind.i64 1)], argTypes := #[49, 3] }, type := 42, pos := "l6_act.go:114", after := #[{ on := 2, ground := Go.Ground.data }, { on := 1, ground := Go.Ground.chain }], guard := none }) (oj := { dst := some 6, op := Go.Op.alloc 42, type := 0, pos := "l6_act.go:114", after := #[], guard := none }) (Ni := some 13) (Nj := some 6) #[true, true, true, true, true, false, false, false] #[true, true, true, false, true, true, false, false] rfl rfl rfl rfl (by kernel_rfl) (by decide) (by decide) (fun K hK => ?_) (fun K hK => ?_)
        · refine step_callr (wanted_of rfl) HF rfl rfl Tryd.func40 (by kernel_rfl) rfl (by (try simp only [List.map_toArray, List.map_cons, List.map_nil]); first | done | rfl) (c_arg3 _ v l 1 _ (by rfl) _ _ _ hd1 HA.out HF) ?_
          intro W_ HP
          refine hK.out _ _ (HP.drop1.one at1) (fun _ => ?_)
          refine PrintLast.norm_ ?_ (H210 s _ HP)
          simp only [PrintLast.putAll, Act.put, List.setIfInBounds_toArray, List.set_cons_zero, List.set_cons_succ, Nat.zero_add, Nat.add_zero, Nat.mul_one, Int.toNat_natCast]
        · refine step_alloc (wanted_of rfl) HF rfl rfl ze42 ?_
          intro g_ W_ HP
          refine hK.out _ _ (HP.drop1.drop1.one at1) (fun _ => ?_)
          refine PrintLast.norm_ ?_ (H111 (s.1, g_) _ HP)
          simp only [PrintLast.putAll, Act.put, List.setIfInBounds_toArray, List.set_cons_zero, List.set_cons_succ, Nat.zero_add, Nat.add_zero, Nat.mul_one, Int.toNat_natCast]
      intro H110
      refine PrintLast.join_ (σ := Nat × Nat) 4 #[true, true, true, false, false, true, false, false] (fun s => [(11, .agg #[.int .i64 4, .int .i64 (j : Int), .int .i64 0]), (6, .pointer (some ⟨s.2, 0, none⟩))]) (fun s w' => Priv w w' ((s.2, #[.int .i64 0, .int .i64 0, .int .i64 0]) :: [(g4, mc zm), (g3, #[.int .i64 25, v]), (g2, mc m)])) ?_ ?_
      · intro s w' HF
        refine PrintLast.norm_ (a' := ?_) ?_ ?_
        rotate_left
        · simp only [PrintLast.putAll, Act.put, List.setIfInBounds_toArray, List.set_cons_zero, List.set_cons_succ, Nat.zero_add, Nat.add_zero, Nat.mul_one, Int.toNat_natCast]
          rfl
        refine PrintLast.two_ (i := 3) (j := 4) (oi := { dst := some 13, op := Go.Op.call { callee := Go.Callee.value (Go.Operand.func 40), args := #[Go.Operand.tmp 12, Go.Operand.const (Go.Value.int Go.IntKind.i64 1)], argTypes := #[49, 3] }, type := 42, pos := "l6_act.go:114", after := #[{ on := 2, ground := Go.Ground.data }, { on := 1, ground := Go.Ground.chain }], guard := none }) (oj := { dst := some 5, op := Go.Op.alloc 42, type := 0, pos := "l6_act.go:114", after := #[], guard := none }) (Ni := some 13) (Nj := some 5) #[true, true, true, true, false, true, false, false] #[true, true, true, false, true, true, false, false] rfl rfl rfl rfl (by kernel_rfl) (by decide) (by decide) (fun K hK => ?_) (fun K hK => ?_)
        · refine step_callr (wanted_of rfl) HF rfl rfl Tryd.func40 (by kernel_rfl) rfl (by (try simp only [List.map_toArray, List.map_cons, List.map_nil]); first | done | rfl) (c_arg3 _ v l 1 _ (by rfl) _ _ _ hd1 HA.out HF) ?_
          intro W_ HP
          refine hK.out _ _ (HP.drop1.one at1) (fun _ => ?_)
          refine PrintLast.norm_ ?_ (H201 s _ HP)
          simp only [PrintLast.putAll, Act.put, List.setIfInBounds_toArray, List.set_cons_zero, List.set_cons_succ, Nat.zero_add, Nat.add_zero, Nat.mul_one, Int.toNat_natCast]
        · refine step_alloc (wanted_of rfl) HF rfl rfl ze42 ?_
          intro g_ W_ HP
          refine hK.out _ _ (HP.swap.drop1.drop1.one at1) (fun _ => ?_)
          refine PrintLast.norm_ ?_ (H111 (g_, s.2) _ HP.swap)
          simp only [PrintLast.putAll, Act.put, List.setIfInBounds_toArray, List.set_cons_zero, List.set_cons_succ, Nat.zero_add, Nat.add_zero, Nat.mul_one, Int.toNat_natCast]
      intro H101
      refine PrintLast.join_ (σ := Nat × Nat) 4 #[true, false, true, false, true, true, false, false] (fun s => [(5, .pointer (some ⟨s.1, 0, none⟩)), (6, .pointer (some ⟨s.2, 0, none⟩))]) (fun s w' => Priv w w' ((s.2, #[.int .i64 0, .int .i64 0, .int .i64 0]) :: (s.1, #[.int .i64 0, .int .i64 0, .int .i64 0]) :: [(g4, mc zm), (g3, #[.int .i64 25, v]), (g2, mc m)])) ?_ ?_
      · intro s w' HF
        refine PrintLast.norm_ (a' := ?_) ?_ ?_
        rotate_left
        · simp only [PrintLast.putAll, Act.put, List.setIfInBounds_toArray, List.set_cons_zero, List.set_cons_succ, Nat.zero_add, Nat.add_zero, Nat.mul_one, Int.toNat_natCast]
          rfl
        refine PrintLast.one_ (i := 1) (oi := { dst := some 11, op := Go.Op.call { callee := Go.Callee.value (Go.Operand.func 40), args := #[Go.Operand.tmp 10, Go.Operand.const (Go.Value.int Go.IntKind.i64 0)], argTypes := #[49, 3] }, type := 42, pos := "l6_act.go:114", after := #[{ on := 0, ground := Go.Ground.data }], guard := none }) (N := some 11) #[true, true, true, false, true, true, false, false] rfl rfl (by kernel_rfl) (by decide) (fun K hK => ?_)
        · refine step_callr (wanted_of rfl) HF rfl rfl Tryd.func40 (by kernel_rfl) rfl (by (try simp only [List.map_toArray, List.map_cons, List.map_nil]); first | done | rfl) (c_arg3 _ v l 0 _ (by rfl) _ _ _ hd0 HA.out HF) ?_
          intro W_ HP
          refine hK.out _ _ (HP.drop1.drop1.one at1) (fun _ => ?_)
          refine PrintLast.norm_ ?_ (H111 s _ HP)
          simp only [PrintLast.putAll, Act.put, List.setIfInBounds_toArray, List.set_cons_zero, List.set_cons_succ, Nat.zero_add, Nat.add_zero, Nat.mul_one, Int.toNat_natCast]
      intro H011
      refine PrintLast.join_ (σ := Nat × Nat) 5 #[true, true, true, false, false, false, false, false] (fun s => [(11, .agg #[.int .i64 4, .int .i64 (j : Int), .int .i64 0])]) (fun s w' => Priv w w' ([(g4, mc zm), (g3, #[.int .i64 25, v]), (g2, mc m)])) ?_ ?_
      · intro s w' HF
        refine PrintLast.norm_ (a' := ?_) ?_ ?_
        rotate_left
        · simp only [PrintLast.putAll, Act.put, List.setIfInBounds_toArray, List.set_cons_zero, List.set_cons_succ, Nat.zero_add, Nat.add_zero, Nat.mul_one, Int.toNat_natCast]
          rfl
        refine PrintLast.three_ (i := 3) (j := 4) (k := 5) (oi := { dst := some 13, op := Go.Op.call { callee := Go.Callee.value (Go.Operand.func 40), args := #[Go.Operand.tmp 12, Go.Operand.const (Go.Value.int Go.IntKind.i64 1)], argTypes := #[49, 3] }, type := 42, pos := "l6_act.go:114", after := #[{ on := 2, ground := Go.Ground.data }, { on := 1, ground := Go.Ground.chain }], guard := none }) (oj := { dst := some 5, op := Go.Op.alloc 42, type := 0, pos := "l6_act.go:114", after := #[], guard := none }) (ok := { dst := some 6, op := Go.Op.alloc 42, type := 0, pos := "l6_act.go:114", after := #[], guard := none }) (Ni := some 13) (Nj := some 5) (Nk := some 6) #[true, true, true, true, false, false, false, false] #[true, true, true, false, true, false, false, false] #[true, true, true, false, false, true, false, false] rfl rfl rfl rfl rfl rfl (by kernel_rfl) (by decide) (by decide) (by decide) (fun K hK => ?_) (fun K hK => ?_) (fun K hK => ?_)
        · refine step_callr (wanted_of rfl) HF rfl rfl Tryd.func40 (by kernel_rfl) rfl (by (try simp only [List.map_toArray, List.map_cons, List.map_nil]); first | done | rfl) (c_arg3 _ v l 1 _ (by rfl) _ _ _ hd1 HA.out HF) ?_
          intro W_ HP
          refine hK.out _ _ (HP.one at1) (fun _ => ?_)
          refine PrintLast.norm_ ?_ (H200 s _ HP)
          simp only [PrintLast.putAll, Act.put, List.setIfInBounds_toArray, List.set_cons_zero, List.set_cons_succ, Nat.zero_add, Nat.add_zero, Nat.mul_one, Int.toNat_natCast]
        · refine step_alloc (wanted_of rfl) HF rfl rfl ze42 ?_
          intro g_ W_ HP
          refine hK.out _ _ (HP.drop1.one at1) (fun _ => ?_)
          refine PrintLast.norm_ ?_ (H110 (g_, s.2) _ HP)
          simp only [PrintLast.putAll, Act.put, List.setIfInBounds_toArray, List.set_cons_zero, List.set_cons_succ, Nat.zero_add, Nat.add_zero, Nat.mul_one, Int.toNat_natCast]
        · refine step_alloc (wanted_of rfl) HF rfl rfl ze42 ?_
          intro g_ W_ HP
          refine hK.out _ _ (HP.drop1.one at1) (fun _ => ?_)
          refine PrintLast.norm_ ?_ (H101 (s.1, g_) _ HP)
          simp only [PrintLast.putAll, Act.put, List.setIfInBounds_toArray, List.set_cons_zero, List.set_cons_succ, Nat.zero_add, Nat.add_zero, Nat.mul_one, Int.toNat_natCast]
      intro H100
      refine PrintLast.join_ (σ := Nat × Nat) 5 #[true, false, true, false, true, false, false, false] (fun s => [(5, .pointer (some ⟨s.1, 0, none⟩))]) (fun s w' => Priv w w' ((s.1, #[.int .i64 0, .int .i64 0, .int .i64 0]) :: [(g4, mc zm), (g3, #[.int .i64 25, v]), (g2, mc m)])) ?_ ?_
      · intro s w' HF
        refine PrintLast.norm_ (a' := ?_) ?_ ?_
        rotate_left
        · simp only [PrintLast.putAll, Act.put, List.setIfInBounds_toArray, List.set_cons_zero, List.set_cons_succ, Nat.zero_add, Nat.add_zero, Nat.mul_one, Int.toNat_natCast]
          rfl
        refine PrintLast.two_ (i := 1) (j := 5) (oi := { dst := some 11, op := Go.Op.call { callee := Go.Callee.value (Go.Operand.func 40), args := #[Go.Operand.tmp 10, Go.Operand.const (Go.Value.int Go.IntKind.i64 0)], argTypes := #[49, 3] }, type := 42, pos := "l6_act.go:114", after := #[{ on := 0, ground := Go.Ground.data }], guard := none }) (oj := { dst := some 6, op := Go.Op.alloc 42, type := 0, pos := "l6_act.go:114", after := #[], guard := none }) (Ni := some 11) (Nj := some 6) #[true, true, true, false, true, false, false, false] #[true, false, true, false, true, true, false, false] rfl rfl rfl rfl (by kernel_rfl) (by decide) (by decide) (fun K hK => ?_) (fun K hK => ?_)
        · refine step_callr (wanted_of rfl) HF rfl rfl Tryd.func40 (by kernel_rfl) rfl (by (try simp only [List.map_toArray, List.map_cons, List.map_nil]); first | done | rfl) (c_arg3 _ v l 0 _ (by rfl) _ _ _ hd0 HA.out HF) ?_
          intro W_ HP
          refine hK.out _ _ (HP.drop1.one at1) (fun _ => ?_)
          refine PrintLast.norm_ ?_ (H110 s _ HP)
          simp only [PrintLast.putAll, Act.put, List.setIfInBounds_toArray, List.set_cons_zero, List.set_cons_succ, Nat.zero_add, Nat.add_zero, Nat.mul_one, Int.toNat_natCast]
        · refine step_alloc (wanted_of rfl) HF rfl rfl ze42 ?_
          intro g_ W_ HP
          refine hK.out _ _ (HP.drop1.drop1.one at1) (fun _ => ?_)
          refine PrintLast.norm_ ?_ (H011 (s.1, g_) _ HP)
          simp only [PrintLast.putAll, Act.put, List.setIfInBounds_toArray, List.set_cons_zero, List.set_cons_succ, Nat.zero_add, Nat.add_zero, Nat.mul_one, Int.toNat_natCast]
      intro H010
      refine PrintLast.join_ (σ := Nat × Nat) 5 #[true, false, true, false, false, true, false, false] (fun s => [(6, .pointer (some ⟨s.2, 0, none⟩))]) (fun s w' => Priv w w' ((s.2, #[.int .i64 0, .int .i64 0, .int .i64 0]) :: [(g4, mc zm), (g3, #[.int .i64 25, v]), (g2, mc m)])) ?_ ?_
      · intro s w' HF
        refine PrintLast.norm_ (a' := ?_) ?_ ?_
        rotate_left
        · simp only [PrintLast.putAll, Act.put, List.setIfInBounds_toArray, List.set_cons_zero, List.set_cons_succ, Nat.zero_add, Nat.add_zero, Nat.mul_one, Int.toNat_natCast]
          rfl
        refine PrintLast.two_ (i := 1) (j := 4) (oi := { dst := some 11, op := Go.Op.call { callee := Go.Callee.value (Go.Operand.func 40), args := #[Go.Operand.tmp 10, Go.Operand.const (Go.Value.int Go.IntKind.i64 0)], argTypes := #[49, 3] }, type := 42, pos := "l6_act.go:114", after := #[{ on := 0, ground := Go.Ground.data }], guard := none }) (oj := { dst := some 5, op := Go.Op.alloc 42, type := 0, pos := "l6_act.go:114", after := #[], guard := none }) (Ni := some 11) (Nj := some 5) #[true, true, true, false, false, true, false, false] #[true, false, true, false, true, true, false, false] rfl rfl rfl rfl (by kernel_rfl) (by decide) (by decide) (fun K hK => ?_) (fun K hK => ?_)
        · refine step_callr (wanted_of rfl) HF rfl rfl Tryd.func40 (by kernel_rfl) rfl (by (try simp only [List.map_toArray, List.map_cons, List.map_nil]); first | done | rfl) (c_arg3 _ v l 0 _ (by rfl) _ _ _ hd0 HA.out HF) ?_
          intro W_ HP
          refine hK.out _ _ (HP.drop1.one at1) (fun _ => ?_)
          refine PrintLast.norm_ ?_ (H101 s _ HP)
          simp only [PrintLast.putAll, Act.put, List.setIfInBounds_toArray, List.set_cons_zero, List.set_cons_succ, Nat.zero_add, Nat.add_zero, Nat.mul_one, Int.toNat_natCast]
        · refine step_alloc (wanted_of rfl) HF rfl rfl ze42 ?_
          intro g_ W_ HP
          refine hK.out _ _ (HP.swap.drop1.drop1.one at1) (fun _ => ?_)
          refine PrintLast.norm_ ?_ (H011 (g_, s.2) _ HP.swap)
          simp only [PrintLast.putAll, Act.put, List.setIfInBounds_toArray, List.set_cons_zero, List.set_cons_succ, Nat.zero_add, Nat.add_zero, Nat.mul_one, Int.toNat_natCast]
      intro H001
      refine PrintLast.join_ (σ := Nat × Nat) 6 #[true, false, true, false, false, false, false, false] (fun s => []) (fun s w' => Priv w w' ([(g4, mc zm), (g3, #[.int .i64 25, v]), (g2, mc m)])) ?_ ?_
      · intro s w' HF
        refine PrintLast.norm_ (a' := ?_) ?_ ?_
        rotate_left
        · simp only [PrintLast.putAll, Act.put, List.setIfInBounds_toArray, List.set_cons_zero, List.set_cons_succ, Nat.zero_add, Nat.add_zero, Nat.mul_one, Int.toNat_natCast]
          rfl
        refine PrintLast.three_ (i := 1) (j := 4) (k := 5) (oi := { dst := some 11, op := Go.Op.call { callee := Go.Callee.value (Go.Operand.func 40), args := #[Go.Operand.tmp 10, Go.Operand.const (Go.Value.int Go.IntKind.i64 0)], argTypes := #[49, 3] }, type := 42, pos := "l6_act.go:114", after := #[{ on := 0, ground := Go.Ground.data }], guard := none }) (oj := { dst := some 5, op := Go.Op.alloc 42, type := 0, pos := "l6_act.go:114", after := #[], guard := none }) (ok := { dst := some 6, op := Go.Op.alloc 42, type := 0, pos := "l6_act.go:114", after := #[], guard := none }) (Ni := some 11) (Nj := some 5) (Nk := some 6) #[true, true, true, false, false, false, false, false] #[true, false, true, false, true, false, false, false] #[true, false, true, false, false, true, false, false] rfl rfl rfl rfl rfl rfl (by kernel_rfl) (by decide) (by decide) (by decide) (fun K hK => ?_) (fun K hK => ?_) (fun K hK => ?_)
        · refine step_callr (wanted_of rfl) HF rfl rfl Tryd.func40 (by kernel_rfl) rfl (by (try simp only [List.map_toArray, List.map_cons, List.map_nil]); first | done | rfl) (c_arg3 _ v l 0 _ (by rfl) _ _ _ hd0 HA.out HF) ?_
          intro W_ HP
          refine hK.out _ _ (HP.one at1) (fun _ => ?_)
          refine PrintLast.norm_ ?_ (H100 s _ HP)
          simp only [PrintLast.putAll, Act.put, List.setIfInBounds_toArray, List.set_cons_zero, List.set_cons_succ, Nat.zero_add, Nat.add_zero, Nat.mul_one, Int.toNat_natCast]
        · refine step_alloc (wanted_of rfl) HF rfl rfl ze42 ?_
          intro g_ W_ HP
          refine hK.out _ _ (HP.drop1.one at1) (fun _ => ?_)
          refine PrintLast.norm_ ?_ (H010 (g_, s.2) _ HP)
          simp only [PrintLast.putAll, Act.put, List.setIfInBounds_toArray, List.set_cons_zero, List.set_cons_succ, Nat.zero_add, Nat.add_zero, Nat.mul_one, Int.toNat_natCast]
        · refine step_alloc (wanted_of rfl) HF rfl rfl ze42 ?_
          intro g_ W_ HP
          refine hK.out _ _ (HP.drop1.one at1) (fun _ => ?_)
          refine PrintLast.norm_ ?_ (H001 (s.1, g_) _ HP)
          simp only [PrintLast.putAll, Act.put, List.setIfInBounds_toArray, List.set_cons_zero, List.set_cons_succ, Nat.zero_add, Nat.add_zero, Nat.mul_one, Int.toNat_natCast]
      intro H000
      exact H000 (0, 0) _ HS.out
    intro s w' HP; clear HS; have HS := Aside0.mk HP; clear HP; obtain ⟨ga_, gb_⟩ := s
    refine PrintLast.norm_ (a' := ?_) ?_ ?_
    rotate_left
    · simp only [PrintLast.putAll, Act.put, List.setIfInBounds_toArray, List.set_cons_zero, List.set_cons_succ, Nat.zero_add, Nat.add_zero, Nat.mul_one, Int.toNat_natCast]
      rfl
    refine PrintLast.one_ (i := 6) (oi := { dst := none, op := Go.Op.store 42 (Go.Operand.tmp 5) (Go.Operand.tmp 11), type := 0, pos := "l6_act.go:114", after := #[{ on := 4, ground := Go.Ground.data }, { on := 1, ground := Go.Ground.data }, { on := 3, ground := Go.Ground.chain }, { on := 0, ground := Go.Ground.phase }, { on := 1, ground := Go.Ground.phase }, { on := 2, ground := Go.Ground.textOnly Go.Departure.lateStores }, { on := 3, ground := Go.Ground.textOnly Go.Departure.lateStoresUnsure }, { on := 4, ground := Go.Ground.phase }, { on := 5, ground := Go.Ground.phase }], guard := none }) (N := none) #[true, true, true, true, true, true, true, false] rfl rfl (by kernel_rfl) (by decide) (fun K hK => ?_)
    refine step_store_seg (wanted_of rfl) HS.out rfl rfl ag42 rfl (by first | exact eval_tmp rfl | exact eval_const) (by first | exact at0 | exact at1 | exact at2 | exact at3 | exact at4 | exact at5 | exact at6) (by with_reducible first | exact set_X _ _ | exact set_Y _ _ | exact set_M _ _ | exact set_S _ _ | exact set_E _ _ | exact set_Time _ _ | exact set_Ran _ _ | exact set_Fault _ _ | exact set_T _ _ | exact set_C _ _ | exact set_D _ _ | exact set_R _ _ | exact put_T _ _ (by omega) _ _ | exact put_C _ _ (by omega) _ _ _ | exact put_D _ _ (by omega) _ | exact put_R _ _ (by omega) _ | exact tc_put _ _ (by omega) _ _ | exact cc_put _ _ (by omega) _ _ _ | exact dc_put _ _ (by omega) _ | exact rc_put _ _ (by omega) _ | exact lay_mc _ _ | exact lay_tc _ _ | exact lay_cc _ _ | exact lay_dc _ _ | exact lay_rc _ _ | exact lay2_0 | exact lay2_1 | exact lay3_0 | exact lay3_1 | exact lay3_2 | exact lay2_w | exact lay3_w) (by with_reducible first | exact mc_size _ | exact tc_size _ | exact cc_size _ | exact dc_size _ | exact rc_size _ | exact sz1 | exact sz2 | exact sz3 | exact sz4) (by simp only [mc_size, tc_size, cc_size, dc_size, rc_size, List.size_toArray, List.length_cons, List.length_nil]; omega) (by first | (with_reducible first | exact mc_one _ | exact tc_one _ | exact cc_one _ | exact dc_one _ | exact rc_one _ | exact t2_one _ _ | exact t3_one _ _ _) | (simp [Value.oneCell']; done)) ?_
    intro W_ HP; clear HS; have HS := Aside0.mk HP; clear HP; (try simp only [List.set_cons_zero, List.set_cons_succ] at HS)
    refine hK.out _ _ (HS.out.drop1.drop1.one at1) (fun _ => ?_)
    clear hK K
    refine PrintLast.one_ (i := 7) (oi := { dst := none, op := Go.Op.store 42 (Go.Operand.tmp 6) (Go.Operand.tmp 13), type := 0, pos := "l6_act.go:114", after := #[{ on := 5, ground := Go.Ground.data }, { on := 3, ground := Go.Ground.data }, { on := 6, ground := Go.Ground.chain }, { on := 0, ground := Go.Ground.phase }, { on := 1, ground := Go.Ground.phase }, { on := 2, ground := Go.Ground.phase }, { on := 3, ground := Go.Ground.phase }, { on := 4, ground := Go.Ground.phase }, { on := 5, ground := Go.Ground.phase }, { on := 6, ground := Go.Ground.phase }], guard := none }) (N := none) #[true, true, true, true, true, true, true, true] rfl rfl (by kernel_rfl) (by decide) (fun K hK => ?_)
    refine step_store_seg (wanted_of rfl) HS.out rfl rfl ag42 rfl (by first | exact eval_tmp rfl | exact eval_const) (by first | exact at0 | exact at1 | exact at2 | exact at3 | exact at4 | exact at5 | exact at6) (by with_reducible first | exact set_X _ _ | exact set_Y _ _ | exact set_M _ _ | exact set_S _ _ | exact set_E _ _ | exact set_Time _ _ | exact set_Ran _ _ | exact set_Fault _ _ | exact set_T _ _ | exact set_C _ _ | exact set_D _ _ | exact set_R _ _ | exact put_T _ _ (by omega) _ _ | exact put_C _ _ (by omega) _ _ _ | exact put_D _ _ (by omega) _ | exact put_R _ _ (by omega) _ | exact tc_put _ _ (by omega) _ _ | exact cc_put _ _ (by omega) _ _ _ | exact dc_put _ _ (by omega) _ | exact rc_put _ _ (by omega) _ | exact lay_mc _ _ | exact lay_tc _ _ | exact lay_cc _ _ | exact lay_dc _ _ | exact lay_rc _ _ | exact lay2_0 | exact lay2_1 | exact lay3_0 | exact lay3_1 | exact lay3_2 | exact lay2_w | exact lay3_w) (by with_reducible first | exact mc_size _ | exact tc_size _ | exact cc_size _ | exact dc_size _ | exact rc_size _ | exact sz1 | exact sz2 | exact sz3 | exact sz4) (by simp only [mc_size, tc_size, cc_size, dc_size, rc_size, List.size_toArray, List.length_cons, List.length_nil]; omega) (by first | (with_reducible first | exact mc_one _ | exact tc_one _ | exact cc_one _ | exact dc_one _ | exact rc_one _ | exact t2_one _ _ | exact t3_one _ _ _) | (simp [Value.oneCell']; done)) ?_
    intro W_ HP; clear HS; have HS := Aside0.mk HP; clear HP; (try simp only [List.set_cons_zero, List.set_cons_succ] at HS)
    refine hK.out _ _ (HS.out.drop1.drop1.one at1) (fun _ => ?_)
    clear hK K
    refine PrintLast.done_ (by kernel_rfl) ?_
    go_wp2_with ((first | ((with_reducible refine gate_dst (N := 15) rfl ?_); refine call_ev2 HS.out rfl rfl Tryd.func39 (by kernel_rfl) rfl (by (try simp only [List.map_toArray, List.map_cons, List.map_nil]); first | done | rfl) (c_placeE _ _ _ _ hpl _ (HT.out.below HS.out.below)) ?_; rintro v_ W_ rfl HP HB_; clear HS; have HS := Aside0.mk HP; clear HP; clear HB_) | ((with_reducible refine gate_region (id := 12) ?_); refine region_tail HS.out 8 (by kernel_rfl) (by kernel_rfl) ?_; intro W_ HP HB_; clear HS; have HS := Aside0.mk HP; clear HP; clear HB_; simp only [List.take_succ_cons, List.take_zero, List.drop_succ_cons, List.drop_zero]; (repeat (first           | ((with_reducible refine st_gate (N := 80) rfl ?_); (with_reducible refine st_field_at rfl rfl rfl fo37_3 ?_); (try simp only [toNat_16, toNat_12, Int.toNat_natCast, Nat.zero_add, Nat.add_zero, Nat.mul_one]))           | ((with_reducible refine st_gate (N := 81) rfl ?_); (with_reducible refine st_load_one HS.out rfl rfl on25 rfl (by first | exact at0 | exact at1 | exact at2 | exact at3 | exact at4 | exact at5 | exact at6) (by with_reducible first | exact get_X _ | exact get_Y _ | exact get_M _ | exact get_S _ | exact get_E _ | exact get_Time _ | exact get_Ran _ | exact get_Fault _ | exact el_T0 _ _ (by omega) | exact el_T1 _ _ (by omega) | exact el_C0 _ _ (by omega) | exact el_C1 _ _ (by omega) | exact el_C2 _ _ (by omega) | exact el_D _ _ (by omega) | exact el_R _ _ (by omega) | exact dc_get _ _ (by omega) | exact rc_get _ _ (by omega) | exact at0a | exact at1a | exact at2a | exact at3a) ?_))           | ((with_reducible refine st_gate (N := 87) rfl ?_); (with_reducible refine st_field_at rfl rfl rfl fo37_3 ?_); (try simp only [toNat_16, toNat_12, Int.toNat_natCast, Nat.zero_add, Nat.add_zero, Nat.mul_one]))           | still_step)); refine wpStill_nil ?_) | (go_at_call 28; refine (c_MemPut0 _ (cleared_wf m wf _ (by omega)) 4 j 0 true j hpl (fun _ => hlt) _ (HT.out.below HS.out.below)).mono ?_; rintro e_ W_ ⟨v_, rfl, rfl, HB_⟩; have HP := HS.out.call HB_; clear HB_; clear HS; have HS := Aside0.mk HP; clear HP) | (first
      | ((with_reducible refine gate_dst (N := 14) rfl ?_); (with_reducible refine load_seg HS.out rfl rfl ag42 rfl (by first | exact at0 | exact at1 | exact at2 | exact at3 | exact at4 | exact at5 | exact at6) (by with_reducible first | exact tc_el _ _ (by omega) | exact cc_el _ _ (by omega) | exact whole _) (by with_reducible first | exact mc_size _ | exact tc_size _ | exact cc_size _ | exact dc_size _ | exact rc_size _ | exact sz1 | exact sz2 | exact sz3 | exact sz4) ?_))
      | ((with_reducible refine gate_dst (N := 17) rfl ?_); (with_reducible refine field_at rfl rfl rfl fo49_0 ?_); (try simp only [toNat_16, toNat_12, Int.toNat_natCast, Nat.zero_add, Nat.add_zero, Nat.mul_one]))
      | ((with_reducible refine gate_dst (N := 18) rfl ?_); (with_reducible refine load_one HS.out rfl rfl on3 rfl (by first | exact at0 | exact at1 | exact at2 | exact at3 | exact at4 | exact at5 | exact at6) (by with_reducible first | exact dc_get _ _ (by omega) | exact rc_get _ _ (by omega) | exact at0a | exact at1a | exact at2a | exact at3a) ?_))
      | ((with_reducible refine gate_dst (N := 21) rfl ?_); refine ungate (by rfl) ?_; (with_reducible refine field_at rfl rfl rfl fo42_0 ?_); (try simp only [toNat_16, toNat_12, Int.toNat_natCast, Nat.zero_add, Nat.add_zero, Nat.mul_one]))
      | ((with_reducible refine gate_dst (N := 22) rfl ?_); refine ungate (by rfl) ?_; (with_reducible refine load_one HS.out rfl rfl on3 rfl (by first | exact at0 | exact at1 | exact at2 | exact at3 | exact at4 | exact at5 | exact at6) (by with_reducible first | exact dc_get _ _ (by omega) | exact rc_get _ _ (by omega) | exact at0a | exact at1a | exact at2a | exact at3a) ?_))
      | ((with_reducible refine gate_store (t := 37) (p := 4) rfl ?_); (with_reducible refine store_seg HS.out rfl rfl rfl ag37 rfl (by first | exact eval_tmp rfl | exact eval_const) (by first | exact at0 | exact at1 | exact at2 | exact at3 | exact at4 | exact at5 | exact at6) (by with_reducible first | exact tc_put _ _ (by omega) _ _ | exact cc_put _ _ (by omega) _ _ _ | exact dc_put _ _ (by omega) _ | exact rc_put _ _ (by omega) _ | exact lay_mc _ _ | exact lay_tc _ _ | exact lay_cc _ _ | exact lay_dc _ _ | exact lay_rc _ _ | exact lay2_0 | exact lay2_1 | exact lay3_0 | exact lay3_1 | exact lay3_2 | exact lay2_w | exact lay3_w) (by with_reducible first | exact mc_size _ | exact tc_size _ | exact cc_size _ | exact dc_size _ | exact rc_size _ | exact sz1 | exact sz2 | exact sz3 | exact sz4) (by simp only [mc_size, tc_size, cc_size, dc_size, rc_size, List.size_toArray, List.length_cons, List.length_nil]; omega) (by first | (with_reducible first | exact mc_one _ | exact tc_one _ | exact cc_one _ | exact dc_one _ | exact rc_one _ | exact t2_one _ _ | exact t3_one _ _ _) | (simp [Value.oneCell']; done)) ?_); intro W_ HP; clear HS; have HS := Aside0.mk HP; clear HP; (try simp only [List.set_cons_zero, List.set_cons_succ] at HS))
      | ((with_reducible refine gate_dst (N := 29) rfl ?_); (with_reducible refine field_at rfl rfl rfl fo49_0 ?_); (try simp only [toNat_16, toNat_12, Int.toNat_natCast, Nat.zero_add, Nat.add_zero, Nat.mul_one]))
      | ((with_reducible refine gate_dst (N := 30) rfl ?_); (with_reducible refine load_one HS.out rfl rfl on3 rfl (by first | exact at0 | exact at1 | exact at2 | exact at3 | exact at4 | exact at5 | exact at6) (by with_reducible first | exact dc_get _ _ (by omega) | exact rc_get _ _ (by omega) | exact at0a | exact at1a | exact at2a | exact at3a) ?_))
      | ((with_reducible refine gate_dst (N := 33) rfl ?_); refine ungate (by rfl) ?_; (with_reducible refine field_at rfl rfl rfl fo42_0 ?_); (try simp only [toNat_16, toNat_12, Int.toNat_natCast, Nat.zero_add, Nat.add_zero, Nat.mul_one]))
      | ((with_reducible refine gate_dst (N := 34) rfl ?_); refine ungate (by rfl) ?_; (with_reducible refine load_one HS.out rfl rfl on3 rfl (by first | exact at0 | exact at1 | exact at2 | exact at3 | exact at4 | exact at5 | exact at6) (by with_reducible first | exact dc_get _ _ (by omega) | exact rc_get _ _ (by omega) | exact at0a | exact at1a | exact at2a | exact at3a) ?_))
      | ((with_reducible refine gate_dst (N := 42) rfl ?_); (with_reducible refine field_at rfl rfl rfl fo49_0 ?_); (try simp only [toNat_16, toNat_12, Int.toNat_natCast, Nat.zero_add, Nat.add_zero, Nat.mul_one]))
      | ((with_reducible refine gate_dst (N := 43) rfl ?_); (with_reducible refine load_one HS.out rfl rfl on3 rfl (by first | exact at0 | exact at1 | exact at2 | exact at3 | exact at4 | exact at5 | exact at6) (by with_reducible first | exact dc_get _ _ (by omega) | exact rc_get _ _ (by omega) | exact at0a | exact at1a | exact at2a | exact at3a) ?_))
      | ((with_reducible refine gate_dst (N := 46) rfl ?_); refine ungate (by rfl) ?_; (with_reducible refine field_at rfl rfl rfl fo42_0 ?_); (try simp only [toNat_16, toNat_12, Int.toNat_natCast, Nat.zero_add, Nat.add_zero, Nat.mul_one]))
      | ((with_reducible refine gate_dst (N := 47) rfl ?_); refine ungate (by rfl) ?_; (with_reducible refine load_one HS.out rfl rfl on3 rfl (by first | exact at0 | exact at1 | exact at2 | exact at3 | exact at4 | exact at5 | exact at6) (by with_reducible first | exact dc_get _ _ (by omega) | exact rc_get _ _ (by omega) | exact at0a | exact at1a | exact at2a | exact at3a) ?_))
      | ((with_reducible refine gate_dst (N := 60) rfl ?_); (with_reducible refine field_at rfl rfl rfl fo49_0 ?_); (try simp only [toNat_16, toNat_12, Int.toNat_natCast, Nat.zero_add, Nat.add_zero, Nat.mul_one]))
      | ((with_reducible refine gate_dst (N := 61) rfl ?_); (with_reducible refine load_one HS.out rfl rfl on3 rfl (by first | exact at0 | exact at1 | exact at2 | exact at3 | exact at4 | exact at5 | exact at6) (by with_reducible first | exact dc_get _ _ (by omega) | exact rc_get _ _ (by omega) | exact at0a | exact at1a | exact at2a | exact at3a) ?_))
      | ((with_reducible refine gate_dst (N := 64) rfl ?_); refine ungate (by rfl) ?_; (with_reducible refine field_at rfl rfl rfl fo42_0 ?_); (try simp only [toNat_16, toNat_12, Int.toNat_natCast, Nat.zero_add, Nat.add_zero, Nat.mul_one]))
      | ((with_reducible refine gate_dst (N := 65) rfl ?_); refine ungate (by rfl) ?_; (with_reducible refine load_one HS.out rfl rfl on3 rfl (by first | exact at0 | exact at1 | exact at2 | exact at3 | exact at4 | exact at5 | exact at6) (by with_reducible first | exact dc_get _ _ (by omega) | exact rc_get _ _ (by omega) | exact at0a | exact at1a | exact at2a | exact at3a) ?_))
      | ((with_reducible refine gate_store (t := 37) (p := 4) rfl ?_); (with_reducible refine store_seg HS.out rfl rfl rfl ag37 rfl (by first | exact eval_tmp rfl | exact eval_const) (by first | exact at0 | exact at1 | exact at2 | exact at3 | exact at4 | exact at5 | exact at6) (by with_reducible first | exact tc_put _ _ (by omega) _ _ | exact cc_put _ _ (by omega) _ _ _ | exact dc_put _ _ (by omega) _ | exact rc_put _ _ (by omega) _ | exact lay_mc _ _ | exact lay_tc _ _ | exact lay_cc _ _ | exact lay_dc _ _ | exact lay_rc _ _ | exact lay2_0 | exact lay2_1 | exact lay3_0 | exact lay3_1 | exact lay3_2 | exact lay2_w | exact lay3_w) (by with_reducible first | exact mc_size _ | exact tc_size _ | exact cc_size _ | exact dc_size _ | exact rc_size _ | exact sz1 | exact sz2 | exact sz3 | exact sz4) (by simp only [mc_size, tc_size, cc_size, dc_size, rc_size, List.size_toArray, List.length_cons, List.length_nil]; omega) (by first | (with_reducible first | exact mc_one _ | exact tc_one _ | exact cc_one _ | exact dc_one _ | exact rc_one _ | exact t2_one _ _ | exact t3_one _ _ _) | (simp [Value.oneCell']; done)) ?_); intro W_ HP; clear HS; have HS := Aside0.mk HP; clear HP; (try simp only [List.set_cons_zero, List.set_cons_succ] at HS))
      | ((with_reducible refine gate_dst (N := 72) rfl ?_); (with_reducible refine field_at rfl rfl rfl fo49_0 ?_); (try simp only [toNat_16, toNat_12, Int.toNat_natCast, Nat.zero_add, Nat.add_zero, Nat.mul_one]))
      | ((with_reducible refine gate_dst (N := 73) rfl ?_); (with_reducible refine load_one HS.out rfl rfl on3 rfl (by first | exact at0 | exact at1 | exact at2 | exact at3 | exact at4 | exact at5 | exact at6) (by with_reducible first | exact dc_get _ _ (by omega) | exact rc_get _ _ (by omega) | exact at0a | exact at1a | exact at2a | exact at3a) ?_))
      | ((with_reducible refine gate_dst (N := 76) rfl ?_); refine ungate (by rfl) ?_; (with_reducible refine field_at rfl rfl rfl fo42_0 ?_); (try simp only [toNat_16, toNat_12, Int.toNat_natCast, Nat.zero_add, Nat.add_zero, Nat.mul_one]))
      | ((with_reducible refine gate_dst (N := 77) rfl ?_); refine ungate (by rfl) ?_; (with_reducible refine load_one HS.out rfl rfl on3 rfl (by first | exact at0 | exact at1 | exact at2 | exact at3 | exact at4 | exact at5 | exact at6) (by with_reducible first | exact dc_get _ _ (by omega) | exact rc_get _ _ (by omega) | exact at0a | exact at1a | exact at2a | exact at3a) ?_))
      | ((with_reducible refine gate_dst (N := 80) rfl ?_); (with_reducible refine field_at rfl rfl rfl fo37_3 ?_); (try simp only [toNat_16, toNat_12, Int.toNat_natCast, Nat.zero_add, Nat.add_zero, Nat.mul_one]))
      | ((with_reducible refine gate_dst (N := 81) rfl ?_); (with_reducible refine load_one HS.out rfl rfl on25 rfl (by first | exact at0 | exact at1 | exact at2 | exact at3 | exact at4 | exact at5 | exact at6) (by with_reducible exact get_S _) ?_))
      | ((with_reducible refine gate_dst (N := 87) rfl ?_); (with_reducible refine field_at rfl rfl rfl fo37_3 ?_); (try simp only [toNat_16, toNat_12, Int.toNat_natCast, Nat.zero_add, Nat.add_zero, Nat.mul_one]))
      | ((with_reducible refine gate_store (t := 25) (p := 87) rfl ?_); (with_reducible refine store_one HS.out rfl rfl rfl on25 rfl (by first | exact eval_tmp rfl | exact eval_const) (by first | exact at0 | exact at1 | exact at2 | exact at3 | exact at4 | exact at5 | exact at6) (by with_reducible exact set_S _ _) (by simp only [mc_size, tc_size, cc_size, dc_size, rc_size, List.size_toArray, List.length_cons, List.length_nil]; omega) rfl rfl ?_); intro W_ HP; clear HS; have HS := Aside0.mk HP; clear HP; (try simp only [List.set_cons_zero, List.set_cons_succ] at HS))
      | ((with_reducible refine gate_dst (N := 88) rfl ?_); (with_reducible refine load_seg HS.out rfl rfl ag37 rfl (by first | exact at0 | exact at1 | exact at2 | exact at3 | exact at4 | exact at5 | exact at6) (by with_reducible first | exact tc_el _ _ (by omega) | exact cc_el _ _ (by omega) | exact whole _) (by with_reducible first | exact mc_size _ | exact tc_size _ | exact cc_size _ | exact dc_size _ | exact rc_size _ | exact sz1 | exact sz2 | exact sz3 | exact sz4) ?_))
      | ((with_reducible refine gate_dst (N := 89) rfl ?_); (with_reducible refine load_seg HS.out rfl rfl ag42 rfl (by first | exact at0 | exact at1 | exact at2 | exact at3 | exact at4 | exact at5 | exact at6) (by with_reducible first | exact tc_el _ _ (by omega) | exact cc_el _ _ (by omega) | exact whole _) (by with_reducible first | exact mc_size _ | exact tc_size _ | exact cc_size _ | exact dc_size _ | exact rc_size _ | exact sz1 | exact sz2 | exact sz3 | exact sz4) ?_))
      | ((with_reducible refine gate_store (t := 37) (p := 4) rfl ?_); (with_reducible refine store_seg HS.out rfl rfl rfl ag37 rfl (by first | exact eval_tmp rfl | exact eval_const) (by first | exact at0 | exact at1 | exact at2 | exact at3 | exact at4 | exact at5 | exact at6) (by with_reducible first | exact tc_put _ _ (by omega) _ _ | exact cc_put _ _ (by omega) _ _ _ | exact dc_put _ _ (by omega) _ | exact rc_put _ _ (by omega) _ | exact lay_mc _ _ | exact lay_tc _ _ | exact lay_cc _ _ | exact lay_dc _ _ | exact lay_rc _ _ | exact lay2_0 | exact lay2_1 | exact lay3_0 | exact lay3_1 | exact lay3_2 | exact lay2_w | exact lay3_w) (by with_reducible first | exact mc_size _ | exact tc_size _ | exact cc_size _ | exact dc_size _ | exact rc_size _ | exact sz1 | exact sz2 | exact sz3 | exact sz4) (by simp only [mc_size, tc_size, cc_size, dc_size, rc_size, List.size_toArray, List.length_cons, List.length_nil]; omega) (by first | (with_reducible first | exact mc_one _ | exact tc_one _ | exact cc_one _ | exact dc_one _ | exact rc_one _ | exact t2_one _ _ | exact t3_one _ _ _) | (simp [Value.oneCell']; done)) ?_); intro W_ HP; clear HS; have HS := Aside0.mk HP; clear HP; (try simp only [List.set_cons_zero, List.set_cons_succ] at HS))
      | ((with_reducible refine gate_store (t := 37) (p := 4) rfl ?_); (with_reducible refine store_seg HS.out rfl rfl rfl ag37 rfl (by first | exact eval_tmp rfl | exact eval_const) (by first | exact at0 | exact at1 | exact at2 | exact at3 | exact at4 | exact at5 | exact at6) (by with_reducible first | exact tc_put _ _ (by omega) _ _ | exact cc_put _ _ (by omega) _ _ _ | exact dc_put _ _ (by omega) _ | exact rc_put _ _ (by omega) _ | exact lay_mc _ _ | exact lay_tc _ _ | exact lay_cc _ _ | exact lay_dc _ _ | exact lay_rc _ _ | exact lay2_0 | exact lay2_1 | exact lay3_0 | exact lay3_1 | exact lay3_2 | exact lay2_w | exact lay3_w) (by with_reducible first | exact mc_size _ | exact tc_size _ | exact cc_size _ | exact dc_size _ | exact rc_size _ | exact sz1 | exact sz2 | exact sz3 | exact sz4) (by simp only [mc_size, tc_size, cc_size, dc_size, rc_size, List.size_toArray, List.length_cons, List.length_nil]; omega) (by first | (with_reducible first | exact mc_one _ | exact tc_one _ | exact cc_one _ | exact dc_one _ | exact rc_one _ | exact t2_one _ _ | exact t3_one _ _ _) | (simp [Value.oneCell']; done)) ?_); intro W_ HP; clear HS; have HS := Aside0.mk HP; clear HP; (try simp only [List.set_cons_zero, List.set_cons_succ] at HS))
      | ((with_reducible refine gate_store (t := 37) (p := 4) rfl ?_); (with_reducible refine store_seg HS.out rfl rfl rfl ag37 rfl (by first | exact eval_tmp rfl | exact eval_const) (by first | exact at0 | exact at1 | exact at2 | exact at3 | exact at4 | exact at5 | exact at6) (by with_reducible first | exact tc_put _ _ (by omega) _ _ | exact cc_put _ _ (by omega) _ _ _ | exact dc_put _ _ (by omega) _ | exact rc_put _ _ (by omega) _ | exact lay_mc _ _ | exact lay_tc _ _ | exact lay_cc _ _ | exact lay_dc _ _ | exact lay_rc _ _ | exact lay2_0 | exact lay2_1 | exact lay3_0 | exact lay3_1 | exact lay3_2 | exact lay2_w | exact lay3_w) (by with_reducible first | exact mc_size _ | exact tc_size _ | exact cc_size _ | exact dc_size _ | exact rc_size _ | exact sz1 | exact sz2 | exact sz3 | exact sz4) (by simp only [mc_size, tc_size, cc_size, dc_size, rc_size, List.size_toArray, List.length_cons, List.length_nil]; omega) (by first | (with_reducible first | exact mc_one _ | exact tc_one _ | exact cc_one _ | exact dc_one _ | exact rc_one _ | exact t2_one _ _ | exact t3_one _ _ _) | (simp [Value.oneCell']; done)) ?_); intro W_ HP; clear HS; have HS := Aside0.mk HP; clear HP; (try simp only [List.set_cons_zero, List.set_cons_succ] at HS))
      | ((with_reducible refine gate_store (t := 37) (p := 4) rfl ?_); (with_reducible refine store_seg HS.out rfl rfl rfl ag37 rfl (by first | exact eval_tmp rfl | exact eval_const) (by first | exact at0 | exact at1 | exact at2 | exact at3 | exact at4 | exact at5 | exact at6) (by with_reducible first | exact tc_put _ _ (by omega) _ _ | exact cc_put _ _ (by omega) _ _ _ | exact dc_put _ _ (by omega) _ | exact rc_put _ _ (by omega) _ | exact lay_mc _ _ | exact lay_tc _ _ | exact lay_cc _ _ | exact lay_dc _ _ | exact lay_rc _ _ | exact lay2_0 | exact lay2_1 | exact lay3_0 | exact lay3_1 | exact lay3_2 | exact lay2_w | exact lay3_w) (by with_reducible first | exact mc_size _ | exact tc_size _ | exact cc_size _ | exact dc_size _ | exact rc_size _ | exact sz1 | exact sz2 | exact sz3 | exact sz4) (by simp only [mc_size, tc_size, cc_size, dc_size, rc_size, List.size_toArray, List.length_cons, List.length_nil]; omega) (by first | (with_reducible first | exact mc_one _ | exact tc_one _ | exact cc_one _ | exact dc_one _ | exact rc_one _ | exact t2_one _ _ | exact t3_one _ _ _) | (simp [Value.oneCell']; done)) ?_); intro W_ HP; clear HS; have HS := Aside0.mk HP; clear HP; (try simp only [List.set_cons_zero, List.set_cons_succ] at HS))
      | ((with_reducible refine gate_store (t := 37) (p := 4) rfl ?_); (with_reducible refine store_seg HS.out rfl rfl rfl ag37 rfl (by first | exact eval_tmp rfl | exact eval_const) (by first | exact at0 | exact at1 | exact at2 | exact at3 | exact at4 | exact at5 | exact at6) (by with_reducible first | exact tc_put _ _ (by omega) _ _ | exact cc_put _ _ (by omega) _ _ _ | exact dc_put _ _ (by omega) _ | exact rc_put _ _ (by omega) _ | exact lay_mc _ _ | exact lay_tc _ _ | exact lay_cc _ _ | exact lay_dc _ _ | exact lay_rc _ _ | exact lay2_0 | exact lay2_1 | exact lay3_0 | exact lay3_1 | exact lay3_2 | exact lay2_w | exact lay3_w) (by with_reducible first | exact mc_size _ | exact tc_size _ | exact cc_size _ | exact dc_size _ | exact rc_size _ | exact sz1 | exact sz2 | exact sz3 | exact sz4) (by simp only [mc_size, tc_size, cc_size, dc_size, rc_size, List.size_toArray, List.length_cons, List.length_nil]; omega) (by first | (with_reducible first | exact mc_one _ | exact tc_one _ | exact cc_one _ | exact dc_one _ | exact rc_one _ | exact t2_one _ _ | exact t3_one _ _ _) | (simp [Value.oneCell']; done)) ?_); intro W_ HP; clear HS; have HS := Aside0.mk HP; clear HP; (try simp only [List.set_cons_zero, List.set_cons_succ] at HS))
      | ((with_reducible refine gate_store (t := 37) (p := 4) rfl ?_); (with_reducible refine store_seg HS.out rfl rfl rfl ag37 rfl (by first | exact eval_tmp rfl | exact eval_const) (by first | exact at0 | exact at1 | exact at2 | exact at3 | exact at4 | exact at5 | exact at6) (by with_reducible first | exact tc_put _ _ (by omega) _ _ | exact cc_put _ _ (by omega) _ _ _ | exact dc_put _ _ (by omega) _ | exact rc_put _ _ (by omega) _ | exact lay_mc _ _ | exact lay_tc _ _ | exact lay_cc _ _ | exact lay_dc _ _ | exact lay_rc _ _ | exact lay2_0 | exact lay2_1 | exact lay3_0 | exact lay3_1 | exact lay3_2 | exact lay2_w | exact lay3_w) (by with_reducible first | exact mc_size _ | exact tc_size _ | exact cc_size _ | exact dc_size _ | exact rc_size _ | exact sz1 | exact sz2 | exact sz3 | exact sz4) (by simp only [mc_size, tc_size, cc_size, dc_size, rc_size, List.size_toArray, List.length_cons, List.length_nil]; omega) (by first | (with_reducible first | exact mc_one _ | exact tc_one _ | exact cc_one _ | exact dc_one _ | exact rc_one _ | exact t2_one _ _ | exact t3_one _ _ _) | (simp [Value.oneCell']; done)) ?_); intro W_ HP; clear HS; have HS := Aside0.mk HP; clear HP; (try simp only [List.set_cons_zero, List.set_cons_succ] at HS))
      | ((with_reducible refine gate_store (t := 37) (p := 4) rfl ?_); (with_reducible refine store_seg HS.out rfl rfl rfl ag37 rfl (by first | exact eval_tmp rfl | exact eval_const) (by first | exact at0 | exact at1 | exact at2 | exact at3 | exact at4 | exact at5 | exact at6) (by with_reducible first | exact tc_put _ _ (by omega) _ _ | exact cc_put _ _ (by omega) _ _ _ | exact dc_put _ _ (by omega) _ | exact rc_put _ _ (by omega) _ | exact lay_mc _ _ | exact lay_tc _ _ | exact lay_cc _ _ | exact lay_dc _ _ | exact lay_rc _ _ | exact lay2_0 | exact lay2_1 | exact lay3_0 | exact lay3_1 | exact lay3_2 | exact lay2_w | exact lay3_w) (by with_reducible first | exact mc_size _ | exact tc_size _ | exact cc_size _ | exact dc_size _ | exact rc_size _ | exact sz1 | exact sz2 | exact sz3 | exact sz4) (by simp only [mc_size, tc_size, cc_size, dc_size, rc_size, List.size_toArray, List.length_cons, List.length_nil]; omega) (by first | (with_reducible first | exact mc_one _ | exact tc_one _ | exact cc_one _ | exact dc_one _ | exact rc_one _ | exact t2_one _ _ | exact t3_one _ _ _) | (simp [Value.oneCell']; done)) ?_); intro W_ HP; clear HS; have HS := Aside0.mk HP; clear HP; (try simp only [List.set_cons_zero, List.set_cons_succ] at HS))
      | ((with_reducible refine gate_store (t := 37) (p := 4) rfl ?_); (with_reducible refine store_seg HS.out rfl rfl rfl ag37 rfl (by first | exact eval_tmp rfl | exact eval_const) (by first | exact at0 | exact at1 | exact at2 | exact at3 | exact at4 | exact at5 | exact at6) (by with_reducible first | exact tc_put _ _ (by omega) _ _ | exact cc_put _ _ (by omega) _ _ _ | exact dc_put _ _ (by omega) _ | exact rc_put _ _ (by omega) _ | exact lay_mc _ _ | exact lay_tc _ _ | exact lay_cc _ _ | exact lay_dc _ _ | exact lay_rc _ _ | exact lay2_0 | exact lay2_1 | exact lay3_0 | exact lay3_1 | exact lay3_2 | exact lay2_w | exact lay3_w) (by with_reducible first | exact mc_size _ | exact tc_size _ | exact cc_size _ | exact dc_size _ | exact rc_size _ | exact sz1 | exact sz2 | exact sz3 | exact sz4) (by simp only [mc_size, tc_size, cc_size, dc_size, rc_size, List.size_toArray, List.length_cons, List.length_nil]; omega) (by first | (with_reducible first | exact mc_one _ | exact tc_one _ | exact cc_one _ | exact dc_one _ | exact rc_one _ | exact t2_one _ _ | exact t3_one _ _ _) | (simp [Value.oneCell']; done)) ?_); intro W_ HP; clear HS; have HS := Aside0.mk HP; clear HP; (try simp only [List.set_cons_zero, List.set_cons_succ] at HS)))); (try simp only [Act.put, List.setIfInBounds_toArray, List.set_cons_zero, List.set_cons_succ]))
    refine ret_agg HS.out (by rfl) (by rfl) (by rfl) (by first | exact at0 | exact at1 | exact at2 | exact at3 | exact at4 | exact at5 | exact at6) ag37 (by with_reducible first | exact mc_size _ | exact tc_size _ | exact cc_size _ | exact dc_size _ | exact rc_size _ | exact sz1 | exact sz2 | exact sz3 | exact sz4) ?_
    exact ⟨_, rfl, rfl, HS.out.below⟩
  · have hq : (j : Int) / 8 = 1 := hq_
    clear hq_
    go_enter Tryd.func45, Tryd.ntmps45
    go_wp2_with ((first
      | ((with_reducible refine gate_dst (N := 2) rfl ?_); (with_reducible refine box_new HS.out rfl rfl (by first | exact eval_tmp rfl | exact eval_const) ?_); intro g2 W2_ HP; clear HS; have HS := Aside0.mk HP; clear HP)
      | ((with_reducible refine gate_dst (N := 3) rfl ?_); (with_reducible refine box_new HS.out rfl rfl (by first | exact eval_tmp rfl | exact eval_const) ?_); intro g3 W3_ HP; clear HS; have HS := Aside0.mk HP; clear HP)
      | ((with_reducible refine gate_dst (N := 4) rfl ?_); (with_reducible refine alloc_new HS.out rfl rfl ze37 ?_); intro g4 W4_ HP; clear HS; have HS := Aside0.mk HP; clear HP)); (try simp only [Act.put, List.setIfInBounds_toArray, List.set_cons_zero, List.set_cons_succ]))
    refine start_R (LS := _) (n := 8) #[false, false, false, false, false, false, false, false] HS.out (by kernel_rfl) rfl rfl (fun W_ HSS => HSS.one at1) ?_
    intro W_ HP hHeld; clear HS; have HS := Aside0.mk HP; clear HP
    refine PrintLast.take_ (i := 0) (oi := { dst := some 10, op := Go.Op.load 49 (Go.Operand.tmp 3), type := 49, pos := "l6_act.go:114", after := #[], guard := none }) (N := some 10) (v := ?_) (a' := ?_) #[true, false, false, false, false, false, false, false] rfl rfl (by kernel_rfl) (fun _ _ _ h => h) (Or.inl ⟨by rfl, ?_⟩) hHeld ?_ ?_
    rotate_left
    · intro w' hS
      refine Eq.trans (run_load_seg hS rfl rfl ag49 rfl (by first | exact at0 | exact at1 | exact at2 | exact at3 | exact at4 | exact at5 | exact at6) (by with_reducible first | exact get_T _ | exact get_C _ | exact get_D _ | exact get_R _ | exact el_T _ _ (by omega) | exact el_C _ _ (by omega) | exact tc_el _ _ (by omega) | exact cc_el _ _ (by omega) | exact whole _) (by with_reducible first | exact mc_size _ | exact tc_size _ | exact cc_size _ | exact dc_size _ | exact rc_size _ | exact sz1 | exact sz2 | exact sz3 | exact sz4)) ?_
      with_reducible rfl
    rotate_left
    · simp only [PrintLast.putAll, Act.put, List.setIfInBounds_toArray, List.set_cons_zero, List.set_cons_succ, Nat.zero_add, Nat.add_zero, Nat.mul_one, Int.toNat_natCast]
      rfl
    refine PrintLast.take_ (i := 2) (oi := { dst := some 12, op := Go.Op.load 49 (Go.Operand.tmp 3), type := 49, pos := "l6_act.go:114", after := #[], guard := none }) (N := some 12) (v := ?_) (a' := ?_) #[true, false, true, false, false, false, false, false] rfl rfl (by kernel_rfl) (fun _ _ _ h => h) (Or.inl ⟨by rfl, ?_⟩) hHeld ?_ ?_
    rotate_left
    · intro w' hS
      refine Eq.trans (run_load_seg hS rfl rfl ag49 rfl (by first | exact at0 | exact at1 | exact at2 | exact at3 | exact at4 | exact at5 | exact at6) (by with_reducible first | exact get_T _ | exact get_C _ | exact get_D _ | exact get_R _ | exact el_T _ _ (by omega) | exact el_C _ _ (by omega) | exact tc_el _ _ (by omega) | exact cc_el _ _ (by omega) | exact whole _) (by with_reducible first | exact mc_size _ | exact tc_size _ | exact cc_size _ | exact dc_size _ | exact rc_size _ | exact sz1 | exact sz2 | exact sz3 | exact sz4)) ?_
      with_reducible rfl
    rotate_left
    · simp only [PrintLast.putAll, Act.put, List.setIfInBounds_toArray, List.set_cons_zero, List.set_cons_succ, Nat.zero_add, Nat.add_zero, Nat.mul_one, Int.toNat_natCast]
      rfl
    clear hHeld
    refine PrintLast.join_ (σ := Nat × Nat) 2 #[true, true, true, true, true, true, false, false] (fun s => [(11, .agg #[.int .i64 4, .int .i64 (j : Int), .int .i64 0]), (13, .agg #[.int .i64 0, .int .i64 0, .int .i64 0]), (5, .pointer (some ⟨s.1, 0, none⟩)), (6, .pointer (some ⟨s.2, 0, none⟩))]) (fun s w' => Priv w w' ((s.2, #[.int .i64 0, .int .i64 0, .int .i64 0]) :: (s.1, #[.int .i64 0, .int .i64 0, .int .i64 0]) :: [(g4, mc zm), (g3, #[.int .i64 25, v]), (g2, mc m)])) ?_ ?_
    rotate_left
    · intro H211
      refine PrintLast.join_ (σ := Nat × Nat) 3 #[true, true, true, true, true, false, false, false] (fun s => [(11, .agg #[.int .i64 4, .int .i64 (j : Int), .int .i64 0]), (13, .agg #[.int .i64 0, .int .i64 0, .int .i64 0]), (5, .pointer (some ⟨s.1, 0, none⟩))]) (fun s w' => Priv w w' ((s.1, #[.int .i64 0, .int .i64 0, .int .i64 0]) :: [(g4, mc zm), (g3, #[.int .i64 25, v]), (g2, mc m)])) ?_ ?_
      · intro s w' HF
        refine PrintLast.norm_ (a' := ?_) ?_ ?_
        rotate_left
        · simp only [PrintLast.putAll, Act.put, List.setIfInBounds_toArray, List.set_cons_zero, List.set_cons_succ, Nat.zero_add, Nat.add_zero, Nat.mul_one, Int.toNat_natCast]
          rfl
        refine PrintLast.one_ (i := 5) (oi := { dst := some 6, op := Go.Op.alloc 42, type := 0, pos := "l6_act.go:114", after := #[], guard := none }) (N := some 6) #[true, true, true, true, true, true, false, false] rfl rfl (by kernel_rfl) (by decide) (fun K hK => ?_)
        · refine step_alloc (wanted_of rfl) HF rfl rfl ze42 ?_
          intro g_ W_ HP
          refine hK.out _ _ (HP.drop1.drop1.one at1) (fun _ => ?_)
          refine PrintLast.norm_ ?_ (H211 (s.1, g_) _ HP)
          simp only [PrintLast.putAll, Act.put, List.setIfInBounds_toArray, List.set_cons_zero, List.set_cons_succ, Nat.zero_add, Nat.add_zero, Nat.mul_one, Int.toNat_natCast]
      intro H210
      refine PrintLast.join_ (σ := Nat × Nat) 3 #[true, true, true, true, false, true, false, false] (fun s => [(11, .agg #[.int .i64 4, .int .i64 (j : Int), .int .i64 0]), (13, .agg #[.int .i64 0, .int .i64 0, .int .i64 0]), (6, .pointer (some ⟨s.2, 0, none⟩))]) (fun s w' => Priv w w' ((s.2, #[.int .i64 0, .int .i64 0, .int .i64 0]) :: [(g4, mc zm), (g3, #[.int .i64 25, v]), (g2, mc m)])) ?_ ?_
      · intro s w' HF
        refine PrintLast.norm_ (a' := ?_) ?_ ?_
        rotate_left
        · simp only [PrintLast.putAll, Act.put, List.setIfInBounds_toArray, List.set_cons_zero, List.set_cons_succ, Nat.zero_add, Nat.add_zero, Nat.mul_one, Int.toNat_natCast]
          rfl
        refine PrintLast.one_ (i := 4) (oi := { dst := some 5, op := Go.Op.alloc 42, type := 0, pos := "l6_act.go:114", after := #[], guard := none }) (N := some 5) #[true, true, true, true, true, true, false, false] rfl rfl (by kernel_rfl) (by decide) (fun K hK => ?_)
        · refine step_alloc (wanted_of rfl) HF rfl rfl ze42 ?_
          intro g_ W_ HP
          refine hK.out _ _ (HP.swap.drop1.drop1.one at1) (fun _ => ?_)
          refine PrintLast.norm_ ?_ (H211 (g_, s.2) _ HP.swap)
          simp only [PrintLast.putAll, Act.put, List.setIfInBounds_toArray, List.set_cons_zero, List.set_cons_succ, Nat.zero_add, Nat.add_zero, Nat.mul_one, Int.toNat_natCast]
      intro H201
      refine PrintLast.join_ (σ := Nat × Nat) 3 #[true, true, true, false, true, true, false, false] (fun s => [(11, .agg #[.int .i64 4, .int .i64 (j : Int), .int .i64 0]), (5, .pointer (some ⟨s.1, 0, none⟩)), (6, .pointer (some ⟨s.2, 0, none⟩))]) (fun s w' => Priv w w' ((s.2, #[.int .i64 0, .int .i64 0, .int .i64 0]) :: (s.1, #[.int .i64 0, .int .i64 0, .int .i64 0]) :: [(g4, mc zm), (g3, #[.int .i64 25, v]), (g2, mc m)])) ?_ ?_
      · intro s w' HF
        refine PrintLast.norm_ (a' := ?_) ?_ ?_
        rotate_left
        · simp only [PrintLast.putAll, Act.put, List.setIfInBounds_toArray, List.set_cons_zero, List.set_cons_succ, Nat.zero_add, Nat.add_zero, Nat.mul_one, Int.toNat_natCast]
          rfl
        refine PrintLast.one_ (i := 3) (oi := { dst := some 13, op := Go.Op.call { callee := Go.Callee.value (Go.Operand.func 40), args := #[Go.Operand.tmp 12, Go.Operand.const (Go.Value.int Go.IntKind.i64 1)], argTypes := #[49, 3] }, type := 42, pos := "l6_act.go:114", after := #[{ on := 2, ground := Go.Ground.data }, { on := 1, ground := Go.Ground.chain }], guard := none }) (N := some 13) #[true, true, true, true, true, true, false, false] rfl rfl (by kernel_rfl) (by decide) (fun K hK => ?_)
        · refine step_callr (wanted_of rfl) HF rfl rfl Tryd.func40 (by kernel_rfl) rfl (by (try simp only [List.map_toArray, List.map_cons, List.map_nil]); first | done | rfl) (c_arg3 _ v l 1 _ (by rfl) _ _ _ hd1 HA.out HF) ?_
          intro W_ HP
          refine hK.out _ _ (HP.drop1.drop1.one at1) (fun _ => ?_)
          refine PrintLast.norm_ ?_ (H211 s _ HP)
          simp only [PrintLast.putAll, Act.put, List.setIfInBounds_toArray, List.set_cons_zero, List.set_cons_succ, Nat.zero_add, Nat.add_zero, Nat.mul_one, Int.toNat_natCast]
      intro H111
      refine PrintLast.join_ (σ := Nat × Nat) 4 #[true, true, true, true, false, false, false, false] (fun s => [(11, .agg #[.int .i64 4, .int .i64 (j : Int), .int .i64 0]), (13, .agg #[.int .i64 0, .int .i64 0, .int .i64 0])]) (fun s w' => Priv w w' ([(g4, mc zm), (g3, #[.int .i64 25, v]), (g2, mc m)])) ?_ ?_
      · intro s w' HF
        refine PrintLast.norm_ (a' := ?_) ?_ ?_
        rotate_left
        · simp only [PrintLast.putAll, Act.put, List.setIfInBounds_toArray, List.set_cons_zero, List.set_cons_succ, Nat.zero_add, Nat.add_zero, Nat.mul_one, Int.toNat_natCast]
          rfl
        refine PrintLast.two_ (i := 4) (j := 5) (oi := { dst := some 5, op := Go.Op.alloc 42, type := 0, pos := "l6_act.go:114", after := #[], guard := none }) (oj := { dst := some 6, op := Go.Op.alloc 42, type := 0, pos := "l6_act.go:114", after := #[], guard := none }) (Ni := some 5) (Nj := some 6) #[true, true, true, true, true, false, false, false] #[true, true, true, true, false, true, false, false] rfl rfl rfl rfl (by kernel_rfl) (by decide) (by decide) (fun K hK => ?_) (fun K hK => ?_)
        · refine step_alloc (wanted_of rfl) HF rfl rfl ze42 ?_
          intro g_ W_ HP
          refine hK.out _ _ (HP.drop1.one at1) (fun _ => ?_)
          refine PrintLast.norm_ ?_ (H210 (g_, s.2) _ HP)
          simp only [PrintLast.putAll, Act.put, List.setIfInBounds_toArray, List.set_cons_zero, List.set_cons_succ, Nat.zero_add, Nat.add_zero, Nat.mul_one, Int.toNat_natCast]
        · refine step_alloc (wanted_of rfl) HF rfl rfl ze42 ?_
          intro g_ W_ HP
          refine hK.out _ _ (HP.drop1.one at1) (fun _ => ?_)
          refine PrintLast.norm_ ?_ (H201 (s.1, g_) _ HP)
          simp only [PrintLast.putAll, Act.put, List.setIfInBounds_toArray, List.set_cons_zero, List.set_cons_succ, Nat.zero_add, Nat.add_zero, Nat.mul_one, Int.toNat_natCast]
      intro H200
      refine PrintLast.join_ (σ := Nat × Nat) 4 #[true, true, true, false, true, false, false, false] (fun s => [(11, .agg #[.int .i64 4, .int .i64 (j : Int), .int .i64 0]), (5, .pointer (some ⟨s.1, 0, none⟩))]) (fun s w' => Priv w w' ((s.1, #[.int .i64 0, .int .i64 0, .int .i64 0]) :: [(g4, mc zm), (g3, #[.int .i64 25, v]), (g2, mc m)])) ?_ ?_
      · intro s w' HF
        refine PrintLast.norm_ (a' := ?_) ?_ ?_
        rotate_left
        · simp only [PrintLast.putAll, Act.put, List.setIfInBounds_toArray, List.set_cons_zero, List.set_cons_succ, Nat.zero_add, Nat.add_zero, Nat.mul_one, Int.toNat_natCast]
          rfl
        refine PrintLast.two_ (i := 3) (j := 5) (oi := { dst := some 13, op := Go.Op.call { callee := Go.Callee.value (Go.Operand.func 40), args := #[Go.Operand.tmp 12, Go.Operand.const (Go.Value.int Go.IntKind.i64 1)], argTypes := #[49, 3] }, type := 42, pos := "l6_act.go:114", after := #[{ on := 2, ground := Go.Ground.data }, { on := 1, ground := Go.Ground.chain }], guard := none }) (oj := { dst := some 6, op := Go.Op.alloc 42, type := 0, pos := "l6_act.go:114", after := #[], guard := none }) (Ni := some 13) (Nj := some 6) #[true, true, true, true, true, false, false, false] #[true, true, true, false, true, true, false, false] rfl rfl rfl rfl (by kernel_rfl) (by decide) (by decide) (fun K hK => ?_) (fun K hK => ?_)
        · refine step_callr (wanted_of rfl) HF rfl rfl Tryd.func40 (by kernel_rfl) rfl (by (try simp only [List.map_toArray, List.map_cons, List.map_nil]); first | done | rfl) (c_arg3 _ v l 1 _ (by rfl) _ _ _ hd1 HA.out HF) ?_
          intro W_ HP
          refine hK.out _ _ (HP.drop1.one at1) (fun _ => ?_)
          refine PrintLast.norm_ ?_ (H210 s _ HP)
          simp only [PrintLast.putAll, Act.put, List.setIfInBounds_toArray, List.set_cons_zero, List.set_cons_succ, Nat.zero_add, Nat.add_zero, Nat.mul_one, Int.toNat_natCast]
        · refine step_alloc (wanted_of rfl) HF rfl rfl ze42 ?_
          intro g_ W_ HP
          refine hK.out _ _ (HP.drop1.drop1.one at1) (fun _ => ?_)
          refine PrintLast.norm_ ?_ (H111 (s.1, g_) _ HP)
          simp only [PrintLast.putAll, Act.put, List.setIfInBounds_toArray, List.set_cons_zero, List.set_cons_succ, Nat.zero_add, Nat.add_zero, Nat.mul_one, Int.toNat_natCast]
      intro H110
      refine PrintLast.join_ (σ := Nat × Nat) 4 #[true, true, true, false, false, true, false, false] (fun s => [(11, .agg #[.int .i64 4, .int .i64 (j : Int), .int .i64 0]), (6, .pointer (some ⟨s.2, 0, none⟩))]) (fun s w' => Priv w w' ((s.2, #[.int .i64 0, .int .i64 0, .int .i64 0]) :: [(g4, mc zm), (g3, #[.int .i64 25, v]), (g2, mc m)])) ?_ ?_
      · intro s w' HF
        refine PrintLast.norm_ (a' := ?_) ?_ ?_
        rotate_left
        · simp only [PrintLast.putAll, Act.put, List.setIfInBounds_toArray, List.set_cons_zero, List.set_cons_succ, Nat.zero_add, Nat.add_zero, Nat.mul_one, Int.toNat_natCast]
          rfl
        refine PrintLast.two_ (i := 3) (j := 4) (oi := { dst := some 13, op := Go.Op.call { callee := Go.Callee.value (Go.Operand.func 40), args := #[Go.Operand.tmp 12, Go.Operand.const (Go.Value.int Go.IntKind.i64 1)], argTypes := #[49, 3] }, type := 42, pos := "l6_act.go:114", after := #[{ on := 2, ground := Go.Ground.data }, { on := 1, ground := Go.Ground.chain }], guard := none }) (oj := { dst := some 5, op := Go.Op.alloc 42, type := 0, pos := "l6_act.go:114", after := #[], guard := none }) (Ni := some 13) (Nj := some 5) #[true, true, true, true, false, true, false, false] #[true, true, true, false, true, true, false, false] rfl rfl rfl rfl (by kernel_rfl) (by decide) (by decide) (fun K hK => ?_) (fun K hK => ?_)
        · refine step_callr (wanted_of rfl) HF rfl rfl Tryd.func40 (by kernel_rfl) rfl (by (try simp only [List.map_toArray, List.map_cons, List.map_nil]); first | done | rfl) (c_arg3 _ v l 1 _ (by rfl) _ _ _ hd1 HA.out HF) ?_
          intro W_ HP
          refine hK.out _ _ (HP.drop1.one at1) (fun _ => ?_)
          refine PrintLast.norm_ ?_ (H201 s _ HP)
          simp only [PrintLast.putAll, Act.put, List.setIfInBounds_toArray, List.set_cons_zero, List.set_cons_succ, Nat.zero_add, Nat.add_zero, Nat.mul_one, Int.toNat_natCast]
        · refine step_alloc (wanted_of rfl) HF rfl rfl ze42 ?_
          intro g_ W_ HP
          refine hK.out _ _ (HP.swap.drop1.drop1.one at1) (fun _ => ?_)
          refine PrintLast.norm_ ?_ (H111 (g_, s.2) _ HP.swap)
          simp only [PrintLast.putAll, Act.put, List.setIfInBounds_toArray, List.set_cons_zero, List.set_cons_succ, Nat.zero_add, Nat.add_zero, Nat.mul_one, Int.toNat_natCast]
      intro H101
      refine PrintLast.join_ (σ := Nat × Nat) 4 #[true, false, true, false, true, true, false, false] (fun s => [(5, .pointer (some ⟨s.1, 0, none⟩)), (6, .pointer (some ⟨s.2, 0, none⟩))]) (fun s w' => Priv w w' ((s.2, #[.int .i64 0, .int .i64 0, .int .i64 0]) :: (s.1, #[.int .i64 0, .int .i64 0, .int .i64 0]) :: [(g4, mc zm), (g3, #[.int .i64 25, v]), (g2, mc m)])) ?_ ?_
      · intro s w' HF
        refine PrintLast.norm_ (a' := ?_) ?_ ?_
        rotate_left
        · simp only [PrintLast.putAll, Act.put, List.setIfInBounds_toArray, List.set_cons_zero, List.set_cons_succ, Nat.zero_add, Nat.add_zero, Nat.mul_one, Int.toNat_natCast]
          rfl
        refine PrintLast.one_ (i := 1) (oi := { dst := some 11, op := Go.Op.call { callee := Go.Callee.value (Go.Operand.func 40), args := #[Go.Operand.tmp 10, Go.Operand.const (Go.Value.int Go.IntKind.i64 0)], argTypes := #[49, 3] }, type := 42, pos := "l6_act.go:114", after := #[{ on := 0, ground := Go.Ground.data }], guard := none }) (N := some 11) #[true, true, true, false, true, true, false, false] rfl rfl (by kernel_rfl) (by decide) (fun K hK => ?_)
        · refine step_callr (wanted_of rfl) HF rfl rfl Tryd.func40 (by kernel_rfl) rfl (by (try simp only [List.map_toArray, List.map_cons, List.map_nil]); first | done | rfl) (c_arg3 _ v l 0 _ (by rfl) _ _ _ hd0 HA.out HF) ?_
          intro W_ HP
          refine hK.out _ _ (HP.drop1.drop1.one at1) (fun _ => ?_)
          refine PrintLast.norm_ ?_ (H111 s _ HP)
          simp only [PrintLast.putAll, Act.put, List.setIfInBounds_toArray, List.set_cons_zero, List.set_cons_succ, Nat.zero_add, Nat.add_zero, Nat.mul_one, Int.toNat_natCast]
      intro H011
      refine PrintLast.join_ (σ := Nat × Nat) 5 #[true, true, true, false, false, false, false, false] (fun s => [(11, .agg #[.int .i64 4, .int .i64 (j : Int), .int .i64 0])]) (fun s w' => Priv w w' ([(g4, mc zm), (g3, #[.int .i64 25, v]), (g2, mc m)])) ?_ ?_
      · intro s w' HF
        refine PrintLast.norm_ (a' := ?_) ?_ ?_
        rotate_left
        · simp only [PrintLast.putAll, Act.put, List.setIfInBounds_toArray, List.set_cons_zero, List.set_cons_succ, Nat.zero_add, Nat.add_zero, Nat.mul_one, Int.toNat_natCast]
          rfl
        refine PrintLast.three_ (i := 3) (j := 4) (k := 5) (oi := { dst := some 13, op := Go.Op.call { callee := Go.Callee.value (Go.Operand.func 40), args := #[Go.Operand.tmp 12, Go.Operand.const (Go.Value.int Go.IntKind.i64 1)], argTypes := #[49, 3] }, type := 42, pos := "l6_act.go:114", after := #[{ on := 2, ground := Go.Ground.data }, { on := 1, ground := Go.Ground.chain }], guard := none }) (oj := { dst := some 5, op := Go.Op.alloc 42, type := 0, pos := "l6_act.go:114", after := #[], guard := none }) (ok := { dst := some 6, op := Go.Op.alloc 42, type := 0, pos := "l6_act.go:114", after := #[], guard := none }) (Ni := some 13) (Nj := some 5) (Nk := some 6) #[true, true, true, true, false, false, false, false] #[true, true, true, false, true, false, false, false] #[true, true, true, false, false, true, false, false] rfl rfl rfl rfl rfl rfl (by kernel_rfl) (by decide) (by decide) (by decide) (fun K hK => ?_) (fun K hK => ?_) (fun K hK => ?_)
        · refine step_callr (wanted_of rfl) HF rfl rfl Tryd.func40 (by kernel_rfl) rfl (by (try simp only [List.map_toArray, List.map_cons, List.map_nil]); first | done | rfl) (c_arg3 _ v l 1 _ (by rfl) _ _ _ hd1 HA.out HF) ?_
          intro W_ HP
          refine hK.out _ _ (HP.one at1) (fun _ => ?_)
          refine PrintLast.norm_ ?_ (H200 s _ HP)
          simp only [PrintLast.putAll, Act.put, List.setIfInBounds_toArray, List.set_cons_zero, List.set_cons_succ, Nat.zero_add, Nat.add_zero, Nat.mul_one, Int.toNat_natCast]
        · refine step_alloc (wanted_of rfl) HF rfl rfl ze42 ?_
          intro g_ W_ HP
          refine hK.out _ _ (HP.drop1.one at1) (fun _ => ?_)
          refine PrintLast.norm_ ?_ (H110 (g_, s.2) _ HP)
          simp only [PrintLast.putAll, Act.put, List.setIfInBounds_toArray, List.set_cons_zero, List.set_cons_succ, Nat.zero_add, Nat.add_zero, Nat.mul_one, Int.toNat_natCast]
        · refine step_alloc (wanted_of rfl) HF rfl rfl ze42 ?_
          intro g_ W_ HP
          refine hK.out _ _ (HP.drop1.one at1) (fun _ => ?_)
          refine PrintLast.norm_ ?_ (H101 (s.1, g_) _ HP)
          simp only [PrintLast.putAll, Act.put, List.setIfInBounds_toArray, List.set_cons_zero, List.set_cons_succ, Nat.zero_add, Nat.add_zero, Nat.mul_one, Int.toNat_natCast]
      intro H100
      refine PrintLast.join_ (σ := Nat × Nat) 5 #[true, false, true, false, true, false, false, false] (fun s => [(5, .pointer (some ⟨s.1, 0, none⟩))]) (fun s w' => Priv w w' ((s.1, #[.int .i64 0, .int .i64 0, .int .i64 0]) :: [(g4, mc zm), (g3, #[.int .i64 25, v]), (g2, mc m)])) ?_ ?_
      · intro s w' HF
        refine PrintLast.norm_ (a' := ?_) ?_ ?_
        rotate_left
        · simp only [PrintLast.putAll, Act.put, List.setIfInBounds_toArray, List.set_cons_zero, List.set_cons_succ, Nat.zero_add, Nat.add_zero, Nat.mul_one, Int.toNat_natCast]
          rfl
        refine PrintLast.two_ (i := 1) (j := 5) (oi := { dst := some 11, op := Go.Op.call { callee := Go.Callee.value (Go.Operand.func 40), args := #[Go.Operand.tmp 10, Go.Operand.const (Go.Value.int Go.IntKind.i64 0)], argTypes := #[49, 3] }, type := 42, pos := "l6_act.go:114", after := #[{ on := 0, ground := Go.Ground.data }], guard := none }) (oj := { dst := some 6, op := Go.Op.alloc 42, type := 0, pos := "l6_act.go:114", after := #[], guard := none }) (Ni := some 11) (Nj := some 6) #[true, true, true, false, true, false, false, false] #[true, false, true, false, true, true, false, false] rfl rfl rfl rfl (by kernel_rfl) (by decide) (by decide) (fun K hK => ?_) (fun K hK => ?_)
        · refine step_callr (wanted_of rfl) HF rfl rfl Tryd.func40 (by kernel_rfl) rfl (by (try simp only [List.map_toArray, List.map_cons, List.map_nil]); first | done | rfl) (c_arg3 _ v l 0 _ (by rfl) _ _ _ hd0 HA.out HF) ?_
          intro W_ HP
          refine hK.out _ _ (HP.drop1.one at1) (fun _ => ?_)
          refine PrintLast.norm_ ?_ (H110 s _ HP)
          simp only [PrintLast.putAll, Act.put, List.setIfInBounds_toArray, List.set_cons_zero, List.set_cons_succ, Nat.zero_add, Nat.add_zero, Nat.mul_one, Int.toNat_natCast]
        · refine step_alloc (wanted_of rfl) HF rfl rfl ze42 ?_
          intro g_ W_ HP
          refine hK.out _ _ (HP.drop1.drop1.one at1) (fun _ => ?_)
          refine PrintLast.norm_ ?_ (H011 (s.1, g_) _ HP)
          simp only [PrintLast.putAll, Act.put, List.setIfInBounds_toArray, List.set_cons_zero, List.set_cons_succ, Nat.zero_add, Nat.add_zero, Nat.mul_one, Int.toNat_natCast]
      intro H010
      refine PrintLast.join_ (σ := Nat × Nat) 5 #[true, false, true, false, false, true, false, false] (fun s => [(6, .pointer (some ⟨s.2, 0, none⟩))]) (fun s w' => Priv w w' ((s.2, #[.int .i64 0, .int .i64 0, .int .i64 0]) :: [(g4, mc zm), (g3, #[.int .i64 25, v]), (g2, mc m)])) ?_ ?_
      · intro s w' HF
        refine PrintLast.norm_ (a' := ?_) ?_ ?_
        rotate_left
        · simp only [PrintLast.putAll, Act.put, List.setIfInBounds_toArray, List.set_cons_zero, List.set_cons_succ, Nat.zero_add, Nat.add_zero, Nat.mul_one, Int.toNat_natCast]
          rfl
        refine PrintLast.two_ (i := 1) (j := 4) (oi := { dst := some 11, op := Go.Op.call { callee := Go.Callee.value (Go.Operand.func 40), args := #[Go.Operand.tmp 10, Go.Operand.const (Go.Value.int Go.IntKind.i64 0)], argTypes := #[49, 3] }, type := 42, pos := "l6_act.go:114", after := #[{ on := 0, ground := Go.Ground.data }], guard := none }) (oj := { dst := some 5, op := Go.Op.alloc 42, type := 0, pos := "l6_act.go:114", after := #[], guard := none }) (Ni := some 11) (Nj := some 5) #[true, true, true, false, false, true, false, false] #[true, false, true, false, true, true, false, false] rfl rfl rfl rfl (by kernel_rfl) (by decide) (by decide) (fun K hK => ?_) (fun K hK => ?_)
        · refine step_callr (wanted_of rfl) HF rfl rfl Tryd.func40 (by kernel_rfl) rfl (by (try simp only [List.map_toArray, List.map_cons, List.map_nil]); first | done | rfl) (c_arg3 _ v l 0 _ (by rfl) _ _ _ hd0 HA.out HF) ?_
          intro W_ HP
          refine hK.out _ _ (HP.drop1.one at1) (fun _ => ?_)
          refine PrintLast.norm_ ?_ (H101 s _ HP)
          simp only [PrintLast.putAll, Act.put, List.setIfInBounds_toArray, List.set_cons_zero, List.set_cons_succ, Nat.zero_add, Nat.add_zero, Nat.mul_one, Int.toNat_natCast]
        · refine step_alloc (wanted_of rfl) HF rfl rfl ze42 ?_
          intro g_ W_ HP
          refine hK.out _ _ (HP.swap.drop1.drop1.one at1) (fun _ => ?_)
          refine PrintLast.norm_ ?_ (H011 (g_, s.2) _ HP.swap)
          simp only [PrintLast.putAll, Act.put, List.setIfInBounds_toArray, List.set_cons_zero, List.set_cons_succ, Nat.zero_add, Nat.add_zero, Nat.mul_one, Int.toNat_natCast]
      intro H001
      refine PrintLast.join_ (σ := Nat × Nat) 6 #[true, false, true, false, false, false, false, false] (fun s => []) (fun s w' => Priv w w' ([(g4, mc zm), (g3, #[.int .i64 25, v]), (g2, mc m)])) ?_ ?_
      · intro s w' HF
        refine PrintLast.norm_ (a' := ?_) ?_ ?_
        rotate_left
        · simp only [PrintLast.putAll, Act.put, List.setIfInBounds_toArray, List.set_cons_zero, List.set_cons_succ, Nat.zero_add, Nat.add_zero, Nat.mul_one, Int.toNat_natCast]
          rfl
        refine PrintLast.three_ (i := 1) (j := 4) (k := 5) (oi := { dst := some 11, op := Go.Op.call { callee := Go.Callee.value (Go.Operand.func 40), args := #[Go.Operand.tmp 10, Go.Operand.const (Go.Value.int Go.IntKind.i64 0)], argTypes := #[49, 3] }, type := 42, pos := "l6_act.go:114", after := #[{ on := 0, ground := Go.Ground.data }], guard := none }) (oj := { dst := some 5, op := Go.Op.alloc 42, type := 0, pos := "l6_act.go:114", after := #[], guard := none }) (ok := { dst := some 6, op := Go.Op.alloc 42, type := 0, pos := "l6_act.go:114", after := #[], guard := none }) (Ni := some 11) (Nj := some 5) (Nk := some 6) #[true, true, true, false, false, false, false, false] #[true, false, true, false, true, false, false, false] #[true, false, true, false, false, true, false, false] rfl rfl rfl rfl rfl rfl (by kernel_rfl) (by decide) (by decide) (by decide) (fun K hK => ?_) (fun K hK => ?_) (fun K hK => ?_)
        · refine step_callr (wanted_of rfl) HF rfl rfl Tryd.func40 (by kernel_rfl) rfl (by (try simp only [List.map_toArray, List.map_cons, List.map_nil]); first | done | rfl) (c_arg3 _ v l 0 _ (by rfl) _ _ _ hd0 HA.out HF) ?_
          intro W_ HP
          refine hK.out _ _ (HP.one at1) (fun _ => ?_)
          refine PrintLast.norm_ ?_ (H100 s _ HP)
          simp only [PrintLast.putAll, Act.put, List.setIfInBounds_toArray, List.set_cons_zero, List.set_cons_succ, Nat.zero_add, Nat.add_zero, Nat.mul_one, Int.toNat_natCast]
        · refine step_alloc (wanted_of rfl) HF rfl rfl ze42 ?_
          intro g_ W_ HP
          refine hK.out _ _ (HP.drop1.one at1) (fun _ => ?_)
          refine PrintLast.norm_ ?_ (H010 (g_, s.2) _ HP)
          simp only [PrintLast.putAll, Act.put, List.setIfInBounds_toArray, List.set_cons_zero, List.set_cons_succ, Nat.zero_add, Nat.add_zero, Nat.mul_one, Int.toNat_natCast]
        · refine step_alloc (wanted_of rfl) HF rfl rfl ze42 ?_
          intro g_ W_ HP
          refine hK.out _ _ (HP.drop1.one at1) (fun _ => ?_)
          refine PrintLast.norm_ ?_ (H001 (s.1, g_) _ HP)
          simp only [PrintLast.putAll, Act.put, List.setIfInBounds_toArray, List.set_cons_zero, List.set_cons_succ, Nat.zero_add, Nat.add_zero, Nat.mul_one, Int.toNat_natCast]
      intro H000
      exact H000 (0, 0) _ HS.out
    intro s w' HP; clear HS; have HS := Aside0.mk HP; clear HP; obtain ⟨ga_, gb_⟩ := s
    refine PrintLast.norm_ (a' := ?_) ?_ ?_
    rotate_left
    · simp only [PrintLast.putAll, Act.put, List.setIfInBounds_toArray, List.set_cons_zero, List.set_cons_succ, Nat.zero_add, Nat.add_zero, Nat.mul_one, Int.toNat_natCast]
      rfl
    refine PrintLast.one_ (i := 6) (oi := { dst := none, op := Go.Op.store 42 (Go.Operand.tmp 5) (Go.Operand.tmp 11), type := 0, pos := "l6_act.go:114", after := #[{ on := 4, ground := Go.Ground.data }, { on := 1, ground := Go.Ground.data }, { on := 3, ground := Go.Ground.chain }, { on := 0, ground := Go.Ground.phase }, { on := 1, ground := Go.Ground.phase }, { on := 2, ground := Go.Ground.textOnly Go.Departure.lateStores }, { on := 3, ground := Go.Ground.textOnly Go.Departure.lateStoresUnsure }, { on := 4, ground := Go.Ground.phase }, { on := 5, ground := Go.Ground.phase }], guard := none }) (N := none) #[true, true, true, true, true, true, true, false] rfl rfl (by kernel_rfl) (by decide) (fun K hK => ?_)
    refine step_store_seg (wanted_of rfl) HS.out rfl rfl ag42 rfl (by first | exact eval_tmp rfl | exact eval_const) (by first | exact at0 | exact at1 | exact at2 | exact at3 | exact at4 | exact at5 | exact at6) (by with_reducible first | exact set_X _ _ | exact set_Y _ _ | exact set_M _ _ | exact set_S _ _ | exact set_E _ _ | exact set_Time _ _ | exact set_Ran _ _ | exact set_Fault _ _ | exact set_T _ _ | exact set_C _ _ | exact set_D _ _ | exact set_R _ _ | exact put_T _ _ (by omega) _ _ | exact put_C _ _ (by omega) _ _ _ | exact put_D _ _ (by omega) _ | exact put_R _ _ (by omega) _ | exact tc_put _ _ (by omega) _ _ | exact cc_put _ _ (by omega) _ _ _ | exact dc_put _ _ (by omega) _ | exact rc_put _ _ (by omega) _ | exact lay_mc _ _ | exact lay_tc _ _ | exact lay_cc _ _ | exact lay_dc _ _ | exact lay_rc _ _ | exact lay2_0 | exact lay2_1 | exact lay3_0 | exact lay3_1 | exact lay3_2 | exact lay2_w | exact lay3_w) (by with_reducible first | exact mc_size _ | exact tc_size _ | exact cc_size _ | exact dc_size _ | exact rc_size _ | exact sz1 | exact sz2 | exact sz3 | exact sz4) (by simp only [mc_size, tc_size, cc_size, dc_size, rc_size, List.size_toArray, List.length_cons, List.length_nil]; omega) (by first | (with_reducible first | exact mc_one _ | exact tc_one _ | exact cc_one _ | exact dc_one _ | exact rc_one _ | exact t2_one _ _ | exact t3_one _ _ _) | (simp [Value.oneCell']; done)) ?_
    intro W_ HP; clear HS; have HS := Aside0.mk HP; clear HP; (try simp only [List.set_cons_zero, List.set_cons_succ] at HS)
    refine hK.out _ _ (HS.out.drop1.drop1.one at1) (fun _ => ?_)
    clear hK K
    refine PrintLast.one_ (i := 7) (oi := { dst := none, op := Go.Op.store 42 (Go.Operand.tmp 6) (Go.Operand.tmp 13), type := 0, pos := "l6_act.go:114", after := #[{ on := 5, ground := Go.Ground.data }, { on := 3, ground := Go.Ground.data }, { on := 6, ground := Go.Ground.chain }, { on := 0, ground := Go.Ground.phase }, { on := 1, ground := Go.Ground.phase }, { on := 2, ground := Go.Ground.phase }, { on := 3, ground := Go.Ground.phase }, { on := 4, ground := Go.Ground.phase }, { on := 5, ground := Go.Ground.phase }, { on := 6, ground := Go.Ground.phase }], guard := none }) (N := none) #[true, true, true, true, true, true, true, true] rfl rfl (by kernel_rfl) (by decide) (fun K hK => ?_)
    refine step_store_seg (wanted_of rfl) HS.out rfl rfl ag42 rfl (by first | exact eval_tmp rfl | exact eval_const) (by first | exact at0 | exact at1 | exact at2 | exact at3 | exact at4 | exact at5 | exact at6) (by with_reducible first | exact set_X _ _ | exact set_Y _ _ | exact set_M _ _ | exact set_S _ _ | exact set_E _ _ | exact set_Time _ _ | exact set_Ran _ _ | exact set_Fault _ _ | exact set_T _ _ | exact set_C _ _ | exact set_D _ _ | exact set_R _ _ | exact put_T _ _ (by omega) _ _ | exact put_C _ _ (by omega) _ _ _ | exact put_D _ _ (by omega) _ | exact put_R _ _ (by omega) _ | exact tc_put _ _ (by omega) _ _ | exact cc_put _ _ (by omega) _ _ _ | exact dc_put _ _ (by omega) _ | exact rc_put _ _ (by omega) _ | exact lay_mc _ _ | exact lay_tc _ _ | exact lay_cc _ _ | exact lay_dc _ _ | exact lay_rc _ _ | exact lay2_0 | exact lay2_1 | exact lay3_0 | exact lay3_1 | exact lay3_2 | exact lay2_w | exact lay3_w) (by with_reducible first | exact mc_size _ | exact tc_size _ | exact cc_size _ | exact dc_size _ | exact rc_size _ | exact sz1 | exact sz2 | exact sz3 | exact sz4) (by simp only [mc_size, tc_size, cc_size, dc_size, rc_size, List.size_toArray, List.length_cons, List.length_nil]; omega) (by first | (with_reducible first | exact mc_one _ | exact tc_one _ | exact cc_one _ | exact dc_one _ | exact rc_one _ | exact t2_one _ _ | exact t3_one _ _ _) | (simp [Value.oneCell']; done)) ?_
    intro W_ HP; clear HS; have HS := Aside0.mk HP; clear HP; (try simp only [List.set_cons_zero, List.set_cons_succ] at HS)
    refine hK.out _ _ (HS.out.drop1.drop1.one at1) (fun _ => ?_)
    clear hK K
    refine PrintLast.done_ (by kernel_rfl) ?_
    go_wp2_with ((first | ((with_reducible refine gate_dst (N := 15) rfl ?_); refine call_ev2 HS.out rfl rfl Tryd.func39 (by kernel_rfl) rfl (by (try simp only [List.map_toArray, List.map_cons, List.map_nil]); first | done | rfl) (c_placeE _ _ _ _ hpl _ (HT.out.below HS.out.below)) ?_; rintro v_ W_ rfl HP HB_; clear HS; have HS := Aside0.mk HP; clear HP; clear HB_) | ((with_reducible refine gate_region (id := 12) ?_); refine region_tail HS.out 8 (by kernel_rfl) (by kernel_rfl) ?_; intro W_ HP HB_; clear HS; have HS := Aside0.mk HP; clear HP; clear HB_; simp only [List.take_succ_cons, List.take_zero, List.drop_succ_cons, List.drop_zero]; (repeat (first           | ((with_reducible refine st_gate (N := 80) rfl ?_); (with_reducible refine st_field_at rfl rfl rfl fo37_3 ?_); (try simp only [toNat_16, toNat_12, Int.toNat_natCast, Nat.zero_add, Nat.add_zero, Nat.mul_one]))           | ((with_reducible refine st_gate (N := 81) rfl ?_); (with_reducible refine st_load_one HS.out rfl rfl on25 rfl (by first | exact at0 | exact at1 | exact at2 | exact at3 | exact at4 | exact at5 | exact at6) (by with_reducible first | exact get_X _ | exact get_Y _ | exact get_M _ | exact get_S _ | exact get_E _ | exact get_Time _ | exact get_Ran _ | exact get_Fault _ | exact el_T0 _ _ (by omega) | exact el_T1 _ _ (by omega) | exact el_C0 _ _ (by omega) | exact el_C1 _ _ (by omega) | exact el_C2 _ _ (by omega) | exact el_D _ _ (by omega) | exact el_R _ _ (by omega) | exact dc_get _ _ (by omega) | exact rc_get _ _ (by omega) | exact at0a | exact at1a | exact at2a | exact at3a) ?_))           | ((with_reducible refine st_gate (N := 87) rfl ?_); (with_reducible refine st_field_at rfl rfl rfl fo37_3 ?_); (try simp only [toNat_16, toNat_12, Int.toNat_natCast, Nat.zero_add, Nat.add_zero, Nat.mul_one]))           | still_step)); refine wpStill_nil ?_) | (go_at_call 28; refine (c_MemPut0 _ (cleared_wf m wf _ (by omega)) 4 j 0 true j hpl (fun _ => hlt) _ (HT.out.below HS.out.below)).mono ?_; rintro e_ W_ ⟨v_, rfl, rfl, HB_⟩; have HP := HS.out.call HB_; clear HB_; clear HS; have HS := Aside0.mk HP; clear HP) | (first
      | ((with_reducible refine gate_dst (N := 14) rfl ?_); (with_reducible refine load_seg HS.out rfl rfl ag42 rfl (by first | exact at0 | exact at1 | exact at2 | exact at3 | exact at4 | exact at5 | exact at6) (by with_reducible first | exact tc_el _ _ (by omega) | exact cc_el _ _ (by omega) | exact whole _) (by with_reducible first | exact mc_size _ | exact tc_size _ | exact cc_size _ | exact dc_size _ | exact rc_size _ | exact sz1 | exact sz2 | exact sz3 | exact sz4) ?_))
      | ((with_reducible refine gate_dst (N := 17) rfl ?_); (with_reducible refine field_at rfl rfl rfl fo49_0 ?_); (try simp only [toNat_16, toNat_12, Int.toNat_natCast, Nat.zero_add, Nat.add_zero, Nat.mul_one]))
      | ((with_reducible refine gate_dst (N := 18) rfl ?_); (with_reducible refine load_one HS.out rfl rfl on3 rfl (by first | exact at0 | exact at1 | exact at2 | exact at3 | exact at4 | exact at5 | exact at6) (by with_reducible first | exact dc_get _ _ (by omega) | exact rc_get _ _ (by omega) | exact at0a | exact at1a | exact at2a | exact at3a) ?_))
      | ((with_reducible refine gate_dst (N := 21) rfl ?_); refine ungate (by rfl) ?_; (with_reducible refine field_at rfl rfl rfl fo42_0 ?_); (try simp only [toNat_16, toNat_12, Int.toNat_natCast, Nat.zero_add, Nat.add_zero, Nat.mul_one]))
      | ((with_reducible refine gate_dst (N := 22) rfl ?_); refine ungate (by rfl) ?_; (with_reducible refine load_one HS.out rfl rfl on3 rfl (by first | exact at0 | exact at1 | exact at2 | exact at3 | exact at4 | exact at5 | exact at6) (by with_reducible first | exact dc_get _ _ (by omega) | exact rc_get _ _ (by omega) | exact at0a | exact at1a | exact at2a | exact at3a) ?_))
      | ((with_reducible refine gate_store (t := 37) (p := 4) rfl ?_); (with_reducible refine store_seg HS.out rfl rfl rfl ag37 rfl (by first | exact eval_tmp rfl | exact eval_const) (by first | exact at0 | exact at1 | exact at2 | exact at3 | exact at4 | exact at5 | exact at6) (by with_reducible first | exact tc_put _ _ (by omega) _ _ | exact cc_put _ _ (by omega) _ _ _ | exact dc_put _ _ (by omega) _ | exact rc_put _ _ (by omega) _ | exact lay_mc _ _ | exact lay_tc _ _ | exact lay_cc _ _ | exact lay_dc _ _ | exact lay_rc _ _ | exact lay2_0 | exact lay2_1 | exact lay3_0 | exact lay3_1 | exact lay3_2 | exact lay2_w | exact lay3_w) (by with_reducible first | exact mc_size _ | exact tc_size _ | exact cc_size _ | exact dc_size _ | exact rc_size _ | exact sz1 | exact sz2 | exact sz3 | exact sz4) (by simp only [mc_size, tc_size, cc_size, dc_size, rc_size, List.size_toArray, List.length_cons, List.length_nil]; omega) (by first | (with_reducible first | exact mc_one _ | exact tc_one _ | exact cc_one _ | exact dc_one _ | exact rc_one _ | exact t2_one _ _ | exact t3_one _ _ _) | (simp [Value.oneCell']; done)) ?_); intro W_ HP; clear HS; have HS := Aside0.mk HP; clear HP; (try simp only [List.set_cons_zero, List.set_cons_succ] at HS))
      | ((with_reducible refine gate_dst (N := 29) rfl ?_); (with_reducible refine field_at rfl rfl rfl fo49_0 ?_); (try simp only [toNat_16, toNat_12, Int.toNat_natCast, Nat.zero_add, Nat.add_zero, Nat.mul_one]))
      | ((with_reducible refine gate_dst (N := 30) rfl ?_); (with_reducible refine load_one HS.out rfl rfl on3 rfl (by first | exact at0 | exact at1 | exact at2 | exact at3 | exact at4 | exact at5 | exact at6) (by with_reducible first | exact dc_get _ _ (by omega) | exact rc_get _ _ (by omega) | exact at0a | exact at1a | exact at2a | exact at3a) ?_))
      | ((with_reducible refine gate_dst (N := 33) rfl ?_); refine ungate (by rfl) ?_; (with_reducible refine field_at rfl rfl rfl fo42_0 ?_); (try simp only [toNat_16, toNat_12, Int.toNat_natCast, Nat.zero_add, Nat.add_zero, Nat.mul_one]))
      | ((with_reducible refine gate_dst (N := 34) rfl ?_); refine ungate (by rfl) ?_; (with_reducible refine load_one HS.out rfl rfl on3 rfl (by first | exact at0 | exact at1 | exact at2 | exact at3 | exact at4 | exact at5 | exact at6) (by with_reducible first | exact dc_get _ _ (by omega) | exact rc_get _ _ (by omega) | exact at0a | exact at1a | exact at2a | exact at3a) ?_))
      | ((with_reducible refine gate_dst (N := 42) rfl ?_); (with_reducible refine field_at rfl rfl rfl fo49_0 ?_); (try simp only [toNat_16, toNat_12, Int.toNat_natCast, Nat.zero_add, Nat.add_zero, Nat.mul_one]))
      | ((with_reducible refine gate_dst (N := 43) rfl ?_); (with_reducible refine load_one HS.out rfl rfl on3 rfl (by first | exact at0 | exact at1 | exact at2 | exact at3 | exact at4 | exact at5 | exact at6) (by with_reducible first | exact dc_get _ _ (by omega) | exact rc_get _ _ (by omega) | exact at0a | exact at1a | exact at2a | exact at3a) ?_))
      | ((with_reducible refine gate_dst (N := 46) rfl ?_); refine ungate (by rfl) ?_; (with_reducible refine field_at rfl rfl rfl fo42_0 ?_); (try simp only [toNat_16, toNat_12, Int.toNat_natCast, Nat.zero_add, Nat.add_zero, Nat.mul_one]))
      | ((with_reducible refine gate_dst (N := 47) rfl ?_); refine ungate (by rfl) ?_; (with_reducible refine load_one HS.out rfl rfl on3 rfl (by first | exact at0 | exact at1 | exact at2 | exact at3 | exact at4 | exact at5 | exact at6) (by with_reducible first | exact dc_get _ _ (by omega) | exact rc_get _ _ (by omega) | exact at0a | exact at1a | exact at2a | exact at3a) ?_))
      | ((with_reducible refine gate_dst (N := 60) rfl ?_); (with_reducible refine field_at rfl rfl rfl fo49_0 ?_); (try simp only [toNat_16, toNat_12, Int.toNat_natCast, Nat.zero_add, Nat.add_zero, Nat.mul_one]))
      | ((with_reducible refine gate_dst (N := 61) rfl ?_); (with_reducible refine load_one HS.out rfl rfl on3 rfl (by first | exact at0 | exact at1 | exact at2 | exact at3 | exact at4 | exact at5 | exact at6) (by with_reducible first | exact dc_get _ _ (by omega) | exact rc_get _ _ (by omega) | exact at0a | exact at1a | exact at2a | exact at3a) ?_))
      | ((with_reducible refine gate_dst (N := 64) rfl ?_); refine ungate (by rfl) ?_; (with_reducible refine field_at rfl rfl rfl fo42_0 ?_); (try simp only [toNat_16, toNat_12, Int.toNat_natCast, Nat.zero_add, Nat.add_zero, Nat.mul_one]))
      | ((with_reducible refine gate_dst (N := 65) rfl ?_); refine ungate (by rfl) ?_; (with_reducible refine load_one HS.out rfl rfl on3 rfl (by first | exact at0 | exact at1 | exact at2 | exact at3 | exact at4 | exact at5 | exact at6) (by with_reducible first | exact dc_get _ _ (by omega) | exact rc_get _ _ (by omega) | exact at0a | exact at1a | exact at2a | exact at3a) ?_))
      | ((with_reducible refine gate_store (t := 37) (p := 4) rfl ?_); (with_reducible refine store_seg HS.out rfl rfl rfl ag37 rfl (by first | exact eval_tmp rfl | exact eval_const) (by first | exact at0 | exact at1 | exact at2 | exact at3 | exact at4 | exact at5 | exact at6) (by with_reducible first | exact tc_put _ _ (by omega) _ _ | exact cc_put _ _ (by omega) _ _ _ | exact dc_put _ _ (by omega) _ | exact rc_put _ _ (by omega) _ | exact lay_mc _ _ | exact lay_tc _ _ | exact lay_cc _ _ | exact lay_dc _ _ | exact lay_rc _ _ | exact lay2_0 | exact lay2_1 | exact lay3_0 | exact lay3_1 | exact lay3_2 | exact lay2_w | exact lay3_w) (by with_reducible first | exact mc_size _ | exact tc_size _ | exact cc_size _ | exact dc_size _ | exact rc_size _ | exact sz1 | exact sz2 | exact sz3 | exact sz4) (by simp only [mc_size, tc_size, cc_size, dc_size, rc_size, List.size_toArray, List.length_cons, List.length_nil]; omega) (by first | (with_reducible first | exact mc_one _ | exact tc_one _ | exact cc_one _ | exact dc_one _ | exact rc_one _ | exact t2_one _ _ | exact t3_one _ _ _) | (simp [Value.oneCell']; done)) ?_); intro W_ HP; clear HS; have HS := Aside0.mk HP; clear HP; (try simp only [List.set_cons_zero, List.set_cons_succ] at HS))
      | ((with_reducible refine gate_dst (N := 72) rfl ?_); (with_reducible refine field_at rfl rfl rfl fo49_0 ?_); (try simp only [toNat_16, toNat_12, Int.toNat_natCast, Nat.zero_add, Nat.add_zero, Nat.mul_one]))
      | ((with_reducible refine gate_dst (N := 73) rfl ?_); (with_reducible refine load_one HS.out rfl rfl on3 rfl (by first | exact at0 | exact at1 | exact at2 | exact at3 | exact at4 | exact at5 | exact at6) (by with_reducible first | exact dc_get _ _ (by omega) | exact rc_get _ _ (by omega) | exact at0a | exact at1a | exact at2a | exact at3a) ?_))
      | ((with_reducible refine gate_dst (N := 76) rfl ?_); refine ungate (by rfl) ?_; (with_reducible refine field_at rfl rfl rfl fo42_0 ?_); (try simp only [toNat_16, toNat_12, Int.toNat_natCast, Nat.zero_add, Nat.add_zero, Nat.mul_one]))
      | ((with_reducible refine gate_dst (N := 77) rfl ?_); refine ungate (by rfl) ?_; (with_reducible refine load_one HS.out rfl rfl on3 rfl (by first | exact at0 | exact at1 | exact at2 | exact at3 | exact at4 | exact at5 | exact at6) (by with_reducible first | exact dc_get _ _ (by omega) | exact rc_get _ _ (by omega) | exact at0a | exact at1a | exact at2a | exact at3a) ?_))
      | ((with_reducible refine gate_dst (N := 80) rfl ?_); (with_reducible refine field_at rfl rfl rfl fo37_3 ?_); (try simp only [toNat_16, toNat_12, Int.toNat_natCast, Nat.zero_add, Nat.add_zero, Nat.mul_one]))
      | ((with_reducible refine gate_dst (N := 81) rfl ?_); (with_reducible refine load_one HS.out rfl rfl on25 rfl (by first | exact at0 | exact at1 | exact at2 | exact at3 | exact at4 | exact at5 | exact at6) (by with_reducible exact get_S _) ?_))
      | ((with_reducible refine gate_dst (N := 87) rfl ?_); (with_reducible refine field_at rfl rfl rfl fo37_3 ?_); (try simp only [toNat_16, toNat_12, Int.toNat_natCast, Nat.zero_add, Nat.add_zero, Nat.mul_one]))
      | ((with_reducible refine gate_store (t := 25) (p := 87) rfl ?_); (with_reducible refine store_one HS.out rfl rfl rfl on25 rfl (by first | exact eval_tmp rfl | exact eval_const) (by first | exact at0 | exact at1 | exact at2 | exact at3 | exact at4 | exact at5 | exact at6) (by with_reducible exact set_S _ _) (by simp only [mc_size, tc_size, cc_size, dc_size, rc_size, List.size_toArray, List.length_cons, List.length_nil]; omega) rfl rfl ?_); intro W_ HP; clear HS; have HS := Aside0.mk HP; clear HP; (try simp only [List.set_cons_zero, List.set_cons_succ] at HS))
      | ((with_reducible refine gate_dst (N := 88) rfl ?_); (with_reducible refine load_seg HS.out rfl rfl ag37 rfl (by first | exact at0 | exact at1 | exact at2 | exact at3 | exact at4 | exact at5 | exact at6) (by with_reducible first | exact tc_el _ _ (by omega) | exact cc_el _ _ (by omega) | exact whole _) (by with_reducible first | exact mc_size _ | exact tc_size _ | exact cc_size _ | exact dc_size _ | exact rc_size _ | exact sz1 | exact sz2 | exact sz3 | exact sz4) ?_))
      | ((with_reducible refine gate_dst (N := 89) rfl ?_); (with_reducible refine load_seg HS.out rfl rfl ag42 rfl (by first | exact at0 | exact at1 | exact at2 | exact at3 | exact at4 | exact at5 | exact at6) (by with_reducible first | exact tc_el _ _ (by omega) | exact cc_el _ _ (by omega) | exact whole _) (by with_reducible first | exact mc_size _ | exact tc_size _ | exact cc_size _ | exact dc_size _ | exact rc_size _ | exact sz1 | exact sz2 | exact sz3 | exact sz4) ?_))
      | ((with_reducible refine gate_store (t := 37) (p := 4) rfl ?_); (with_reducible refine store_seg HS.out rfl rfl rfl ag37 rfl (by first | exact eval_tmp rfl | exact eval_const) (by first | exact at0 | exact at1 | exact at2 | exact at3 | exact at4 | exact at5 | exact at6) (by with_reducible first | exact tc_put _ _ (by omega) _ _ | exact cc_put _ _ (by omega) _ _ _ | exact dc_put _ _ (by omega) _ | exact rc_put _ _ (by omega) _ | exact lay_mc _ _ | exact lay_tc _ _ | exact lay_cc _ _ | exact lay_dc _ _ | exact lay_rc _ _ | exact lay2_0 | exact lay2_1 | exact lay3_0 | exact lay3_1 | exact lay3_2 | exact lay2_w | exact lay3_w) (by with_reducible first | exact mc_size _ | exact tc_size _ | exact cc_size _ | exact dc_size _ | exact rc_size _ | exact sz1 | exact sz2 | exact sz3 | exact sz4) (by simp only [mc_size, tc_size, cc_size, dc_size, rc_size, List.size_toArray, List.length_cons, List.length_nil]; omega) (by first | (with_reducible first | exact mc_one _ | exact tc_one _ | exact cc_one _ | exact dc_one _ | exact rc_one _ | exact t2_one _ _ | exact t3_one _ _ _) | (simp [Value.oneCell']; done)) ?_); intro W_ HP; clear HS; have HS := Aside0.mk HP; clear HP; (try simp only [List.set_cons_zero, List.set_cons_succ] at HS))
      | ((with_reducible refine gate_store (t := 37) (p := 4) rfl ?_); (with_reducible refine store_seg HS.out rfl rfl rfl ag37 rfl (by first | exact eval_tmp rfl | exact eval_const) (by first | exact at0 | exact at1 | exact at2 | exact at3 | exact at4 | exact at5 | exact at6) (by with_reducible first | exact tc_put _ _ (by omega) _ _ | exact cc_put _ _ (by omega) _ _ _ | exact dc_put _ _ (by omega) _ | exact rc_put _ _ (by omega) _ | exact lay_mc _ _ | exact lay_tc _ _ | exact lay_cc _ _ | exact lay_dc _ _ | exact lay_rc _ _ | exact lay2_0 | exact lay2_1 | exact lay3_0 | exact lay3_1 | exact lay3_2 | exact lay2_w | exact lay3_w) (by with_reducible first | exact mc_size _ | exact tc_size _ | exact cc_size _ | exact dc_size _ | exact rc_size _ | exact sz1 | exact sz2 | exact sz3 | exact sz4) (by simp only [mc_size, tc_size, cc_size, dc_size, rc_size, List.size_toArray, List.length_cons, List.length_nil]; omega) (by first | (with_reducible first | exact mc_one _ | exact tc_one _ | exact cc_one _ | exact dc_one _ | exact rc_one _ | exact t2_one _ _ | exact t3_one _ _ _) | (simp [Value.oneCell']; done)) ?_); intro W_ HP; clear HS; have HS := Aside0.mk HP; clear HP; (try simp only [List.set_cons_zero, List.set_cons_succ] at HS))
      | ((with_reducible refine gate_store (t := 37) (p := 4) rfl ?_); (with_reducible refine store_seg HS.out rfl rfl rfl ag37 rfl (by first | exact eval_tmp rfl | exact eval_const) (by first | exact at0 | exact at1 | exact at2 | exact at3 | exact at4 | exact at5 | exact at6) (by with_reducible first | exact tc_put _ _ (by omega) _ _ | exact cc_put _ _ (by omega) _ _ _ | exact dc_put _ _ (by omega) _ | exact rc_put _ _ (by omega) _ | exact lay_mc _ _ | exact lay_tc _ _ | exact lay_cc _ _ | exact lay_dc _ _ | exact lay_rc _ _ | exact lay2_0 | exact lay2_1 | exact lay3_0 | exact lay3_1 | exact lay3_2 | exact lay2_w | exact lay3_w) (by with_reducible first | exact mc_size _ | exact tc_size _ | exact cc_size _ | exact dc_size _ | exact rc_size _ | exact sz1 | exact sz2 | exact sz3 | exact sz4) (by simp only [mc_size, tc_size, cc_size, dc_size, rc_size, List.size_toArray, List.length_cons, List.length_nil]; omega) (by first | (with_reducible first | exact mc_one _ | exact tc_one _ | exact cc_one _ | exact dc_one _ | exact rc_one _ | exact t2_one _ _ | exact t3_one _ _ _) | (simp [Value.oneCell']; done)) ?_); intro W_ HP; clear HS; have HS := Aside0.mk HP; clear HP; (try simp only [List.set_cons_zero, List.set_cons_succ] at HS))
      | ((with_reducible refine gate_store (t := 37) (p := 4) rfl ?_); (with_reducible refine store_seg HS.out rfl rfl rfl ag37 rfl (by first | exact eval_tmp rfl | exact eval_const) (by first | exact at0 | exact at1 | exact at2 | exact at3 | exact at4 | exact at5 | exact at6) (by with_reducible first | exact tc_put _ _ (by omega) _ _ | exact cc_put _ _ (by omega) _ _ _ | exact dc_put _ _ (by omega) _ | exact rc_put _ _ (by omega) _ | exact lay_mc _ _ | exact lay_tc _ _ | exact lay_cc _ _ | exact lay_dc _ _ | exact lay_rc _ _ | exact lay2_0 | exact lay2_1 | exact lay3_0 | exact lay3_1 | exact lay3_2 | exact lay2_w | exact lay3_w) (by with_reducible first | exact mc_size _ | exact tc_size _ | exact cc_size _ | exact dc_size _ | exact rc_size _ | exact sz1 | exact sz2 | exact sz3 | exact sz4) (by simp only [mc_size, tc_size, cc_size, dc_size, rc_size, List.size_toArray, List.length_cons, List.length_nil]; omega) (by first | (with_reducible first | exact mc_one _ | exact tc_one _ | exact cc_one _ | exact dc_one _ | exact rc_one _ | exact t2_one _ _ | exact t3_one _ _ _) | (simp [Value.oneCell']; done)) ?_); intro W_ HP; clear HS; have HS := Aside0.mk HP; clear HP; (try simp only [List.set_cons_zero, List.set_cons_succ] at HS))
      | ((with_reducible refine gate_store (t := 37) (p := 4) rfl ?_); (with_reducible refine store_seg HS.out rfl rfl rfl ag37 rfl (by first | exact eval_tmp rfl | exact eval_const) (by first | exact at0 | exact at1 | exact at2 | exact at3 | exact at4 | exact at5 | exact at6) (by with_reducible first | exact tc_put _ _ (by omega) _ _ | exact cc_put _ _ (by omega) _ _ _ | exact dc_put _ _ (by omega) _ | exact rc_put _ _ (by omega) _ | exact lay_mc _ _ | exact lay_tc _ _ | exact lay_cc _ _ | exact lay_dc _ _ | exact lay_rc _ _ | exact lay2_0 | exact lay2_1 | exact lay3_0 | exact lay3_1 | exact lay3_2 | exact lay2_w | exact lay3_w) (by with_reducible first | exact mc_size _ | exact tc_size _ | exact cc_size _ | exact dc_size _ | exact rc_size _ | exact sz1 | exact sz2 | exact sz3 | exact sz4) (by simp only [mc_size, tc_size, cc_size, dc_size, rc_size, List.size_toArray, List.length_cons, List.length_nil]; omega) (by first | (with_reducible first | exact mc_one _ | exact tc_one _ | exact cc_one _ | exact dc_one _ | exact rc_one _ | exact t2_one _ _ | exact t3_one _ _ _) | (simp [Value.oneCell']; done)) ?_); intro W_ HP; clear HS; have HS := Aside0.mk HP; clear HP; (try simp only [List.set_cons_zero, List.set_cons_succ] at HS))
      | ((with_reducible refine gate_store (t := 37) (p := 4) rfl ?_); (with_reducible refine store_seg HS.out rfl rfl rfl ag37 rfl (by first | exact eval_tmp rfl | exact eval_const) (by first | exact at0 | exact at1 | exact at2 | exact at3 | exact at4 | exact at5 | exact at6) (by with_reducible first | exact tc_put _ _ (by omega) _ _ | exact cc_put _ _ (by omega) _ _ _ | exact dc_put _ _ (by omega) _ | exact rc_put _ _ (by omega) _ | exact lay_mc _ _ | exact lay_tc _ _ | exact lay_cc _ _ | exact lay_dc _ _ | exact lay_rc _ _ | exact lay2_0 | exact lay2_1 | exact lay3_0 | exact lay3_1 | exact lay3_2 | exact lay2_w | exact lay3_w) (by with_reducible first | exact mc_size _ | exact tc_size _ | exact cc_size _ | exact dc_size _ | exact rc_size _ | exact sz1 | exact sz2 | exact sz3 | exact sz4) (by simp only [mc_size, tc_size, cc_size, dc_size, rc_size, List.size_toArray, List.length_cons, List.length_nil]; omega) (by first | (with_reducible first | exact mc_one _ | exact tc_one _ | exact cc_one _ | exact dc_one _ | exact rc_one _ | exact t2_one _ _ | exact t3_one _ _ _) | (simp [Value.oneCell']; done)) ?_); intro W_ HP; clear HS; have HS := Aside0.mk HP; clear HP; (try simp only [List.set_cons_zero, List.set_cons_succ] at HS))
      | ((with_reducible refine gate_store (t := 37) (p := 4) rfl ?_); (with_reducible refine store_seg HS.out rfl rfl rfl ag37 rfl (by first | exact eval_tmp rfl | exact eval_const) (by first | exact at0 | exact at1 | exact at2 | exact at3 | exact at4 | exact at5 | exact at6) (by with_reducible first | exact tc_put _ _ (by omega) _ _ | exact cc_put _ _ (by omega) _ _ _ | exact dc_put _ _ (by omega) _ | exact rc_put _ _ (by omega) _ | exact lay_mc _ _ | exact lay_tc _ _ | exact lay_cc _ _ | exact lay_dc _ _ | exact lay_rc _ _ | exact lay2_0 | exact lay2_1 | exact lay3_0 | exact lay3_1 | exact lay3_2 | exact lay2_w | exact lay3_w) (by with_reducible first | exact mc_size _ | exact tc_size _ | exact cc_size _ | exact dc_size _ | exact rc_size _ | exact sz1 | exact sz2 | exact sz3 | exact sz4) (by simp only [mc_size, tc_size, cc_size, dc_size, rc_size, List.size_toArray, List.length_cons, List.length_nil]; omega) (by first | (with_reducible first | exact mc_one _ | exact tc_one _ | exact cc_one _ | exact dc_one _ | exact rc_one _ | exact t2_one _ _ | exact t3_one _ _ _) | (simp [Value.oneCell']; done)) ?_); intro W_ HP; clear HS; have HS := Aside0.mk HP; clear HP; (try simp only [List.set_cons_zero, List.set_cons_succ] at HS))
      | ((with_reducible refine gate_store (t := 37) (p := 4) rfl ?_); (with_reducible refine store_seg HS.out rfl rfl rfl ag37 rfl (by first | exact eval_tmp rfl | exact eval_const) (by first | exact at0 | exact at1 | exact at2 | exact at3 | exact at4 | exact at5 | exact at6) (by with_reducible first | exact tc_put _ _ (by omega) _ _ | exact cc_put _ _ (by omega) _ _ _ | exact dc_put _ _ (by omega) _ | exact rc_put _ _ (by omega) _ | exact lay_mc _ _ | exact lay_tc _ _ | exact lay_cc _ _ | exact lay_dc _ _ | exact lay_rc _ _ | exact lay2_0 | exact lay2_1 | exact lay3_0 | exact lay3_1 | exact lay3_2 | exact lay2_w | exact lay3_w) (by with_reducible first | exact mc_size _ | exact tc_size _ | exact cc_size _ | exact dc_size _ | exact rc_size _ | exact sz1 | exact sz2 | exact sz3 | exact sz4) (by simp only [mc_size, tc_size, cc_size, dc_size, rc_size, List.size_toArray, List.length_cons, List.length_nil]; omega) (by first | (with_reducible first | exact mc_one _ | exact tc_one _ | exact cc_one _ | exact dc_one _ | exact rc_one _ | exact t2_one _ _ | exact t3_one _ _ _) | (simp [Value.oneCell']; done)) ?_); intro W_ HP; clear HS; have HS := Aside0.mk HP; clear HP; (try simp only [List.set_cons_zero, List.set_cons_succ] at HS)))); (try simp only [Act.put, List.setIfInBounds_toArray, List.set_cons_zero, List.set_cons_succ]))
    refine ret_agg HS.out (by rfl) (by rfl) (by rfl) (by first | exact at0 | exact at1 | exact at2 | exact at3 | exact at4 | exact at5 | exact at6) ag37 (by with_reducible first | exact mc_size _ | exact tc_size _ | exact cc_size _ | exact dc_size _ | exact rc_size _ | exact sz1 | exact sz2 | exact sz3 | exact sz4) ?_
    exact ⟨_, rfl, rfl, HS.out.below⟩

set_option maxHeartbeats 4000000 in
set_option maxRecDepth 100000 in
theorem c_DoStep (m : Mm) (wf : m.wf) (v : Value) (l : List Dev) (j : Nat) (hj : j < 16) (M : Int) (hM : ((j : Int) / 8 = 0 ∧ M = 255) ∨ ((j : Int) / 8 = 1 ∧ M = 65280)) (hd0 : l.getD 0 (0, 0, 0) = (4, (j : Int), 0)) (hd1 : l.getD 1 (0, 0, 0) = (0, 0, 0)) (dt : Int) (w : World) (ha : ArgsAt w v l) (ht : Tab w) :
    Calls Tryd.prog 17 #[.agg (mc m), .agg #[.int .i64 25, v], .bool true, .int .u16 dt] w (Ret w (· = .agg (mc (stepped m j M)))) := by
  have hpl : place 4 j = j := place_self 4 j (by omega) (by show (j : Int) < 16; omega)
  have hin : decide ((26 : Int) ≤ 25 ∧ (25 : Int) ≤ 28) = false := by decide
  have W0 : IntKind.i64.wrap 0 = 0 := by decide
  have W00 : (if (0 : Int) < 0 then (0 : Int) else 0) = 0 := rfl
  have HS := Aside0.mk (Priv.nil w)
  have HT := Aside0.mk ht
  have HA := Aside0.mk ha
  clear ht ha
  go_enter Tryd.func17, Tryd.ntmps17
  go_wp2_with ((first
      | ((with_reducible refine gate_dst (N := 4) rfl ?_); (with_reducible refine box_new HS.out rfl rfl (by first | exact eval_tmp rfl | exact eval_const) ?_); intro g4 W4_ HP; clear HS; have HS := Aside0.mk HP; clear HP)
      | ((with_reducible refine gate_dst (N := 5) rfl ?_); (with_reducible refine box_new HS.out rfl rfl (by first | exact eval_tmp rfl | exact eval_const) ?_); intro g5 W5_ HP; clear HS; have HS := Aside0.mk HP; clear HP)
      | ((with_reducible refine gate_dst (N := 8) rfl ?_); (with_reducible refine alloc_new HS.out rfl rfl ze37 ?_); intro g8 W8_ HP; clear HS; have HS := Aside0.mk HP; clear HP)); (try simp only [Act.put, List.setIfInBounds_toArray, List.set_cons_zero, List.set_cons_succ]))
  refine start_R (LS := _) (n := 8) #[false, false, false, false, false, false, false, false] HS.out (by kernel_rfl) rfl rfl (fun W_ HSS => HSS.one at1) ?_
  intro W_ HP hHeld; clear HS; have HS := Aside0.mk HP; clear HP
  refine PrintLast.take_ (i := 0) (oi := { dst := some 15, op := Go.Op.load 49 (Go.Operand.tmp 5), type := 49, pos := "l6_act.go:149", after := #[], guard := none }) (N := some 15) (v := ?_) (a' := ?_) #[true, false, false, false, false, false, false, false] rfl rfl (by kernel_rfl) (fun _ _ _ h => h) (Or.inl ⟨by rfl, ?_⟩) hHeld ?_ ?_
  rotate_left
  · intro w' hS
    refine Eq.trans (run_load_seg hS rfl rfl ag49 rfl (by first | exact at0 | exact at1 | exact at2 | exact at3 | exact at4 | exact at5 | exact at6) (by with_reducible first | exact get_T _ | exact get_C _ | exact get_D _ | exact get_R _ | exact el_T _ _ (by omega) | exact el_C _ _ (by omega) | exact tc_el _ _ (by omega) | exact cc_el _ _ (by omega) | exact whole _) (by with_reducible first | exact mc_size _ | exact tc_size _ | exact cc_size _ | exact dc_size _ | exact rc_size _ | exact sz1 | exact sz2 | exact sz3 | exact sz4)) ?_
    with_reducible rfl
  rotate_left
  · simp only [PrintLast.putAll, Act.put, List.setIfInBounds_toArray, List.set_cons_zero, List.set_cons_succ, Nat.zero_add, Nat.add_zero, Nat.mul_one, Int.toNat_natCast]
    rfl
  refine PrintLast.take_ (i := 2) (oi := { dst := some 17, op := Go.Op.load 49 (Go.Operand.tmp 5), type := 49, pos := "l6_act.go:149", after := #[], guard := none }) (N := some 17) (v := ?_) (a' := ?_) #[true, false, true, false, false, false, false, false] rfl rfl (by kernel_rfl) (fun _ _ _ h => h) (Or.inl ⟨by rfl, ?_⟩) hHeld ?_ ?_
  rotate_left
  · intro w' hS
    refine Eq.trans (run_load_seg hS rfl rfl ag49 rfl (by first | exact at0 | exact at1 | exact at2 | exact at3 | exact at4 | exact at5 | exact at6) (by with_reducible first | exact get_T _ | exact get_C _ | exact get_D _ | exact get_R _ | exact el_T _ _ (by omega) | exact el_C _ _ (by omega) | exact tc_el _ _ (by omega) | exact cc_el _ _ (by omega) | exact whole _) (by with_reducible first | exact mc_size _ | exact tc_size _ | exact cc_size _ | exact dc_size _ | exact rc_size _ | exact sz1 | exact sz2 | exact sz3 | exact sz4)) ?_
    with_reducible rfl
  rotate_left
  · simp only [PrintLast.putAll, Act.put, List.setIfInBounds_toArray, List.set_cons_zero, List.set_cons_succ, Nat.zero_add, Nat.add_zero, Nat.mul_one, Int.toNat_natCast]
    rfl
  clear hHeld
  refine PrintLast.join_ (σ := Nat × Nat) 2 #[true, true, true, true, true, true, false, false] (fun s => [(16, .agg #[.int .i64 4, .int .i64 (j : Int), .int .i64 0]), (18, .agg #[.int .i64 0, .int .i64 0, .int .i64 0]), (9, .pointer (some ⟨s.1, 0, none⟩)), (10, .pointer (some ⟨s.2, 0, none⟩))]) (fun s w' => Priv w w' ((s.2, #[.int .i64 0, .int .i64 0, .int .i64 0]) :: (s.1, #[.int .i64 0, .int .i64 0, .int .i64 0]) :: [(g8, mc zm), (g5, #[.int .i64 25, v]), (g4, mc m)])) ?_ ?_
  rotate_left
  · intro H211
    refine PrintLast.join_ (σ := Nat × Nat) 3 #[true, true, true, true, true, false, false, false] (fun s => [(16, .agg #[.int .i64 4, .int .i64 (j : Int), .int .i64 0]), (18, .agg #[.int .i64 0, .int .i64 0, .int .i64 0]), (9, .pointer (some ⟨s.1, 0, none⟩))]) (fun s w' => Priv w w' ((s.1, #[.int .i64 0, .int .i64 0, .int .i64 0]) :: [(g8, mc zm), (g5, #[.int .i64 25, v]), (g4, mc m)])) ?_ ?_
    · intro s w' HF
      refine PrintLast.norm_ (a' := ?_) ?_ ?_
      rotate_left
      · simp only [PrintLast.putAll, Act.put, List.setIfInBounds_toArray, List.set_cons_zero, List.set_cons_succ, Nat.zero_add, Nat.add_zero, Nat.mul_one, Int.toNat_natCast]
        rfl
      refine PrintLast.one_ (i := 5) (oi := { dst := some 10, op := Go.Op.alloc 42, type := 0, pos := "l6_act.go:149", after := #[], guard := none }) (N := some 10) #[true, true, true, true, true, true, false, false] rfl rfl (by kernel_rfl) (by decide) (fun K hK => ?_)
      · refine step_alloc (wanted_of rfl) HF rfl rfl ze42 ?_
        intro g_ W_ HP
        refine hK.out _ _ (HP.drop1.drop1.one at1) (fun _ => ?_)
        refine PrintLast.norm_ ?_ (H211 (s.1, g_) _ HP)
        simp only [PrintLast.putAll, Act.put, List.setIfInBounds_toArray, List.set_cons_zero, List.set_cons_succ, Nat.zero_add, Nat.add_zero, Nat.mul_one, Int.toNat_natCast]
    intro H210
    refine PrintLast.join_ (σ := Nat × Nat) 3 #[true, true, true, true, false, true, false, false] (fun s => [(16, .agg #[.int .i64 4, .int .i64 (j : Int), .int .i64 0]), (18, .agg #[.int .i64 0, .int .i64 0, .int .i64 0]), (10, .pointer (some ⟨s.2, 0, none⟩))]) (fun s w' => Priv w w' ((s.2, #[.int .i64 0, .int .i64 0, .int .i64 0]) :: [(g8, mc zm), (g5, #[.int .i64 25, v]), (g4, mc m)])) ?_ ?_
    · intro s w' HF
      refine PrintLast.norm_ (a' := ?_) ?_ ?_
      rotate_left
      · simp only [PrintLast.putAll, Act.put, List.setIfInBounds_toArray, List.set_cons_zero, List.set_cons_succ, Nat.zero_add, Nat.add_zero, Nat.mul_one, Int.toNat_natCast]
        rfl
      refine PrintLast.one_ (i := 4) (oi := { dst := some 9, op := Go.Op.alloc 42, type := 0, pos := "l6_act.go:149", after := #[], guard := none }) (N := some 9) #[true, true, true, true, true, true, false, false] rfl rfl (by kernel_rfl) (by decide) (fun K hK => ?_)
      · refine step_alloc (wanted_of rfl) HF rfl rfl ze42 ?_
        intro g_ W_ HP
        refine hK.out _ _ (HP.swap.drop1.drop1.one at1) (fun _ => ?_)
        refine PrintLast.norm_ ?_ (H211 (g_, s.2) _ HP.swap)
        simp only [PrintLast.putAll, Act.put, List.setIfInBounds_toArray, List.set_cons_zero, List.set_cons_succ, Nat.zero_add, Nat.add_zero, Nat.mul_one, Int.toNat_natCast]
    intro H201
    refine PrintLast.join_ (σ := Nat × Nat) 3 #[true, true, true, false, true, true, false, false] (fun s => [(16, .agg #[.int .i64 4, .int .i64 (j : Int), .int .i64 0]), (9, .pointer (some ⟨s.1, 0, none⟩)), (10, .pointer (some ⟨s.2, 0, none⟩))]) (fun s w' => Priv w w' ((s.2, #[.int .i64 0, .int .i64 0, .int .i64 0]) :: (s.1, #[.int .i64 0, .int .i64 0, .int .i64 0]) :: [(g8, mc zm), (g5, #[.int .i64 25, v]), (g4, mc m)])) ?_ ?_
    · intro s w' HF
      refine PrintLast.norm_ (a' := ?_) ?_ ?_
      rotate_left
      · simp only [PrintLast.putAll, Act.put, List.setIfInBounds_toArray, List.set_cons_zero, List.set_cons_succ, Nat.zero_add, Nat.add_zero, Nat.mul_one, Int.toNat_natCast]
        rfl
      refine PrintLast.one_ (i := 3) (oi := { dst := some 18, op := Go.Op.call { callee := Go.Callee.value (Go.Operand.func 40), args := #[Go.Operand.tmp 17, Go.Operand.const (Go.Value.int Go.IntKind.i64 1)], argTypes := #[49, 3] }, type := 42, pos := "l6_act.go:149", after := #[{ on := 2, ground := Go.Ground.data }, { on := 1, ground := Go.Ground.chain }], guard := none }) (N := some 18) #[true, true, true, true, true, true, false, false] rfl rfl (by kernel_rfl) (by decide) (fun K hK => ?_)
      · refine step_callr (wanted_of rfl) HF rfl rfl Tryd.func40 (by kernel_rfl) rfl (by (try simp only [List.map_toArray, List.map_cons, List.map_nil]); first | done | rfl) (c_arg3 _ v l 1 _ (by rfl) _ _ _ hd1 HA.out HF) ?_
        intro W_ HP
        refine hK.out _ _ (HP.drop1.drop1.one at1) (fun _ => ?_)
        refine PrintLast.norm_ ?_ (H211 s _ HP)
        simp only [PrintLast.putAll, Act.put, List.setIfInBounds_toArray, List.set_cons_zero, List.set_cons_succ, Nat.zero_add, Nat.add_zero, Nat.mul_one, Int.toNat_natCast]
    intro H111
    refine PrintLast.join_ (σ := Nat × Nat) 4 #[true, true, true, true, false, false, false, false] (fun s => [(16, .agg #[.int .i64 4, .int .i64 (j : Int), .int .i64 0]), (18, .agg #[.int .i64 0, .int .i64 0, .int .i64 0])]) (fun s w' => Priv w w' ([(g8, mc zm), (g5, #[.int .i64 25, v]), (g4, mc m)])) ?_ ?_
    · intro s w' HF
      refine PrintLast.norm_ (a' := ?_) ?_ ?_
      rotate_left
      · simp only [PrintLast.putAll, Act.put, List.setIfInBounds_toArray, List.set_cons_zero, List.set_cons_succ, Nat.zero_add, Nat.add_zero, Nat.mul_one, Int.toNat_natCast]
        rfl
      refine PrintLast.two_ (i := 4) (j := 5) (oi := { dst := some 9, op := Go.Op.alloc 42, type := 0, pos := "l6_act.go:149", after := #[], guard := none }) (oj := { dst := some 10, op := Go.Op.alloc 42, type := 0, pos := "l6_act.go:149", after := #[], guard := none }) (Ni := some 9) (Nj := some 10) #[true, true, true, true, true, false, false, false] #[true, true, true, true, false, true, false, false] rfl rfl rfl rfl (by kernel_rfl) (by decide) (by decide) (fun K hK => ?_) (fun K hK => ?_)
      · refine step_alloc (wanted_of rfl) HF rfl rfl ze42 ?_
        intro g_ W_ HP
        refine hK.out _ _ (HP.drop1.one at1) (fun _ => ?_)
        refine PrintLast.norm_ ?_ (H210 (g_, s.2) _ HP)
        simp only [PrintLast.putAll, Act.put, List.setIfInBounds_toArray, List.set_cons_zero, List.set_cons_succ, Nat.zero_add, Nat.add_zero, Nat.mul_one, Int.toNat_natCast]
      · refine step_alloc (wanted_of rfl) HF rfl rfl ze42 ?_
        intro g_ W_ HP
        refine hK.out _ _ (HP.drop1.one at1) (fun _ => ?_)
        refine PrintLast.norm_ ?_ (H201 (s.1, g_) _ HP)
        simp only [PrintLast.putAll, Act.put, List.setIfInBounds_toArray, List.set_cons_zero, List.set_cons_succ, Nat.zero_add, Nat.add_zero, Nat.mul_one, Int.toNat_natCast]
    intro H200
    refine PrintLast.join_ (σ := Nat × Nat) 4 #[true, true, true, false, true, false, false, false] (fun s => [(16, .agg #[.int .i64 4, .int .i64 (j : Int), .int .i64 0]), (9, .pointer (some ⟨s.1, 0, none⟩))]) (fun s w' => Priv w w' ((s.1, #[.int .i64 0, .int .i64 0, .int .i64 0]) :: [(g8, mc zm), (g5, #[.int .i64 25, v]), (g4, mc m)])) ?_ ?_
    · intro s w' HF
      refine PrintLast.norm_ (a' := ?_) ?_ ?_
      rotate_left
      · simp only [PrintLast.putAll, Act.put, List.setIfInBounds_toArray, List.set_cons_zero, List.set_cons_succ, Nat.zero_add, Nat.add_zero, Nat.mul_one, Int.toNat_natCast]
        rfl
      refine PrintLast.two_ (i := 3) (j := 5) (oi := { dst := some 18, op := Go.Op.call { callee := Go.Callee.value (Go.Operand.func 40), args := #[Go.Operand.tmp 17, Go.Operand.const (Go.Value.int Go.IntKind.i64 1)], argTypes := #[49, 3] }, type := 42, pos := "l6_act.go:149", after := #[{ on := 2, ground := Go.Ground.data }, { on := 1, ground := Go.Ground.chain }], guard := none }) (oj := { dst := some 10, op := Go.Op.alloc 42, type := 0, pos := "l6_act.go:149", after := #[], guard := none }) (Ni := some 18) (Nj := some 10) #[true, true, true, true, true, false, false, false] #[true, true, true, false, true, true, false, false] rfl rfl rfl rfl (by kernel_rfl) (by decide) (by decide) (fun K hK => ?_) (fun K hK => ?_)
      · refine step_callr (wanted_of rfl) HF rfl rfl Tryd.func40 (by kernel_rfl) rfl (by (try simp only [List.map_toArray, List.map_cons, List.map_nil]); first | done | rfl) (c_arg3 _ v l 1 _ (by rfl) _ _ _ hd1 HA.out HF) ?_
        intro W_ HP
        refine hK.out _ _ (HP.drop1.one at1) (fun _ => ?_)
        refine PrintLast.norm_ ?_ (H210 s _ HP)
        simp only [PrintLast.putAll, Act.put, List.setIfInBounds_toArray, List.set_cons_zero, List.set_cons_succ, Nat.zero_add, Nat.add_zero, Nat.mul_one, Int.toNat_natCast]
      · refine step_alloc (wanted_of rfl) HF rfl rfl ze42 ?_
        intro g_ W_ HP
        refine hK.out _ _ (HP.drop1.drop1.one at1) (fun _ => ?_)
        refine PrintLast.norm_ ?_ (H111 (s.1, g_) _ HP)
        simp only [PrintLast.putAll, Act.put, List.setIfInBounds_toArray, List.set_cons_zero, List.set_cons_succ, Nat.zero_add, Nat.add_zero, Nat.mul_one, Int.toNat_natCast]
    intro H110
    refine PrintLast.join_ (σ := Nat × Nat) 4 #[true, true, true, false, false, true, false, false] (fun s => [(16, .agg #[.int .i64 4, .int .i64 (j : Int), .int .i64 0]), (10, .pointer (some ⟨s.2, 0, none⟩))]) (fun s w' => Priv w w' ((s.2, #[.int .i64 0, .int .i64 0, .int .i64 0]) :: [(g8, mc zm), (g5, #[.int .i64 25, v]), (g4, mc m)])) ?_ ?_
    · intro s w' HF
      refine PrintLast.norm_ (a' := ?_) ?_ ?_
      rotate_left
      · simp only [PrintLast.putAll, Act.put, List.setIfInBounds_toArray, List.set_cons_zero, List.set_cons_succ, Nat.zero_add, Nat.add_zero, Nat.mul_one, Int.toNat_natCast]
        rfl
      refine PrintLast.two_ (i := 3) (j := 4) (oi := { dst := some 18, op := Go.Op.call { callee := Go.Callee.value (Go.Operand.func 40), args := #[Go.Operand.tmp 17, Go.Operand.const (Go.Value.int Go.IntKind.i64 1)], argTypes := #[49, 3] }, type := 42, pos := "l6_act.go:149", after := #[{ on := 2, ground := Go.Ground.data }, { on := 1, ground := Go.Ground.chain }], guard := none }) (oj := { dst := some 9, op := Go.Op.alloc 42, type := 0, pos := "l6_act.go:149", after := #[], guard := none }) (Ni := some 18) (Nj := some 9) #[true, true, true, true, false, true, false, false] #[true, true, true, false, true, true, false, false] rfl rfl rfl rfl (by kernel_rfl) (by decide) (by decide) (fun K hK => ?_) (fun K hK => ?_)
      · refine step_callr (wanted_of rfl) HF rfl rfl Tryd.func40 (by kernel_rfl) rfl (by (try simp only [List.map_toArray, List.map_cons, List.map_nil]); first | done | rfl) (c_arg3 _ v l 1 _ (by rfl) _ _ _ hd1 HA.out HF) ?_
        intro W_ HP
        refine hK.out _ _ (HP.drop1.one at1) (fun _ => ?_)
        refine PrintLast.norm_ ?_ (H201 s _ HP)
        simp only [PrintLast.putAll, Act.put, List.setIfInBounds_toArray, List.set_cons_zero, List.set_cons_succ, Nat.zero_add, Nat.add_zero, Nat.mul_one, Int.toNat_natCast]
      · refine step_alloc (wanted_of rfl) HF rfl rfl ze42 ?_
        intro g_ W_ HP
        refine hK.out _ _ (HP.swap.drop1.drop1.one at1) (fun _ => ?_)
        refine PrintLast.norm_ ?_ (H111 (g_, s.2) _ HP.swap)
        simp only [PrintLast.putAll, Act.put, List.setIfInBounds_toArray, List.set_cons_zero, List.set_cons_succ, Nat.zero_add, Nat.add_zero, Nat.mul_one, Int.toNat_natCast]
    intro H101
    refine PrintLast.join_ (σ := Nat × Nat) 4 #[true, false, true, false, true, true, false, false] (fun s => [(9, .pointer (some ⟨s.1, 0, none⟩)), (10, .pointer (some ⟨s.2, 0, none⟩))]) (fun s w' => Priv w w' ((s.2, #[.int .i64 0, .int .i64 0, .int .i64 0]) :: (s.1, #[.int .i64 0, .int .i64 0, .int .i64 0]) :: [(g8, mc zm), (g5, #[.int .i64 25, v]), (g4, mc m)])) ?_ ?_
    · intro s w' HF
      refine PrintLast.norm_ (a' := ?_) ?_ ?_
      rotate_left
      · simp only [PrintLast.putAll, Act.put, List.setIfInBounds_toArray, List.set_cons_zero, List.set_cons_succ, Nat.zero_add, Nat.add_zero, Nat.mul_one, Int.toNat_natCast]
        rfl
      refine PrintLast.one_ (i := 1) (oi := { dst := some 16, op := Go.Op.call { callee := Go.Callee.value (Go.Operand.func 40), args := #[Go.Operand.tmp 15, Go.Operand.const (Go.Value.int Go.IntKind.i64 0)], argTypes := #[49, 3] }, type := 42, pos := "l6_act.go:149", after := #[{ on := 0, ground := Go.Ground.data }], guard := none }) (N := some 16) #[true, true, true, false, true, true, false, false] rfl rfl (by kernel_rfl) (by decide) (fun K hK => ?_)
      · refine step_callr (wanted_of rfl) HF rfl rfl Tryd.func40 (by kernel_rfl) rfl (by (try simp only [List.map_toArray, List.map_cons, List.map_nil]); first | done | rfl) (c_arg3 _ v l 0 _ (by rfl) _ _ _ hd0 HA.out HF) ?_
        intro W_ HP
        refine hK.out _ _ (HP.drop1.drop1.one at1) (fun _ => ?_)
        refine PrintLast.norm_ ?_ (H111 s _ HP)
        simp only [PrintLast.putAll, Act.put, List.setIfInBounds_toArray, List.set_cons_zero, List.set_cons_succ, Nat.zero_add, Nat.add_zero, Nat.mul_one, Int.toNat_natCast]
    intro H011
    refine PrintLast.join_ (σ := Nat × Nat) 5 #[true, true, true, false, false, false, false, false] (fun s => [(16, .agg #[.int .i64 4, .int .i64 (j : Int), .int .i64 0])]) (fun s w' => Priv w w' ([(g8, mc zm), (g5, #[.int .i64 25, v]), (g4, mc m)])) ?_ ?_
    · intro s w' HF
      refine PrintLast.norm_ (a' := ?_) ?_ ?_
      rotate_left
      · simp only [PrintLast.putAll, Act.put, List.setIfInBounds_toArray, List.set_cons_zero, List.set_cons_succ, Nat.zero_add, Nat.add_zero, Nat.mul_one, Int.toNat_natCast]
        rfl
      refine PrintLast.three_ (i := 3) (j := 4) (k := 5) (oi := { dst := some 18, op := Go.Op.call { callee := Go.Callee.value (Go.Operand.func 40), args := #[Go.Operand.tmp 17, Go.Operand.const (Go.Value.int Go.IntKind.i64 1)], argTypes := #[49, 3] }, type := 42, pos := "l6_act.go:149", after := #[{ on := 2, ground := Go.Ground.data }, { on := 1, ground := Go.Ground.chain }], guard := none }) (oj := { dst := some 9, op := Go.Op.alloc 42, type := 0, pos := "l6_act.go:149", after := #[], guard := none }) (ok := { dst := some 10, op := Go.Op.alloc 42, type := 0, pos := "l6_act.go:149", after := #[], guard := none }) (Ni := some 18) (Nj := some 9) (Nk := some 10) #[true, true, true, true, false, false, false, false] #[true, true, true, false, true, false, false, false] #[true, true, true, false, false, true, false, false] rfl rfl rfl rfl rfl rfl (by kernel_rfl) (by decide) (by decide) (by decide) (fun K hK => ?_) (fun K hK => ?_) (fun K hK => ?_)
      · refine step_callr (wanted_of rfl) HF rfl rfl Tryd.func40 (by kernel_rfl) rfl (by (try simp only [List.map_toArray, List.map_cons, List.map_nil]); first | done | rfl) (c_arg3 _ v l 1 _ (by rfl) _ _ _ hd1 HA.out HF) ?_
        intro W_ HP
        refine hK.out _ _ (HP.one at1) (fun _ => ?_)
        refine PrintLast.norm_ ?_ (H200 s _ HP)
        simp only [PrintLast.putAll, Act.put, List.setIfInBounds_toArray, List.set_cons_zero, List.set_cons_succ, Nat.zero_add, Nat.add_zero, Nat.mul_one, Int.toNat_natCast]
      · refine step_alloc (wanted_of rfl) HF rfl rfl ze42 ?_
        intro g_ W_ HP
        refine hK.out _ _ (HP.drop1.one at1) (fun _ => ?_)
        refine PrintLast.norm_ ?_ (H110 (g_, s.2) _ HP)
        simp only [PrintLast.putAll, Act.put, List.setIfInBounds_toArray, List.set_cons_zero, List.set_cons_succ, Nat.zero_add, Nat.add_zero, Nat.mul_one, Int.toNat_natCast]
      · refine step_alloc (wanted_of rfl) HF rfl rfl ze42 ?_
        intro g_ W_ HP
        refine hK.out _ _ (HP.drop1.one at1) (fun _ => ?_)
        refine PrintLast.norm_ ?_ (H101 (s.1, g_) _ HP)
        simp only [PrintLast.putAll, Act.put, List.setIfInBounds_toArray, List.set_cons_zero, List.set_cons_succ, Nat.zero_add, Nat.add_zero, Nat.mul_one, Int.toNat_natCast]
    intro H100
    refine PrintLast.join_ (σ := Nat × Nat) 5 #[true, false, true, false, true, false, false, false] (fun s => [(9, .pointer (some ⟨s.1, 0, none⟩))]) (fun s w' => Priv w w' ((s.1, #[.int .i64 0, .int .i64 0, .int .i64 0]) :: [(g8, mc zm), (g5, #[.int .i64 25, v]), (g4, mc m)])) ?_ ?_
    · intro s w' HF
      refine PrintLast.norm_ (a' := ?_) ?_ ?_
      rotate_left
      · simp only [PrintLast.putAll, Act.put, List.setIfInBounds_toArray, List.set_cons_zero, List.set_cons_succ, Nat.zero_add, Nat.add_zero, Nat.mul_one, Int.toNat_natCast]
        rfl
      refine PrintLast.two_ (i := 1) (j := 5) (oi := { dst := some 16, op := Go.Op.call { callee := Go.Callee.value (Go.Operand.func 40), args := #[Go.Operand.tmp 15, Go.Operand.const (Go.Value.int Go.IntKind.i64 0)], argTypes := #[49, 3] }, type := 42, pos := "l6_act.go:149", after := #[{ on := 0, ground := Go.Ground.data }], guard := none }) (oj := { dst := some 10, op := Go.Op.alloc 42, type := 0, pos := "l6_act.go:149", after := #[], guard := none }) (Ni := some 16) (Nj := some 10) #[true, true, true, false, true, false, false, false] #[true, false, true, false, true, true, false, false] rfl rfl rfl rfl (by kernel_rfl) (by decide) (by decide) (fun K hK => ?_) (fun K hK => ?_)
      · refine step_callr (wanted_of rfl) HF rfl rfl Tryd.func40 (by kernel_rfl) rfl (by (try simp only [List.map_toArray, List.map_cons, List.map_nil]); first | done | rfl) (c_arg3 _ v l 0 _ (by rfl) _ _ _ hd0 HA.out HF) ?_
        intro W_ HP
        refine hK.out _ _ (HP.drop1.one at1) (fun _ => ?_)
        refine PrintLast.norm_ ?_ (H110 s _ HP)
        simp only [PrintLast.putAll, Act.put, List.setIfInBounds_toArray, List.set_cons_zero, List.set_cons_succ, Nat.zero_add, Nat.add_zero, Nat.mul_one, Int.toNat_natCast]
      · refine step_alloc (wanted_of rfl) HF rfl rfl ze42 ?_
        intro g_ W_ HP
        refine hK.out _ _ (HP.drop1.drop1.one at1) (fun _ => ?_)
        refine PrintLast.norm_ ?_ (H011 (s.1, g_) _ HP)
        simp only [PrintLast.putAll, Act.put, List.setIfInBounds_toArray, List.set_cons_zero, List.set_cons_succ, Nat.zero_add, Nat.add_zero, Nat.mul_one, Int.toNat_natCast]
    intro H010
    refine PrintLast.join_ (σ := Nat × Nat) 5 #[true, false, true, false, false, true, false, false] (fun s => [(10, .pointer (some ⟨s.2, 0, none⟩))]) (fun s w' => Priv w w' ((s.2, #[.int .i64 0, .int .i64 0, .int .i64 0]) :: [(g8, mc zm), (g5, #[.int .i64 25, v]), (g4, mc m)])) ?_ ?_
    · intro s w' HF
      refine PrintLast.norm_ (a' := ?_) ?_ ?_
      rotate_left
      · simp only [PrintLast.putAll, Act.put, List.setIfInBounds_toArray, List.set_cons_zero, List.set_cons_succ, Nat.zero_add, Nat.add_zero, Nat.mul_one, Int.toNat_natCast]
        rfl
      refine PrintLast.two_ (i := 1) (j := 4) (oi := { dst := some 16, op := Go.Op.call { callee := Go.Callee.value (Go.Operand.func 40), args := #[Go.Operand.tmp 15, Go.Operand.const (Go.Value.int Go.IntKind.i64 0)], argTypes := #[49, 3] }, type := 42, pos := "l6_act.go:149", after := #[{ on := 0, ground := Go.Ground.data }], guard := none }) (oj := { dst := some 9, op := Go.Op.alloc 42, type := 0, pos := "l6_act.go:149", after := #[], guard := none }) (Ni := some 16) (Nj := some 9) #[true, true, true, false, false, true, false, false] #[true, false, true, false, true, true, false, false] rfl rfl rfl rfl (by kernel_rfl) (by decide) (by decide) (fun K hK => ?_) (fun K hK => ?_)
      · refine step_callr (wanted_of rfl) HF rfl rfl Tryd.func40 (by kernel_rfl) rfl (by (try simp only [List.map_toArray, List.map_cons, List.map_nil]); first | done | rfl) (c_arg3 _ v l 0 _ (by rfl) _ _ _ hd0 HA.out HF) ?_
        intro W_ HP
        refine hK.out _ _ (HP.drop1.one at1) (fun _ => ?_)
        refine PrintLast.norm_ ?_ (H101 s _ HP)
        simp only [PrintLast.putAll, Act.put, List.setIfInBounds_toArray, List.set_cons_zero, List.set_cons_succ, Nat.zero_add, Nat.add_zero, Nat.mul_one, Int.toNat_natCast]
      · refine step_alloc (wanted_of rfl) HF rfl rfl ze42 ?_
        intro g_ W_ HP
        refine hK.out _ _ (HP.swap.drop1.drop1.one at1) (fun _ => ?_)
        refine PrintLast.norm_ ?_ (H011 (g_, s.2) _ HP.swap)
        simp only [PrintLast.putAll, Act.put, List.setIfInBounds_toArray, List.set_cons_zero, List.set_cons_succ, Nat.zero_add, Nat.add_zero, Nat.mul_one, Int.toNat_natCast]
    intro H001
    refine PrintLast.join_ (σ := Nat × Nat) 6 #[true, false, true, false, false, false, false, false] (fun s => []) (fun s w' => Priv w w' ([(g8, mc zm), (g5, #[.int .i64 25, v]), (g4, mc m)])) ?_ ?_
    · intro s w' HF
      refine PrintLast.norm_ (a' := ?_) ?_ ?_
      rotate_left
      · simp only [PrintLast.putAll, Act.put, List.setIfInBounds_toArray, List.set_cons_zero, List.set_cons_succ, Nat.zero_add, Nat.add_zero, Nat.mul_one, Int.toNat_natCast]
        rfl
      refine PrintLast.three_ (i := 1) (j := 4) (k := 5) (oi := { dst := some 16, op := Go.Op.call { callee := Go.Callee.value (Go.Operand.func 40), args := #[Go.Operand.tmp 15, Go.Operand.const (Go.Value.int Go.IntKind.i64 0)], argTypes := #[49, 3] }, type := 42, pos := "l6_act.go:149", after := #[{ on := 0, ground := Go.Ground.data }], guard := none }) (oj := { dst := some 9, op := Go.Op.alloc 42, type := 0, pos := "l6_act.go:149", after := #[], guard := none }) (ok := { dst := some 10, op := Go.Op.alloc 42, type := 0, pos := "l6_act.go:149", after := #[], guard := none }) (Ni := some 16) (Nj := some 9) (Nk := some 10) #[true, true, true, false, false, false, false, false] #[true, false, true, false, true, false, false, false] #[true, false, true, false, false, true, false, false] rfl rfl rfl rfl rfl rfl (by kernel_rfl) (by decide) (by decide) (by decide) (fun K hK => ?_) (fun K hK => ?_) (fun K hK => ?_)
      · refine step_callr (wanted_of rfl) HF rfl rfl Tryd.func40 (by kernel_rfl) rfl (by (try simp only [List.map_toArray, List.map_cons, List.map_nil]); first | done | rfl) (c_arg3 _ v l 0 _ (by rfl) _ _ _ hd0 HA.out HF) ?_
        intro W_ HP
        refine hK.out _ _ (HP.one at1) (fun _ => ?_)
        refine PrintLast.norm_ ?_ (H100 s _ HP)
        simp only [PrintLast.putAll, Act.put, List.setIfInBounds_toArray, List.set_cons_zero, List.set_cons_succ, Nat.zero_add, Nat.add_zero, Nat.mul_one, Int.toNat_natCast]
      · refine step_alloc (wanted_of rfl) HF rfl rfl ze42 ?_
        intro g_ W_ HP
        refine hK.out _ _ (HP.drop1.one at1) (fun _ => ?_)
        refine PrintLast.norm_ ?_ (H010 (g_, s.2) _ HP)
        simp only [PrintLast.putAll, Act.put, List.setIfInBounds_toArray, List.set_cons_zero, List.set_cons_succ, Nat.zero_add, Nat.add_zero, Nat.mul_one, Int.toNat_natCast]
      · refine step_alloc (wanted_of rfl) HF rfl rfl ze42 ?_
        intro g_ W_ HP
        refine hK.out _ _ (HP.drop1.one at1) (fun _ => ?_)
        refine PrintLast.norm_ ?_ (H001 (s.1, g_) _ HP)
        simp only [PrintLast.putAll, Act.put, List.setIfInBounds_toArray, List.set_cons_zero, List.set_cons_succ, Nat.zero_add, Nat.add_zero, Nat.mul_one, Int.toNat_natCast]
    intro H000
    exact H000 (0, 0) _ HS.out
  intro s w' HP; clear HS; have HS := Aside0.mk HP; clear HP; obtain ⟨ga_, gb_⟩ := s
  refine PrintLast.norm_ (a' := ?_) ?_ ?_
  rotate_left
  · simp only [PrintLast.putAll, Act.put, List.setIfInBounds_toArray, List.set_cons_zero, List.set_cons_succ, Nat.zero_add, Nat.add_zero, Nat.mul_one, Int.toNat_natCast]
    rfl
  refine PrintLast.one_ (i := 6) (oi := { dst := none, op := Go.Op.store 42 (Go.Operand.tmp 9) (Go.Operand.tmp 16), type := 0, pos := "l6_act.go:149", after := #[{ on := 4, ground := Go.Ground.data }, { on := 1, ground := Go.Ground.data }, { on := 3, ground := Go.Ground.chain }, { on := 0, ground := Go.Ground.phase }, { on := 1, ground := Go.Ground.phase }, { on := 2, ground := Go.Ground.textOnly Go.Departure.lateStores }, { on := 3, ground := Go.Ground.textOnly Go.Departure.lateStoresUnsure }, { on := 4, ground := Go.Ground.phase }, { on := 5, ground := Go.Ground.phase }], guard := none }) (N := none) #[true, true, true, true, true, true, true, false] rfl rfl (by kernel_rfl) (by decide) (fun K hK => ?_)
  refine step_store_seg (wanted_of rfl) HS.out rfl rfl ag42 rfl (by first | exact eval_tmp rfl | exact eval_const) (by first | exact at0 | exact at1 | exact at2 | exact at3 | exact at4 | exact at5 | exact at6) (by with_reducible first | exact set_X _ _ | exact set_Y _ _ | exact set_M _ _ | exact set_S _ _ | exact set_E _ _ | exact set_Time _ _ | exact set_Ran _ _ | exact set_Fault _ _ | exact set_T _ _ | exact set_C _ _ | exact set_D _ _ | exact set_R _ _ | exact put_T _ _ (by omega) _ _ | exact put_C _ _ (by omega) _ _ _ | exact put_D _ _ (by omega) _ | exact put_R _ _ (by omega) _ | exact tc_put _ _ (by omega) _ _ | exact cc_put _ _ (by omega) _ _ _ | exact dc_put _ _ (by omega) _ | exact rc_put _ _ (by omega) _ | exact lay_mc _ _ | exact lay_tc _ _ | exact lay_cc _ _ | exact lay_dc _ _ | exact lay_rc _ _ | exact lay2_0 | exact lay2_1 | exact lay3_0 | exact lay3_1 | exact lay3_2 | exact lay2_w | exact lay3_w) (by with_reducible first | exact mc_size _ | exact tc_size _ | exact cc_size _ | exact dc_size _ | exact rc_size _ | exact sz1 | exact sz2 | exact sz3 | exact sz4) (by simp only [mc_size, tc_size, cc_size, dc_size, rc_size, List.size_toArray, List.length_cons, List.length_nil]; omega) (by first | (with_reducible first | exact mc_one _ | exact tc_one _ | exact cc_one _ | exact dc_one _ | exact rc_one _ | exact t2_one _ _ | exact t3_one _ _ _) | (simp [Value.oneCell']; done)) ?_
  intro W_ HP; clear HS; have HS := Aside0.mk HP; clear HP; (try simp only [List.set_cons_zero, List.set_cons_succ] at HS)
  refine hK.out _ _ (HS.out.drop1.drop1.one at1) (fun _ => ?_)
  clear hK K
  refine PrintLast.one_ (i := 7) (oi := { dst := none, op := Go.Op.store 42 (Go.Operand.tmp 10) (Go.Operand.tmp 18), type := 0, pos := "l6_act.go:149", after := #[{ on := 5, ground := Go.Ground.data }, { on := 3, ground := Go.Ground.data }, { on := 6, ground := Go.Ground.chain }, { on := 0, ground := Go.Ground.phase }, { on := 1, ground := Go.Ground.phase }, { on := 2, ground := Go.Ground.phase }, { on := 3, ground := Go.Ground.phase }, { on := 4, ground := Go.Ground.phase }, { on := 5, ground := Go.Ground.phase }, { on := 6, ground := Go.Ground.phase }], guard := none }) (N := none) #[true, true, true, true, true, true, true, true] rfl rfl (by kernel_rfl) (by decide) (fun K hK => ?_)
  refine step_store_seg (wanted_of rfl) HS.out rfl rfl ag42 rfl (by first | exact eval_tmp rfl | exact eval_const) (by first | exact at0 | exact at1 | exact at2 | exact at3 | exact at4 | exact at5 | exact at6) (by with_reducible first | exact set_X _ _ | exact set_Y _ _ | exact set_M _ _ | exact set_S _ _ | exact set_E _ _ | exact set_Time _ _ | exact set_Ran _ _ | exact set_Fault _ _ | exact set_T _ _ | exact set_C _ _ | exact set_D _ _ | exact set_R _ _ | exact put_T _ _ (by omega) _ _ | exact put_C _ _ (by omega) _ _ _ | exact put_D _ _ (by omega) _ | exact put_R _ _ (by omega) _ | exact tc_put _ _ (by omega) _ _ | exact cc_put _ _ (by omega) _ _ _ | exact dc_put _ _ (by omega) _ | exact rc_put _ _ (by omega) _ | exact lay_mc _ _ | exact lay_tc _ _ | exact lay_cc _ _ | exact lay_dc _ _ | exact lay_rc _ _ | exact lay2_0 | exact lay2_1 | exact lay3_0 | exact lay3_1 | exact lay3_2 | exact lay2_w | exact lay3_w) (by with_reducible first | exact mc_size _ | exact tc_size _ | exact cc_size _ | exact dc_size _ | exact rc_size _ | exact sz1 | exact sz2 | exact sz3 | exact sz4) (by simp only [mc_size, tc_size, cc_size, dc_size, rc_size, List.size_toArray, List.length_cons, List.length_nil]; omega) (by first | (with_reducible first | exact mc_one _ | exact tc_one _ | exact cc_one _ | exact dc_one _ | exact rc_one _ | exact t2_one _ _ | exact t3_one _ _ _) | (simp [Value.oneCell']; done)) ?_
  intro W_ HP; clear HS; have HS := Aside0.mk HP; clear HP; (try simp only [List.set_cons_zero, List.set_cons_succ] at HS)
  refine hK.out _ _ (HS.out.drop1.drop1.one at1) (fun _ => ?_)
  clear hK K
  refine PrintLast.done_ (by kernel_rfl) ?_
  go_wp2_with fail
  refine start_R (LS := _) (n := 9) #[false, false, false, false, false, false, false, false, false] HS.out (by kernel_rfl) rfl rfl (fun W_ HSS => HSS) ?_
  intro W_ HP hHeld; clear HS; have HS := Aside0.mk HP; clear HP
  refine PrintLast.take_ (i := 0) (oi := { dst := some 19, op := Go.Op.load 42 (Go.Operand.tmp 9), type := 42, pos := "l6_act.go:150", after := #[], guard := none }) (N := some 19) (v := ?_) (a' := ?_) #[true, false, false, false, false, false, false, false, false] rfl rfl (by kernel_rfl) (fun _ _ _ h => h) (Or.inl ⟨by rfl, ?_⟩) hHeld ?_ ?_
  rotate_left
  · intro w' hS
    refine Eq.trans (run_load_seg hS rfl rfl ag42 rfl (by first | exact at0 | exact at1 | exact at2 | exact at3 | exact at4 | exact at5 | exact at6) (by with_reducible first | exact get_T _ | exact get_C _ | exact get_D _ | exact get_R _ | exact el_T _ _ (by omega) | exact el_C _ _ (by omega) | exact tc_el _ _ (by omega) | exact cc_el _ _ (by omega) | exact whole _) (by with_reducible first | exact mc_size _ | exact tc_size _ | exact cc_size _ | exact dc_size _ | exact rc_size _ | exact sz1 | exact sz2 | exact sz3 | exact sz4)) ?_
    with_reducible rfl
  rotate_left
  · simp only [PrintLast.putAll, Act.put, List.setIfInBounds_toArray, List.set_cons_zero, List.set_cons_succ, Nat.zero_add, Nat.add_zero, Nat.mul_one, Int.toNat_natCast, W0, W00]
    rfl
  refine PrintLast.take_ (i := 2) (oi := { dst := some 21, op := Go.Op.load 37 (Go.Operand.tmp 4), type := 37, pos := "l6_act.go:150", after := #[], guard := none }) (N := some 21) (v := ?_) (a' := ?_) #[true, false, true, false, false, false, false, false, false] rfl rfl (by kernel_rfl) (fun _ _ _ h => h) (Or.inl ⟨by rfl, ?_⟩) hHeld ?_ ?_
  rotate_left
  · intro w' hS
    refine Eq.trans (run_load_seg hS rfl rfl ag37 rfl (by first | exact at0 | exact at1 | exact at2 | exact at3 | exact at4 | exact at5 | exact at6) (by with_reducible first | exact get_T _ | exact get_C _ | exact get_D _ | exact get_R _ | exact el_T _ _ (by omega) | exact el_C _ _ (by omega) | exact tc_el _ _ (by omega) | exact cc_el _ _ (by omega) | exact whole _) (by with_reducible first | exact mc_size _ | exact tc_size _ | exact cc_size _ | exact dc_size _ | exact rc_size _ | exact sz1 | exact sz2 | exact sz3 | exact sz4)) ?_
    with_reducible rfl
  rotate_left
  · simp only [PrintLast.putAll, Act.put, List.setIfInBounds_toArray, List.set_cons_zero, List.set_cons_succ, Nat.zero_add, Nat.add_zero, Nat.mul_one, Int.toNat_natCast, W0, W00]
    rfl
  refine PrintLast.take_ (i := 3) (oi := { dst := some 22, op := Go.Op.load 42 (Go.Operand.tmp 10), type := 42, pos := "l6_act.go:150", after := #[], guard := none }) (N := some 22) (v := ?_) (a' := ?_) #[true, false, true, true, false, false, false, false, false] rfl rfl (by kernel_rfl) (fun _ _ _ h => h) (Or.inl ⟨by rfl, ?_⟩) hHeld ?_ ?_
  rotate_left
  · intro w' hS
    refine Eq.trans (run_load_seg hS rfl rfl ag42 rfl (by first | exact at0 | exact at1 | exact at2 | exact at3 | exact at4 | exact at5 | exact at6) (by with_reducible first | exact get_T _ | exact get_C _ | exact get_D _ | exact get_R _ | exact el_T _ _ (by omega) | exact el_C _ _ (by omega) | exact tc_el _ _ (by omega) | exact cc_el _ _ (by omega) | exact whole _) (by with_reducible first | exact mc_size _ | exact tc_size _ | exact cc_size _ | exact dc_size _ | exact rc_size _ | exact sz1 | exact sz2 | exact sz3 | exact sz4)) ?_
    with_reducible rfl
  rotate_left
  · simp only [PrintLast.putAll, Act.put, List.setIfInBounds_toArray, List.set_cons_zero, List.set_cons_succ, Nat.zero_add, Nat.add_zero, Nat.mul_one, Int.toNat_natCast, W0, W00]
    rfl
  refine PrintLast.one_ (i := 1) (oi := { dst := some 20, op := Go.Op.call { callee := Go.Callee.value (Go.Operand.func 39), args := #[Go.Operand.tmp 19], argTypes := #[42] }, type := 3, pos := "l6_act.go:150", after := #[{ on := 0, ground := Go.Ground.data }], guard := none }) (N := some 20) #[true, true, true, true, false, false, false, false, false] rfl rfl (by kernel_rfl) (by decide) ?_
  intro K hK
  refine step_callr (wanted_of rfl) HS.out rfl rfl Tryd.func39 (by kernel_rfl) rfl (by (try simp only [List.map_toArray, List.map_cons, List.map_nil]); first | done | rfl) (c_placeE _ _ _ _ hpl _ (HT.out.below HS.out.below)) ?_
  intro W_ HP; clear hHeld; clear HS; have HS := Aside0.mk HP; clear HP
  refine hK.out _ _ (HS.out) (fun hHeld => ?_)
  clear hK K
  refine PrintLast.norm_ (a' := ?_) ?_ ?_
  rotate_left
  · show Act.put _ (some 20) _ = _
    simp only [PrintLast.putAll, Act.put, List.setIfInBounds_toArray, List.set_cons_zero, List.set_cons_succ, Nat.zero_add, Nat.add_zero, Nat.mul_one, Int.toNat_natCast, W0, W00]
    rfl
  refine PrintLast.one_ (i := 4) (oi := { dst := some 23, op := Go.Op.call { callee := Go.Callee.value (Go.Operand.func 15), args := #[Go.Operand.tmp 21, Go.Operand.tmp 22], argTypes := #[37, 42] }, type := 32, pos := "l6_act.go:150", after := #[{ on := 2, ground := Go.Ground.data }, { on := 3, ground := Go.Ground.data }, { on := 1, ground := Go.Ground.chain }], guard := none }) (N := some 23) #[true, true, true, true, true, false, false, false, false] rfl rfl (by kernel_rfl) (by decide) ?_
  intro K hK
  refine step_callr (wanted_of rfl) HS.out rfl rfl Tryd.func15 (by kernel_rfl) rfl (by (try simp only [List.map_toArray, List.map_cons, List.map_nil]); first | done | rfl) (c_MemWhole0 m 0 0 _ (HT.out.below HS.out.below)) ?_
  intro W_ HP; clear hHeld; clear HS; have HS := Aside0.mk HP; clear HP
  refine hK.out _ _ (HS.out) (fun hHeld => ?_)
  clear hK K
  refine PrintLast.norm_ (a' := ?_) ?_ ?_
  rotate_left
  · show Act.put _ (some 23) _ = _
    simp only [PrintLast.putAll, Act.put, List.setIfInBounds_toArray, List.set_cons_zero, List.set_cons_succ, Nat.zero_add, Nat.add_zero, Nat.mul_one, Int.toNat_natCast, W0, W00]
    rfl
  refine PrintLast.pure_ (i := 5) (oi := { dst := some 24, op := Go.Op.convert 32 3 (Go.Operand.tmp 23), type := 3, pos := "l6_act.go:150", after := #[{ on := 4, ground := Go.Ground.data }], guard := none }) (N := some 24) (v := ?_) (a' := ?_) #[true, true, true, true, true, true, false, false, false] rfl rfl (by kernel_rfl) (fun _ _ _ h => h) (Or.inl ⟨by rfl, ?_⟩) ?_ ?_
  rotate_left
  · intro w'
    go_simp
    with_reducible rfl
  rotate_left
  · simp only [PrintLast.putAll, Act.put, List.setIfInBounds_toArray, List.set_cons_zero, List.set_cons_succ, Nat.zero_add, Nat.add_zero, Nat.mul_one, Int.toNat_natCast, W0, W00]
    rfl
  refine PrintLast.pure_ (i := 6) (oi := { dst := some 25, op := Go.Op.call { callee := Go.Callee.builtin Go.Builtin.max, args := #[Go.Operand.const (Go.Value.int Go.IntKind.i64 0), Go.Operand.tmp 24], argTypes := #[3, 3] }, type := 3, pos := "l6_act.go:150", after := #[{ on := 5, ground := Go.Ground.data }], guard := none }) (N := some 25) (v := ?_) (a' := ?_) #[true, true, true, true, true, true, true, false, false] rfl rfl (by kernel_rfl) (fun _ _ _ h => h) (Or.inl ⟨by rfl, ?_⟩) ?_ ?_
  rotate_left
  · intro w'
    go_simp
    with_reducible rfl
  rotate_left
  · simp only [PrintLast.putAll, Act.put, List.setIfInBounds_toArray, List.set_cons_zero, List.set_cons_succ, Nat.zero_add, Nat.add_zero, Nat.mul_one, Int.toNat_natCast, W0, W00]
    rfl
  refine PrintLast.pure_ (i := 7) (oi := { dst := some 11, op := Go.Op.assign (Go.Operand.tmp 20), type := 3, pos := "l6_act.go:150", after := #[{ on := 1, ground := Go.Ground.data }, { on := 4, ground := Go.Ground.chain }, { on := 0, ground := Go.Ground.phase }, { on := 1, ground := Go.Ground.phase }, { on := 2, ground := Go.Ground.textOnly Go.Departure.lateStores }, { on := 3, ground := Go.Ground.textOnly Go.Departure.lateStores }, { on := 4, ground := Go.Ground.textOnly Go.Departure.lateStoresUnsure }, { on := 5, ground := Go.Ground.textOnly Go.Departure.lateStores }, { on := 6, ground := Go.Ground.textOnly Go.Departure.lateStoresUnsure }], guard := none }) (N := some 11) (v := ?_) (a' := ?_) #[true, true, true, true, true, true, true, true, false] rfl rfl (by kernel_rfl) (fun _ _ _ h => h) (Or.inl ⟨by rfl, ?_⟩) ?_ ?_
  rotate_left
  · intro w'
    go_simp
    with_reducible rfl
  rotate_left
  · simp only [PrintLast.putAll, Act.put, List.setIfInBounds_toArray, List.set_cons_zero, List.set_cons_succ, Nat.zero_add, Nat.add_zero, Nat.mul_one, Int.toNat_natCast, W0, W00]
    rfl
  refine PrintLast.pure_ (i := 8) (oi := { dst := some 12, op := Go.Op.assign (Go.Operand.tmp 25), type := 3, pos := "l6_act.go:150", after := #[{ on := 6, ground := Go.Ground.data }, { on := 7, ground := Go.Ground.chain }, { on := 0, ground := Go.Ground.phase }, { on := 1, ground := Go.Ground.phase }, { on := 2, ground := Go.Ground.phase }, { on := 3, ground := Go.Ground.phase }, { on := 4, ground := Go.Ground.phase }, { on := 5, ground := Go.Ground.phase }, { on := 6, ground := Go.Ground.phase }, { on := 7, ground := Go.Ground.phase }], guard := none }) (N := some 12) (v := ?_) (a' := ?_) #[true, true, true, true, true, true, true, true, true] rfl rfl (by kernel_rfl) (fun _ _ _ h => h) (Or.inl ⟨by rfl, ?_⟩) ?_ ?_
  rotate_left
  · intro w'
    go_simp
    with_reducible rfl
  rotate_left
  · simp only [PrintLast.putAll, Act.put, List.setIfInBounds_toArray, List.set_cons_zero, List.set_cons_succ, Nat.zero_add, Nat.add_zero, Nat.mul_one, Int.toNat_natCast, W0, W00]
    rfl
  refine PrintLast.done_ (by kernel_rfl) ?_
  clear hHeld

  go_wp2_with ((first | ((with_reducible refine gate_dst (N := 62) rfl ?_); refine call_ev2 HS.out rfl rfl Tryd.func43 (by kernel_rfl) rfl (by (try simp only [List.map_toArray, List.map_cons, List.map_nil]); first | done | rfl) (c_inE _ _ _ _ hin _) ?_; rintro v_ W_ rfl HP HB_; clear HS; have HS := Aside0.mk HP; clear HP; clear HB_) | ((with_reducible refine gate_dst (N := 119) rfl ?_); refine call_ev2 HS.out rfl rfl Tryd.func45 (by kernel_rfl) rfl (by (try simp only [List.map_toArray, List.map_cons, List.map_nil]); first | done | rfl) (c_PulledStep m wf v l j hj M hM hd0 hd1 _ (HA.out.below HS.out.below) (HT.out.below HS.out.below)) ?_; rintro v_ W_ rfl HP HB_; clear HS; have HS := Aside0.mk HP; clear HP; clear HB_) | (first
      | ((with_reducible refine gate_dst (N := 27) rfl ?_); (with_reducible refine field_at rfl rfl rfl fo49_0 ?_); (try simp only [toNat_16, toNat_12, Int.toNat_natCast, Nat.zero_add, Nat.add_zero, Nat.mul_one]))
      | ((with_reducible refine gate_dst (N := 28) rfl ?_); (with_reducible refine load_one HS.out rfl rfl on3 rfl (by first | exact at0 | exact at1 | exact at2 | exact at3 | exact at4 | exact at5 | exact at6) (by with_reducible first | exact dc_get _ _ (by omega) | exact rc_get _ _ (by omega) | exact at0a | exact at1a | exact at2a | exact at3a) ?_))
      | ((with_reducible refine gate_store (t := 37) (p := 8) rfl ?_); (with_reducible refine store_seg HS.out rfl rfl rfl ag37 rfl (by first | exact eval_tmp rfl | exact eval_const) (by first | exact at0 | exact at1 | exact at2 | exact at3 | exact at4 | exact at5 | exact at6) (by with_reducible first | exact tc_put _ _ (by omega) _ _ | exact cc_put _ _ (by omega) _ _ _ | exact dc_put _ _ (by omega) _ | exact rc_put _ _ (by omega) _ | exact lay_mc _ _ | exact lay_tc _ _ | exact lay_cc _ _ | exact lay_dc _ _ | exact lay_rc _ _ | exact lay2_0 | exact lay2_1 | exact lay3_0 | exact lay3_1 | exact lay3_2 | exact lay2_w | exact lay3_w) (by with_reducible first | exact mc_size _ | exact tc_size _ | exact cc_size _ | exact dc_size _ | exact rc_size _ | exact sz1 | exact sz2 | exact sz3 | exact sz4) (by simp only [mc_size, tc_size, cc_size, dc_size, rc_size, List.size_toArray, List.length_cons, List.length_nil]; omega) (by first | (with_reducible first | exact mc_one _ | exact tc_one _ | exact cc_one _ | exact dc_one _ | exact rc_one _ | exact t2_one _ _ | exact t3_one _ _ _) | (simp [Value.oneCell']; done)) ?_); intro W_ HP; clear HS; have HS := Aside0.mk HP; clear HP; (try simp only [List.set_cons_zero, List.set_cons_succ] at HS))
      | ((with_reducible refine gate_dst (N := 38) rfl ?_); (with_reducible refine field_at rfl rfl rfl fo49_0 ?_); (try simp only [toNat_16, toNat_12, Int.toNat_natCast, Nat.zero_add, Nat.add_zero, Nat.mul_one]))
      | ((with_reducible refine gate_dst (N := 39) rfl ?_); (with_reducible refine load_one HS.out rfl rfl on3 rfl (by first | exact at0 | exact at1 | exact at2 | exact at3 | exact at4 | exact at5 | exact at6) (by with_reducible first | exact dc_get _ _ (by omega) | exact rc_get _ _ (by omega) | exact at0a | exact at1a | exact at2a | exact at3a) ?_))
      | ((with_reducible refine gate_store (t := 37) (p := 8) rfl ?_); (with_reducible refine store_seg HS.out rfl rfl rfl ag37 rfl (by first | exact eval_tmp rfl | exact eval_const) (by first | exact at0 | exact at1 | exact at2 | exact at3 | exact at4 | exact at5 | exact at6) (by with_reducible first | exact tc_put _ _ (by omega) _ _ | exact cc_put _ _ (by omega) _ _ _ | exact dc_put _ _ (by omega) _ | exact rc_put _ _ (by omega) _ | exact lay_mc _ _ | exact lay_tc _ _ | exact lay_cc _ _ | exact lay_dc _ _ | exact lay_rc _ _ | exact lay2_0 | exact lay2_1 | exact lay3_0 | exact lay3_1 | exact lay3_2 | exact lay2_w | exact lay3_w) (by with_reducible first | exact mc_size _ | exact tc_size _ | exact cc_size _ | exact dc_size _ | exact rc_size _ | exact sz1 | exact sz2 | exact sz3 | exact sz4) (by simp only [mc_size, tc_size, cc_size, dc_size, rc_size, List.size_toArray, List.length_cons, List.length_nil]; omega) (by first | (with_reducible first | exact mc_one _ | exact tc_one _ | exact cc_one _ | exact dc_one _ | exact rc_one _ | exact t2_one _ _ | exact t3_one _ _ _) | (simp [Value.oneCell']; done)) ?_); intro W_ HP; clear HS; have HS := Aside0.mk HP; clear HP; (try simp only [List.set_cons_zero, List.set_cons_succ] at HS))
      | ((with_reducible refine gate_dst (N := 60) rfl ?_); (with_reducible refine field_at rfl rfl rfl fo49_0 ?_); (try simp only [toNat_16, toNat_12, Int.toNat_natCast, Nat.zero_add, Nat.add_zero, Nat.mul_one]))
      | ((with_reducible refine gate_dst (N := 61) rfl ?_); (with_reducible refine load_one HS.out rfl rfl on3 rfl (by first | exact at0 | exact at1 | exact at2 | exact at3 | exact at4 | exact at5 | exact at6) (by with_reducible first | exact dc_get _ _ (by omega) | exact rc_get _ _ (by omega) | exact at0a | exact at1a | exact at2a | exact at3a) ?_))
      | ((with_reducible refine gate_dst (N := 80) rfl ?_); (with_reducible refine field_at rfl rfl rfl fo49_0 ?_); (try simp only [toNat_16, toNat_12, Int.toNat_natCast, Nat.zero_add, Nat.add_zero, Nat.mul_one]))
      | ((with_reducible refine gate_dst (N := 81) rfl ?_); (with_reducible refine load_one HS.out rfl rfl on3 rfl (by first | exact at0 | exact at1 | exact at2 | exact at3 | exact at4 | exact at5 | exact at6) (by with_reducible first | exact dc_get _ _ (by omega) | exact rc_get _ _ (by omega) | exact at0a | exact at1a | exact at2a | exact at3a) ?_))
      | ((with_reducible refine gate_dst (N := 117) rfl ?_); (with_reducible refine load_seg HS.out rfl rfl ag37 rfl (by first | exact at0 | exact at1 | exact at2 | exact at3 | exact at4 | exact at5 | exact at6) (by with_reducible first | exact tc_el _ _ (by omega) | exact cc_el _ _ (by omega) | exact whole _) (by with_reducible first | exact mc_size _ | exact tc_size _ | exact cc_size _ | exact dc_size _ | exact rc_size _ | exact sz1 | exact sz2 | exact sz3 | exact sz4) ?_))
      | ((with_reducible refine gate_dst (N := 118) rfl ?_); (with_reducible refine load_seg HS.out rfl rfl ag49 rfl (by first | exact at0 | exact at1 | exact at2 | exact at3 | exact at4 | exact at5 | exact at6) (by with_reducible first | exact tc_el _ _ (by omega) | exact cc_el _ _ (by omega) | exact whole _) (by with_reducible first | exact mc_size _ | exact tc_size _ | exact cc_size _ | exact dc_size _ | exact rc_size _ | exact sz1 | exact sz2 | exact sz3 | exact sz4) ?_))
      | ((with_reducible refine gate_store (t := 37) (p := 8) rfl ?_); (with_reducible refine store_seg HS.out rfl rfl rfl ag37 rfl (by first | exact eval_tmp rfl | exact eval_const) (by first | exact at0 | exact at1 | exact at2 | exact at3 | exact at4 | exact at5 | exact at6) (by with_reducible first | exact tc_put _ _ (by omega) _ _ | exact cc_put _ _ (by omega) _ _ _ | exact dc_put _ _ (by omega) _ | exact rc_put _ _ (by omega) _ | exact lay_mc _ _ | exact lay_tc _ _ | exact lay_cc _ _ | exact lay_dc _ _ | exact lay_rc _ _ | exact lay2_0 | exact lay2_1 | exact lay3_0 | exact lay3_1 | exact lay3_2 | exact lay2_w | exact lay3_w) (by with_reducible first | exact mc_size _ | exact tc_size _ | exact cc_size _ | exact dc_size _ | exact rc_size _ | exact sz1 | exact sz2 | exact sz3 | exact sz4) (by simp only [mc_size, tc_size, cc_size, dc_size, rc_size, List.size_toArray, List.length_cons, List.length_nil]; omega) (by first | (with_reducible first | exact mc_one _ | exact tc_one _ | exact cc_one _ | exact dc_one _ | exact rc_one _ | exact t2_one _ _ | exact t3_one _ _ _) | (simp [Value.oneCell']; done)) ?_); intro W_ HP; clear HS; have HS := Aside0.mk HP; clear HP; (try simp only [List.set_cons_zero, List.set_cons_succ] at HS))
      | ((with_reducible refine gate_dst (N := 120) rfl ?_); (with_reducible refine load_seg HS.out rfl rfl ag37 rfl (by first | exact at0 | exact at1 | exact at2 | exact at3 | exact at4 | exact at5 | exact at6) (by with_reducible first | exact tc_el _ _ (by omega) | exact cc_el _ _ (by omega) | exact whole _) (by with_reducible first | exact mc_size _ | exact tc_size _ | exact cc_size _ | exact dc_size _ | exact rc_size _ | exact sz1 | exact sz2 | exact sz3 | exact sz4) ?_))
      | ((with_reducible refine gate_store (t := 37) (p := 8) rfl ?_); (with_reducible refine store_seg HS.out rfl rfl rfl ag37 rfl (by first | exact eval_tmp rfl | exact eval_const) (by first | exact at0 | exact at1 | exact at2 | exact at3 | exact at4 | exact at5 | exact at6) (by with_reducible first | exact tc_put _ _ (by omega) _ _ | exact cc_put _ _ (by omega) _ _ _ | exact dc_put _ _ (by omega) _ | exact rc_put _ _ (by omega) _ | exact lay_mc _ _ | exact lay_tc _ _ | exact lay_cc _ _ | exact lay_dc _ _ | exact lay_rc _ _ | exact lay2_0 | exact lay2_1 | exact lay3_0 | exact lay3_1 | exact lay3_2 | exact lay2_w | exact lay3_w) (by with_reducible first | exact mc_size _ | exact tc_size _ | exact cc_size _ | exact dc_size _ | exact rc_size _ | exact sz1 | exact sz2 | exact sz3 | exact sz4) (by simp only [mc_size, tc_size, cc_size, dc_size, rc_size, List.size_toArray, List.length_cons, List.length_nil]; omega) (by first | (with_reducible first | exact mc_one _ | exact tc_one _ | exact cc_one _ | exact dc_one _ | exact rc_one _ | exact t2_one _ _ | exact t3_one _ _ _) | (simp [Value.oneCell']; done)) ?_); intro W_ HP; clear HS; have HS := Aside0.mk HP; clear HP; (try simp only [List.set_cons_zero, List.set_cons_succ] at HS)))); (try simp only [Act.put, List.setIfInBounds_toArray, List.set_cons_zero, List.set_cons_succ]))
  all_goals
    refine ret_agg HS.out (by rfl) (by rfl) (by rfl) (by first | exact at0 | exact at1 | exact at2 | exact at3 | exact at4 | exact at5 | exact at6) ag37 (by with_reducible first | exact mc_size _ | exact tc_size _ | exact cc_size _ | exact dc_size _ | exact rc_size _ | exact sz1 | exact sz2 | exact sz3 | exact sz4) ?_
    exact ⟨_, rfl, rfl, HS.out.below⟩

end Go.Proofs.YtidficffkghlkaaDoor.K
