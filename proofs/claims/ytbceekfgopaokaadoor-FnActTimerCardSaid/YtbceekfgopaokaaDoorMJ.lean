/- Walks over the ladders' memory: what the functions of this seat answer. -/
import Derived.Test.YtbceekfgopaokaaDoorProg
import Derived.Test.YtbceekfgopaokaaDoorMW
import Derived.WalkKit
import Derived.Deep.LoopGhost
import Derived.Deep.DeepCutAuto
import Derived.BigFrame
import Derived.Deep.QuietTactic
import Derived.BigQuiet
import Derived.Test.YtbceekfgopaokaaDoorMI
namespace Go.Proofs.YtbceekfgopaokaaDoor.K
open Go Go.RowKit Go.Proofs.YtbceekfgopaokaaDoorW Go.Proofs.YtbceekfgopaokaaDoorW.PrintWords Go.Proofs.YtbceekfgopaokaaDoor.MW
set_option linter.unusedVariables false
set_option linter.unusedSimpArgs false
set_option maxRecDepth 100000

set_option maxHeartbeats 4000000 in
set_option maxRecDepth 100000 in
theorem c_DoTimer (m : Mm) (v : Value) (l : List Dev) (p : Int) (hp : 0 ≤ p ∧ p < 32768) (kn : Nat) (hk : kn < 16) (kk : Int) (hkk : kk = kn) (hd0 : l.getD 0 (0, 0, 0) = (7, kk, 0)) (hd1 : l.getD 1 (0, 0, 0) = (11, p, 0)) (op : Int) (hop : 26 ≤ op ∧ op ≤ 28) (b dn r1 : Bool) (cn r2 : Int) (hT : m.T kn = (dn, cn)) (dt : Int) (w : World) (ha : ArgsAt w v l) (ht : Tab w)
    (hct : ∀ W : World, Calls Tryd.prog 45 #[.agg #[.bool dn, .int .u16 cn], .int .i64 op, .bool b, .int .i64 p, .int .u16 dt] W (Ret W (· = .agg #[.bool r1, .int .u16 r2]))) :
    Calls Tryd.prog 14 #[.agg (mc m), .agg #[.int .i64 op, v], .bool b, .int .u16 dt] w (Ret w (· = .agg (mc { m with T := upd m.T kn (r1, r2) }))) := by
  subst hkk
  have hct' : ∀ W : World, Calls Tryd.prog 45 #[.agg #[.bool (m.T kn).1, .int .u16 (m.T kn).2], .int .i64 op, .bool b, .int .i64 p, .int .u16 dt] W (Ret W (· = .agg #[.bool r1, .int .u16 r2])) := by
    rw [hT]
    exact hct
  have hpl : place 7 (kn : Int) = kn := place_self 7 (kn : Int) (by omega) (by rw [show devN 7 = 16 by decide]; omega)
  have hin : decide ((26 : Int) ≤ op ∧ op ≤ 28) = true := decide_eq_true hop
  have n21 : (op == 21) = false := by simp; omega
  have n24 : (op == 24) = false := by simp; omega
  have W0 : IntKind.i64.wrap p = p := by rw [IntKind.wrap_i64]; omega
  have W00 : (if 0 < p then p else 0) = p := by split <;> omega
  have hw1 : IntKind.i16.wrap p = p := by
    have e : p % 65536 = p := by omega
    simp [IntKind.wrap, IntKind.bits, IntKind.signed, e]
    omega
  have HS := Aside0.mk (Priv.nil w)
  have HT := Aside0.mk ht
  have HA := Aside0.mk ha
  clear ht ha
  go_enter Tryd.func14, Tryd.ntmps14
  go_wp2_with (first
      | ((with_reducible refine gate_dst (N := 4) rfl ?_); (with_reducible refine box_new HS.out rfl rfl (by first | exact eval_tmp rfl | exact eval_const) ?_); intro g4 W4_ HP; clear HS; have HS := Aside0.mk HP; clear HP; (try simp only [Act.put, List.setIfInBounds_toArray, List.set_cons_zero, List.set_cons_succ]))
      | ((with_reducible refine gate_dst (N := 5) rfl ?_); (with_reducible refine box_new HS.out rfl rfl (by first | exact eval_tmp rfl | exact eval_const) ?_); intro g5 W5_ HP; clear HS; have HS := Aside0.mk HP; clear HP; (try simp only [Act.put, List.setIfInBounds_toArray, List.set_cons_zero, List.set_cons_succ]))
      | ((with_reducible refine gate_dst (N := 8) rfl ?_); (with_reducible refine alloc_new HS.out rfl rfl ze42 ?_); intro g8 W8_ HP; clear HS; have HS := Aside0.mk HP; clear HP; (try simp only [Act.put, List.setIfInBounds_toArray, List.set_cons_zero, List.set_cons_succ])))
  refine start_R (LS := _) (n := 8) #[false, false, false, false, false, false, false, false] HS.out (by kernel_rfl) rfl rfl (fun W_ HSS => HSS.one at1) ?_
  intro W_ HP hHeld; clear HS; have HS := Aside0.mk HP; clear HP
  refine PrintLast.take_ (i := 0) (oi := { dst := some 15, op := Go.Op.load 27 (Go.Operand.tmp 5), type := 27, pos := "l6_act.go:149", after := #[], guard := none }) (N := some 15) (v := ?_) (a' := ?_) #[true, false, false, false, false, false, false, false] rfl rfl (by kernel_rfl) (fun _ _ _ h => h) (Or.inl ⟨by rfl, ?_⟩) hHeld ?_ ?_
  rotate_left
  · intro w' hS
    refine Eq.trans (run_load_seg hS rfl rfl ag27 rfl (by first | exact at0 | exact at1 | exact at2 | exact at3 | exact at4 | exact at5 | exact at6) (by with_reducible first | exact get_T _ | exact get_C _ | exact get_D _ | exact get_R _ | exact el_T _ _ (by omega) | exact el_C _ _ (by omega) | exact tc_el _ _ (by omega) | exact cc_el _ _ (by omega) | exact whole _) (by with_reducible first | exact mc_size _ | exact tc_size _ | exact cc_size _ | exact dc_size _ | exact rc_size _ | exact sz1 | exact sz2 | exact sz3 | exact sz4)) ?_
    with_reducible rfl
  rotate_left
  · simp only [PrintLast.putAll, Act.put, List.setIfInBounds_toArray, List.set_cons_zero, List.set_cons_succ, Nat.zero_add, Nat.add_zero, Nat.mul_one, Int.toNat_natCast]
    rfl
  refine PrintLast.take_ (i := 2) (oi := { dst := some 17, op := Go.Op.load 27 (Go.Operand.tmp 5), type := 27, pos := "l6_act.go:149", after := #[], guard := none }) (N := some 17) (v := ?_) (a' := ?_) #[true, false, true, false, false, false, false, false] rfl rfl (by kernel_rfl) (fun _ _ _ h => h) (Or.inl ⟨by rfl, ?_⟩) hHeld ?_ ?_
  rotate_left
  · intro w' hS
    refine Eq.trans (run_load_seg hS rfl rfl ag27 rfl (by first | exact at0 | exact at1 | exact at2 | exact at3 | exact at4 | exact at5 | exact at6) (by with_reducible first | exact get_T _ | exact get_C _ | exact get_D _ | exact get_R _ | exact el_T _ _ (by omega) | exact el_C _ _ (by omega) | exact tc_el _ _ (by omega) | exact cc_el _ _ (by omega) | exact whole _) (by with_reducible first | exact mc_size _ | exact tc_size _ | exact cc_size _ | exact dc_size _ | exact rc_size _ | exact sz1 | exact sz2 | exact sz3 | exact sz4)) ?_
    with_reducible rfl
  rotate_left
  · simp only [PrintLast.putAll, Act.put, List.setIfInBounds_toArray, List.set_cons_zero, List.set_cons_succ, Nat.zero_add, Nat.add_zero, Nat.mul_one, Int.toNat_natCast]
    rfl
  clear hHeld
  refine PrintLast.join_ (σ := Nat × Nat) 2 #[true, true, true, true, true, true, false, false] (fun s => [(16, .agg #[.int .i64 7, .int .i64 (kn : Int), .int .i64 0]), (18, .agg #[.int .i64 11, .int .i64 p, .int .i64 0]), (9, .pointer (some ⟨s.1, 0, none⟩)), (10, .pointer (some ⟨s.2, 0, none⟩))]) (fun s w' => Priv w w' ((s.2, #[.int .i64 0, .int .i64 0, .int .i64 0]) :: (s.1, #[.int .i64 0, .int .i64 0, .int .i64 0]) :: [(g8, mc zm), (g5, #[.int .i64 op, v]), (g4, mc m)])) ?_ ?_
  rotate_left
  · intro H211
    refine PrintLast.join_ (σ := Nat × Nat) 3 #[true, true, true, true, true, false, false, false] (fun s => [(16, .agg #[.int .i64 7, .int .i64 (kn : Int), .int .i64 0]), (18, .agg #[.int .i64 11, .int .i64 p, .int .i64 0]), (9, .pointer (some ⟨s.1, 0, none⟩))]) (fun s w' => Priv w w' ((s.1, #[.int .i64 0, .int .i64 0, .int .i64 0]) :: [(g8, mc zm), (g5, #[.int .i64 op, v]), (g4, mc m)])) ?_ ?_
    · intro s w' HF
      refine PrintLast.norm_ (a' := ?_) ?_ ?_
      rotate_left
      · simp only [PrintLast.putAll, Act.put, List.setIfInBounds_toArray, List.set_cons_zero, List.set_cons_succ, Nat.zero_add, Nat.add_zero, Nat.mul_one, Int.toNat_natCast]
        rfl
      refine PrintLast.one_ (i := 5) (oi := { dst := some 10, op := Go.Op.alloc 24, type := 0, pos := "l6_act.go:149", after := #[], guard := none }) (N := some 10) #[true, true, true, true, true, true, false, false] rfl rfl (by kernel_rfl) (by decide) (fun K hK => ?_)
      · refine step_alloc (wanted_of rfl) HF rfl rfl ze24 ?_
        intro g_ W_ HP
        refine hK.out _ _ (HP.drop1.drop1.one at1) (fun _ => ?_)
        refine PrintLast.norm_ ?_ (H211 (s.1, g_) _ HP)
        simp only [PrintLast.putAll, Act.put, List.setIfInBounds_toArray, List.set_cons_zero, List.set_cons_succ, Nat.zero_add, Nat.add_zero, Nat.mul_one, Int.toNat_natCast]
    intro H210
    refine PrintLast.join_ (σ := Nat × Nat) 3 #[true, true, true, true, false, true, false, false] (fun s => [(16, .agg #[.int .i64 7, .int .i64 (kn : Int), .int .i64 0]), (18, .agg #[.int .i64 11, .int .i64 p, .int .i64 0]), (10, .pointer (some ⟨s.2, 0, none⟩))]) (fun s w' => Priv w w' ((s.2, #[.int .i64 0, .int .i64 0, .int .i64 0]) :: [(g8, mc zm), (g5, #[.int .i64 op, v]), (g4, mc m)])) ?_ ?_
    · intro s w' HF
      refine PrintLast.norm_ (a' := ?_) ?_ ?_
      rotate_left
      · simp only [PrintLast.putAll, Act.put, List.setIfInBounds_toArray, List.set_cons_zero, List.set_cons_succ, Nat.zero_add, Nat.add_zero, Nat.mul_one, Int.toNat_natCast]
        rfl
      refine PrintLast.one_ (i := 4) (oi := { dst := some 9, op := Go.Op.alloc 24, type := 0, pos := "l6_act.go:149", after := #[], guard := none }) (N := some 9) #[true, true, true, true, true, true, false, false] rfl rfl (by kernel_rfl) (by decide) (fun K hK => ?_)
      · refine step_alloc (wanted_of rfl) HF rfl rfl ze24 ?_
        intro g_ W_ HP
        refine hK.out _ _ (HP.swap.drop1.drop1.one at1) (fun _ => ?_)
        refine PrintLast.norm_ ?_ (H211 (g_, s.2) _ HP.swap)
        simp only [PrintLast.putAll, Act.put, List.setIfInBounds_toArray, List.set_cons_zero, List.set_cons_succ, Nat.zero_add, Nat.add_zero, Nat.mul_one, Int.toNat_natCast]
    intro H201
    refine PrintLast.join_ (σ := Nat × Nat) 3 #[true, true, true, false, true, true, false, false] (fun s => [(16, .agg #[.int .i64 7, .int .i64 (kn : Int), .int .i64 0]), (9, .pointer (some ⟨s.1, 0, none⟩)), (10, .pointer (some ⟨s.2, 0, none⟩))]) (fun s w' => Priv w w' ((s.2, #[.int .i64 0, .int .i64 0, .int .i64 0]) :: (s.1, #[.int .i64 0, .int .i64 0, .int .i64 0]) :: [(g8, mc zm), (g5, #[.int .i64 op, v]), (g4, mc m)])) ?_ ?_
    · intro s w' HF
      refine PrintLast.norm_ (a' := ?_) ?_ ?_
      rotate_left
      · simp only [PrintLast.putAll, Act.put, List.setIfInBounds_toArray, List.set_cons_zero, List.set_cons_succ, Nat.zero_add, Nat.add_zero, Nat.mul_one, Int.toNat_natCast]
        rfl
      refine PrintLast.one_ (i := 3) (oi := { dst := some 18, op := Go.Op.call { callee := Go.Callee.value (Go.Operand.func 37), args := #[Go.Operand.tmp 17, Go.Operand.const (Go.Value.int Go.IntKind.i64 1)], argTypes := #[27, 3] }, type := 24, pos := "l6_act.go:149", after := #[{ on := 2, ground := Go.Ground.data }, { on := 1, ground := Go.Ground.chain }], guard := none }) (N := some 18) #[true, true, true, true, true, true, false, false] rfl rfl (by kernel_rfl) (by decide) (fun K hK => ?_)
      · refine step_callr (wanted_of rfl) HF rfl rfl Tryd.func37 (by kernel_rfl) rfl (by (try simp only [List.map_toArray, List.map_cons, List.map_nil]); first | done | rfl) (c_arg3 _ v l 1 _ (by rfl) _ _ _ hd1 HA.out HF) ?_
        intro W_ HP
        refine hK.out _ _ (HP.drop1.drop1.one at1) (fun _ => ?_)
        refine PrintLast.norm_ ?_ (H211 s _ HP)
        simp only [PrintLast.putAll, Act.put, List.setIfInBounds_toArray, List.set_cons_zero, List.set_cons_succ, Nat.zero_add, Nat.add_zero, Nat.mul_one, Int.toNat_natCast]
    intro H111
    refine PrintLast.join_ (σ := Nat × Nat) 4 #[true, true, true, true, false, false, false, false] (fun s => [(16, .agg #[.int .i64 7, .int .i64 (kn : Int), .int .i64 0]), (18, .agg #[.int .i64 11, .int .i64 p, .int .i64 0])]) (fun s w' => Priv w w' ([(g8, mc zm), (g5, #[.int .i64 op, v]), (g4, mc m)])) ?_ ?_
    · intro s w' HF
      refine PrintLast.norm_ (a' := ?_) ?_ ?_
      rotate_left
      · simp only [PrintLast.putAll, Act.put, List.setIfInBounds_toArray, List.set_cons_zero, List.set_cons_succ, Nat.zero_add, Nat.add_zero, Nat.mul_one, Int.toNat_natCast]
        rfl
      refine PrintLast.two_ (i := 4) (j := 5) (oi := { dst := some 9, op := Go.Op.alloc 24, type := 0, pos := "l6_act.go:149", after := #[], guard := none }) (oj := { dst := some 10, op := Go.Op.alloc 24, type := 0, pos := "l6_act.go:149", after := #[], guard := none }) (Ni := some 9) (Nj := some 10) #[true, true, true, true, true, false, false, false] #[true, true, true, true, false, true, false, false] rfl rfl rfl rfl (by kernel_rfl) (by decide) (by decide) (fun K hK => ?_) (fun K hK => ?_)
      · refine step_alloc (wanted_of rfl) HF rfl rfl ze24 ?_
        intro g_ W_ HP
        refine hK.out _ _ (HP.drop1.one at1) (fun _ => ?_)
        refine PrintLast.norm_ ?_ (H210 (g_, s.2) _ HP)
        simp only [PrintLast.putAll, Act.put, List.setIfInBounds_toArray, List.set_cons_zero, List.set_cons_succ, Nat.zero_add, Nat.add_zero, Nat.mul_one, Int.toNat_natCast]
      · refine step_alloc (wanted_of rfl) HF rfl rfl ze24 ?_
        intro g_ W_ HP
        refine hK.out _ _ (HP.drop1.one at1) (fun _ => ?_)
        refine PrintLast.norm_ ?_ (H201 (s.1, g_) _ HP)
        simp only [PrintLast.putAll, Act.put, List.setIfInBounds_toArray, List.set_cons_zero, List.set_cons_succ, Nat.zero_add, Nat.add_zero, Nat.mul_one, Int.toNat_natCast]
    intro H200
    refine PrintLast.join_ (σ := Nat × Nat) 4 #[true, true, true, false, true, false, false, false] (fun s => [(16, .agg #[.int .i64 7, .int .i64 (kn : Int), .int .i64 0]), (9, .pointer (some ⟨s.1, 0, none⟩))]) (fun s w' => Priv w w' ((s.1, #[.int .i64 0, .int .i64 0, .int .i64 0]) :: [(g8, mc zm), (g5, #[.int .i64 op, v]), (g4, mc m)])) ?_ ?_
    · intro s w' HF
      refine PrintLast.norm_ (a' := ?_) ?_ ?_
      rotate_left
      · simp only [PrintLast.putAll, Act.put, List.setIfInBounds_toArray, List.set_cons_zero, List.set_cons_succ, Nat.zero_add, Nat.add_zero, Nat.mul_one, Int.toNat_natCast]
        rfl
      refine PrintLast.two_ (i := 3) (j := 5) (oi := { dst := some 18, op := Go.Op.call { callee := Go.Callee.value (Go.Operand.func 37), args := #[Go.Operand.tmp 17, Go.Operand.const (Go.Value.int Go.IntKind.i64 1)], argTypes := #[27, 3] }, type := 24, pos := "l6_act.go:149", after := #[{ on := 2, ground := Go.Ground.data }, { on := 1, ground := Go.Ground.chain }], guard := none }) (oj := { dst := some 10, op := Go.Op.alloc 24, type := 0, pos := "l6_act.go:149", after := #[], guard := none }) (Ni := some 18) (Nj := some 10) #[true, true, true, true, true, false, false, false] #[true, true, true, false, true, true, false, false] rfl rfl rfl rfl (by kernel_rfl) (by decide) (by decide) (fun K hK => ?_) (fun K hK => ?_)
      · refine step_callr (wanted_of rfl) HF rfl rfl Tryd.func37 (by kernel_rfl) rfl (by (try simp only [List.map_toArray, List.map_cons, List.map_nil]); first | done | rfl) (c_arg3 _ v l 1 _ (by rfl) _ _ _ hd1 HA.out HF) ?_
        intro W_ HP
        refine hK.out _ _ (HP.drop1.one at1) (fun _ => ?_)
        refine PrintLast.norm_ ?_ (H210 s _ HP)
        simp only [PrintLast.putAll, Act.put, List.setIfInBounds_toArray, List.set_cons_zero, List.set_cons_succ, Nat.zero_add, Nat.add_zero, Nat.mul_one, Int.toNat_natCast]
      · refine step_alloc (wanted_of rfl) HF rfl rfl ze24 ?_
        intro g_ W_ HP
        refine hK.out _ _ (HP.drop1.drop1.one at1) (fun _ => ?_)
        refine PrintLast.norm_ ?_ (H111 (s.1, g_) _ HP)
        simp only [PrintLast.putAll, Act.put, List.setIfInBounds_toArray, List.set_cons_zero, List.set_cons_succ, Nat.zero_add, Nat.add_zero, Nat.mul_one, Int.toNat_natCast]
    intro H110
    refine PrintLast.join_ (σ := Nat × Nat) 4 #[true, true, true, false, false, true, false, false] (fun s => [(16, .agg #[.int .i64 7, .int .i64 (kn : Int), .int .i64 0]), (10, .pointer (some ⟨s.2, 0, none⟩))]) (fun s w' => Priv w w' ((s.2, #[.int .i64 0, .int .i64 0, .int .i64 0]) :: [(g8, mc zm), (g5, #[.int .i64 op, v]), (g4, mc m)])) ?_ ?_
    · intro s w' HF
      refine PrintLast.norm_ (a' := ?_) ?_ ?_
      rotate_left
      · simp only [PrintLast.putAll, Act.put, List.setIfInBounds_toArray, List.set_cons_zero, List.set_cons_succ, Nat.zero_add, Nat.add_zero, Nat.mul_one, Int.toNat_natCast]
        rfl
      refine PrintLast.two_ (i := 3) (j := 4) (oi := { dst := some 18, op := Go.Op.call { callee := Go.Callee.value (Go.Operand.func 37), args := #[Go.Operand.tmp 17, Go.Operand.const (Go.Value.int Go.IntKind.i64 1)], argTypes := #[27, 3] }, type := 24, pos := "l6_act.go:149", after := #[{ on := 2, ground := Go.Ground.data }, { on := 1, ground := Go.Ground.chain }], guard := none }) (oj := { dst := some 9, op := Go.Op.alloc 24, type := 0, pos := "l6_act.go:149", after := #[], guard := none }) (Ni := some 18) (Nj := some 9) #[true, true, true, true, false, true, false, false] #[true, true, true, false, true, true, false, false] rfl rfl rfl rfl (by kernel_rfl) (by decide) (by decide) (fun K hK => ?_) (fun K hK => ?_)
      · refine step_callr (wanted_of rfl) HF rfl rfl Tryd.func37 (by kernel_rfl) rfl (by (try simp only [List.map_toArray, List.map_cons, List.map_nil]); first | done | rfl) (c_arg3 _ v l 1 _ (by rfl) _ _ _ hd1 HA.out HF) ?_
        intro W_ HP
        refine hK.out _ _ (HP.drop1.one at1) (fun _ => ?_)
        refine PrintLast.norm_ ?_ (H201 s _ HP)
        simp only [PrintLast.putAll, Act.put, List.setIfInBounds_toArray, List.set_cons_zero, List.set_cons_succ, Nat.zero_add, Nat.add_zero, Nat.mul_one, Int.toNat_natCast]
      · refine step_alloc (wanted_of rfl) HF rfl rfl ze24 ?_
        intro g_ W_ HP
        refine hK.out _ _ (HP.swap.drop1.drop1.one at1) (fun _ => ?_)
        refine PrintLast.norm_ ?_ (H111 (g_, s.2) _ HP.swap)
        simp only [PrintLast.putAll, Act.put, List.setIfInBounds_toArray, List.set_cons_zero, List.set_cons_succ, Nat.zero_add, Nat.add_zero, Nat.mul_one, Int.toNat_natCast]
    intro H101
    refine PrintLast.join_ (σ := Nat × Nat) 4 #[true, false, true, false, true, true, false, false] (fun s => [(9, .pointer (some ⟨s.1, 0, none⟩)), (10, .pointer (some ⟨s.2, 0, none⟩))]) (fun s w' => Priv w w' ((s.2, #[.int .i64 0, .int .i64 0, .int .i64 0]) :: (s.1, #[.int .i64 0, .int .i64 0, .int .i64 0]) :: [(g8, mc zm), (g5, #[.int .i64 op, v]), (g4, mc m)])) ?_ ?_
    · intro s w' HF
      refine PrintLast.norm_ (a' := ?_) ?_ ?_
      rotate_left
      · simp only [PrintLast.putAll, Act.put, List.setIfInBounds_toArray, List.set_cons_zero, List.set_cons_succ, Nat.zero_add, Nat.add_zero, Nat.mul_one, Int.toNat_natCast]
        rfl
      refine PrintLast.one_ (i := 1) (oi := { dst := some 16, op := Go.Op.call { callee := Go.Callee.value (Go.Operand.func 37), args := #[Go.Operand.tmp 15, Go.Operand.const (Go.Value.int Go.IntKind.i64 0)], argTypes := #[27, 3] }, type := 24, pos := "l6_act.go:149", after := #[{ on := 0, ground := Go.Ground.data }], guard := none }) (N := some 16) #[true, true, true, false, true, true, false, false] rfl rfl (by kernel_rfl) (by decide) (fun K hK => ?_)
      · refine step_callr (wanted_of rfl) HF rfl rfl Tryd.func37 (by kernel_rfl) rfl (by (try simp only [List.map_toArray, List.map_cons, List.map_nil]); first | done | rfl) (c_arg3 _ v l 0 _ (by rfl) _ _ _ hd0 HA.out HF) ?_
        intro W_ HP
        refine hK.out _ _ (HP.drop1.drop1.one at1) (fun _ => ?_)
        refine PrintLast.norm_ ?_ (H111 s _ HP)
        simp only [PrintLast.putAll, Act.put, List.setIfInBounds_toArray, List.set_cons_zero, List.set_cons_succ, Nat.zero_add, Nat.add_zero, Nat.mul_one, Int.toNat_natCast]
    intro H011
    refine PrintLast.join_ (σ := Nat × Nat) 5 #[true, true, true, false, false, false, false, false] (fun s => [(16, .agg #[.int .i64 7, .int .i64 (kn : Int), .int .i64 0])]) (fun s w' => Priv w w' ([(g8, mc zm), (g5, #[.int .i64 op, v]), (g4, mc m)])) ?_ ?_
    · intro s w' HF
      refine PrintLast.norm_ (a' := ?_) ?_ ?_
      rotate_left
      · simp only [PrintLast.putAll, Act.put, List.setIfInBounds_toArray, List.set_cons_zero, List.set_cons_succ, Nat.zero_add, Nat.add_zero, Nat.mul_one, Int.toNat_natCast]
        rfl
      refine PrintLast.three_ (i := 3) (j := 4) (k := 5) (oi := { dst := some 18, op := Go.Op.call { callee := Go.Callee.value (Go.Operand.func 37), args := #[Go.Operand.tmp 17, Go.Operand.const (Go.Value.int Go.IntKind.i64 1)], argTypes := #[27, 3] }, type := 24, pos := "l6_act.go:149", after := #[{ on := 2, ground := Go.Ground.data }, { on := 1, ground := Go.Ground.chain }], guard := none }) (oj := { dst := some 9, op := Go.Op.alloc 24, type := 0, pos := "l6_act.go:149", after := #[], guard := none }) (ok := { dst := some 10, op := Go.Op.alloc 24, type := 0, pos := "l6_act.go:149", after := #[], guard := none }) (Ni := some 18) (Nj := some 9) (Nk := some 10) #[true, true, true, true, false, false, false, false] #[true, true, true, false, true, false, false, false] #[true, true, true, false, false, true, false, false] rfl rfl rfl rfl rfl rfl (by kernel_rfl) (by decide) (by decide) (by decide) (fun K hK => ?_) (fun K hK => ?_) (fun K hK => ?_)
      · refine step_callr (wanted_of rfl) HF rfl rfl Tryd.func37 (by kernel_rfl) rfl (by (try simp only [List.map_toArray, List.map_cons, List.map_nil]); first | done | rfl) (c_arg3 _ v l 1 _ (by rfl) _ _ _ hd1 HA.out HF) ?_
        intro W_ HP
        refine hK.out _ _ (HP.one at1) (fun _ => ?_)
        refine PrintLast.norm_ ?_ (H200 s _ HP)
        simp only [PrintLast.putAll, Act.put, List.setIfInBounds_toArray, List.set_cons_zero, List.set_cons_succ, Nat.zero_add, Nat.add_zero, Nat.mul_one, Int.toNat_natCast]
      · refine step_alloc (wanted_of rfl) HF rfl rfl ze24 ?_
        intro g_ W_ HP
        refine hK.out _ _ (HP.drop1.one at1) (fun _ => ?_)
        refine PrintLast.norm_ ?_ (H110 (g_, s.2) _ HP)
        simp only [PrintLast.putAll, Act.put, List.setIfInBounds_toArray, List.set_cons_zero, List.set_cons_succ, Nat.zero_add, Nat.add_zero, Nat.mul_one, Int.toNat_natCast]
      · refine step_alloc (wanted_of rfl) HF rfl rfl ze24 ?_
        intro g_ W_ HP
        refine hK.out _ _ (HP.drop1.one at1) (fun _ => ?_)
        refine PrintLast.norm_ ?_ (H101 (s.1, g_) _ HP)
        simp only [PrintLast.putAll, Act.put, List.setIfInBounds_toArray, List.set_cons_zero, List.set_cons_succ, Nat.zero_add, Nat.add_zero, Nat.mul_one, Int.toNat_natCast]
    intro H100
    refine PrintLast.join_ (σ := Nat × Nat) 5 #[true, false, true, false, true, false, false, false] (fun s => [(9, .pointer (some ⟨s.1, 0, none⟩))]) (fun s w' => Priv w w' ((s.1, #[.int .i64 0, .int .i64 0, .int .i64 0]) :: [(g8, mc zm), (g5, #[.int .i64 op, v]), (g4, mc m)])) ?_ ?_
    · intro s w' HF
      refine PrintLast.norm_ (a' := ?_) ?_ ?_
      rotate_left
      · simp only [PrintLast.putAll, Act.put, List.setIfInBounds_toArray, List.set_cons_zero, List.set_cons_succ, Nat.zero_add, Nat.add_zero, Nat.mul_one, Int.toNat_natCast]
        rfl
      refine PrintLast.two_ (i := 1) (j := 5) (oi := { dst := some 16, op := Go.Op.call { callee := Go.Callee.value (Go.Operand.func 37), args := #[Go.Operand.tmp 15, Go.Operand.const (Go.Value.int Go.IntKind.i64 0)], argTypes := #[27, 3] }, type := 24, pos := "l6_act.go:149", after := #[{ on := 0, ground := Go.Ground.data }], guard := none }) (oj := { dst := some 10, op := Go.Op.alloc 24, type := 0, pos := "l6_act.go:149", after := #[], guard := none }) (Ni := some 16) (Nj := some 10) #[true, true, true, false, true, false, false, false] #[true, false, true, false, true, true, false, false] rfl rfl rfl rfl (by kernel_rfl) (by decide) (by decide) (fun K hK => ?_) (fun K hK => ?_)
      · refine step_callr (wanted_of rfl) HF rfl rfl Tryd.func37 (by kernel_rfl) rfl (by (try simp only [List.map_toArray, List.map_cons, List.map_nil]); first | done | rfl) (c_arg3 _ v l 0 _ (by rfl) _ _ _ hd0 HA.out HF) ?_
        intro W_ HP
        refine hK.out _ _ (HP.drop1.one at1) (fun _ => ?_)
        refine PrintLast.norm_ ?_ (H110 s _ HP)
        simp only [PrintLast.putAll, Act.put, List.setIfInBounds_toArray, List.set_cons_zero, List.set_cons_succ, Nat.zero_add, Nat.add_zero, Nat.mul_one, Int.toNat_natCast]
      · refine step_alloc (wanted_of rfl) HF rfl rfl ze24 ?_
        intro g_ W_ HP
        refine hK.out _ _ (HP.drop1.drop1.one at1) (fun _ => ?_)
        refine PrintLast.norm_ ?_ (H011 (s.1, g_) _ HP)
        simp only [PrintLast.putAll, Act.put, List.setIfInBounds_toArray, List.set_cons_zero, List.set_cons_succ, Nat.zero_add, Nat.add_zero, Nat.mul_one, Int.toNat_natCast]
    intro H010
    refine PrintLast.join_ (σ := Nat × Nat) 5 #[true, false, true, false, false, true, false, false] (fun s => [(10, .pointer (some ⟨s.2, 0, none⟩))]) (fun s w' => Priv w w' ((s.2, #[.int .i64 0, .int .i64 0, .int .i64 0]) :: [(g8, mc zm), (g5, #[.int .i64 op, v]), (g4, mc m)])) ?_ ?_
    · intro s w' HF
      refine PrintLast.norm_ (a' := ?_) ?_ ?_
      rotate_left
      · simp only [PrintLast.putAll, Act.put, List.setIfInBounds_toArray, List.set_cons_zero, List.set_cons_succ, Nat.zero_add, Nat.add_zero, Nat.mul_one, Int.toNat_natCast]
        rfl
      refine PrintLast.two_ (i := 1) (j := 4) (oi := { dst := some 16, op := Go.Op.call { callee := Go.Callee.value (Go.Operand.func 37), args := #[Go.Operand.tmp 15, Go.Operand.const (Go.Value.int Go.IntKind.i64 0)], argTypes := #[27, 3] }, type := 24, pos := "l6_act.go:149", after := #[{ on := 0, ground := Go.Ground.data }], guard := none }) (oj := { dst := some 9, op := Go.Op.alloc 24, type := 0, pos := "l6_act.go:149", after := #[], guard := none }) (Ni := some 16) (Nj := some 9) #[true, true, true, false, false, true, false, false] #[true, false, true, false, true, true, false, false] rfl rfl rfl rfl (by kernel_rfl) (by decide) (by decide) (fun K hK => ?_) (fun K hK => ?_)
      · refine step_callr (wanted_of rfl) HF rfl rfl Tryd.func37 (by kernel_rfl) rfl (by (try simp only [List.map_toArray, List.map_cons, List.map_nil]); first | done | rfl) (c_arg3 _ v l 0 _ (by rfl) _ _ _ hd0 HA.out HF) ?_
        intro W_ HP
        refine hK.out _ _ (HP.drop1.one at1) (fun _ => ?_)
        refine PrintLast.norm_ ?_ (H101 s _ HP)
        simp only [PrintLast.putAll, Act.put, List.setIfInBounds_toArray, List.set_cons_zero, List.set_cons_succ, Nat.zero_add, Nat.add_zero, Nat.mul_one, Int.toNat_natCast]
      · refine step_alloc (wanted_of rfl) HF rfl rfl ze24 ?_
        intro g_ W_ HP
        refine hK.out _ _ (HP.swap.drop1.drop1.one at1) (fun _ => ?_)
        refine PrintLast.norm_ ?_ (H011 (g_, s.2) _ HP.swap)
        simp only [PrintLast.putAll, Act.put, List.setIfInBounds_toArray, List.set_cons_zero, List.set_cons_succ, Nat.zero_add, Nat.add_zero, Nat.mul_one, Int.toNat_natCast]
    intro H001
    refine PrintLast.join_ (σ := Nat × Nat) 6 #[true, false, true, false, false, false, false, false] (fun s => []) (fun s w' => Priv w w' ([(g8, mc zm), (g5, #[.int .i64 op, v]), (g4, mc m)])) ?_ ?_
    · intro s w' HF
      refine PrintLast.norm_ (a' := ?_) ?_ ?_
      rotate_left
      · simp only [PrintLast.putAll, Act.put, List.setIfInBounds_toArray, List.set_cons_zero, List.set_cons_succ, Nat.zero_add, Nat.add_zero, Nat.mul_one, Int.toNat_natCast]
        rfl
      refine PrintLast.three_ (i := 1) (j := 4) (k := 5) (oi := { dst := some 16, op := Go.Op.call { callee := Go.Callee.value (Go.Operand.func 37), args := #[Go.Operand.tmp 15, Go.Operand.const (Go.Value.int Go.IntKind.i64 0)], argTypes := #[27, 3] }, type := 24, pos := "l6_act.go:149", after := #[{ on := 0, ground := Go.Ground.data }], guard := none }) (oj := { dst := some 9, op := Go.Op.alloc 24, type := 0, pos := "l6_act.go:149", after := #[], guard := none }) (ok := { dst := some 10, op := Go.Op.alloc 24, type := 0, pos := "l6_act.go:149", after := #[], guard := none }) (Ni := some 16) (Nj := some 9) (Nk := some 10) #[true, true, true, false, false, false, false, false] #[true, false, true, false, true, false, false, false] #[true, false, true, false, false, true, false, false] rfl rfl rfl rfl rfl rfl (by kernel_rfl) (by decide) (by decide) (by decide) (fun K hK => ?_) (fun K hK => ?_) (fun K hK => ?_)
      · refine step_callr (wanted_of rfl) HF rfl rfl Tryd.func37 (by kernel_rfl) rfl (by (try simp only [List.map_toArray, List.map_cons, List.map_nil]); first | done | rfl) (c_arg3 _ v l 0 _ (by rfl) _ _ _ hd0 HA.out HF) ?_
        intro W_ HP
        refine hK.out _ _ (HP.one at1) (fun _ => ?_)
        refine PrintLast.norm_ ?_ (H100 s _ HP)
        simp only [PrintLast.putAll, Act.put, List.setIfInBounds_toArray, List.set_cons_zero, List.set_cons_succ, Nat.zero_add, Nat.add_zero, Nat.mul_one, Int.toNat_natCast]
      · refine step_alloc (wanted_of rfl) HF rfl rfl ze24 ?_
        intro g_ W_ HP
        refine hK.out _ _ (HP.drop1.one at1) (fun _ => ?_)
        refine PrintLast.norm_ ?_ (H010 (g_, s.2) _ HP)
        simp only [PrintLast.putAll, Act.put, List.setIfInBounds_toArray, List.set_cons_zero, List.set_cons_succ, Nat.zero_add, Nat.add_zero, Nat.mul_one, Int.toNat_natCast]
      · refine step_alloc (wanted_of rfl) HF rfl rfl ze24 ?_
        intro g_ W_ HP
        refine hK.out _ _ (HP.drop1.one at1) (fun _ => ?_)
        refine PrintLast.norm_ ?_ (H001 (s.1, g_) _ HP)
        simp only [PrintLast.putAll, Act.put, List.setIfInBounds_toArray, List.set_cons_zero, List.set_cons_succ, Nat.zero_add, Nat.add_zero, Nat.mul_one, Int.toNat_natCast]
    intro H000
    exact H000 (0, 0) _ HS.out
  intro s w' HP; clear HS; have HS := Aside0.mk HP; clear HP; obtain ⟨ga_, gb_⟩ := s
  refine PrintLast.norm_ (a' := ?_) ?_ ?_
  rotate_left
  · simp only [PrintLast.putAll, Act.put, List.setIfInBounds_toArray, List.set_cons_zero, List.set_cons_succ, Nat.zero_add, Nat.add_zero, Nat.mul_one, Int.toNat_natCast]
    rfl
  refine PrintLast.one_ (i := 6) (oi := { dst := none, op := Go.Op.store 24 (Go.Operand.tmp 9) (Go.Operand.tmp 16), type := 0, pos := "l6_act.go:149", after := #[{ on := 4, ground := Go.Ground.data }, { on := 1, ground := Go.Ground.data }, { on := 3, ground := Go.Ground.chain }, { on := 0, ground := Go.Ground.phase }, { on := 1, ground := Go.Ground.phase }, { on := 2, ground := Go.Ground.textOnly Go.Departure.lateStores }, { on := 3, ground := Go.Ground.textOnly Go.Departure.lateStoresUnsure }, { on := 4, ground := Go.Ground.phase }, { on := 5, ground := Go.Ground.phase }], guard := none }) (N := none) #[true, true, true, true, true, true, true, false] rfl rfl (by kernel_rfl) (by decide) (fun K hK => ?_)
  refine step_store_seg (wanted_of rfl) HS.out rfl rfl ag24 rfl (by first | exact eval_tmp rfl | exact eval_const) (by first | exact at0 | exact at1 | exact at2 | exact at3 | exact at4 | exact at5 | exact at6) (by with_reducible first | exact set_X _ _ | exact set_Y _ _ | exact set_M _ _ | exact set_S _ _ | exact set_E _ _ | exact set_Time _ _ | exact set_Ran _ _ | exact set_Fault _ _ | exact set_T _ _ | exact set_C _ _ | exact set_D _ _ | exact set_R _ _ | exact put_T _ _ (by omega) _ _ | exact put_C _ _ (by omega) _ _ _ | exact put_D _ _ (by omega) _ | exact put_R _ _ (by omega) _ | exact tc_put _ _ (by omega) _ _ | exact cc_put _ _ (by omega) _ _ _ | exact dc_put _ _ (by omega) _ | exact rc_put _ _ (by omega) _ | exact lay_mc _ _ | exact lay_tc _ _ | exact lay_cc _ _ | exact lay_dc _ _ | exact lay_rc _ _ | exact lay2_0 | exact lay2_1 | exact lay3_0 | exact lay3_1 | exact lay3_2 | exact lay2_w | exact lay3_w) (by with_reducible first | exact mc_size _ | exact tc_size _ | exact cc_size _ | exact dc_size _ | exact rc_size _ | exact sz1 | exact sz2 | exact sz3 | exact sz4) (by simp only [mc_size, tc_size, cc_size, dc_size, rc_size, List.size_toArray, List.length_cons, List.length_nil]; omega) (by first | (with_reducible first | exact mc_one _ | exact tc_one _ | exact cc_one _ | exact dc_one _ | exact rc_one _ | exact t2_one _ _ | exact t3_one _ _ _) | (simp [Value.oneCell']; done)) ?_
  intro W_ HP; clear HS; have HS := Aside0.mk HP; clear HP; (try simp only [List.set_cons_zero, List.set_cons_succ] at HS)
  refine hK.out _ _ (HS.out.drop1.drop1.one at1) (fun _ => ?_)
  clear hK K
  refine PrintLast.one_ (i := 7) (oi := { dst := none, op := Go.Op.store 24 (Go.Operand.tmp 10) (Go.Operand.tmp 18), type := 0, pos := "l6_act.go:149", after := #[{ on := 5, ground := Go.Ground.data }, { on := 3, ground := Go.Ground.data }, { on := 6, ground := Go.Ground.chain }, { on := 0, ground := Go.Ground.phase }, { on := 1, ground := Go.Ground.phase }, { on := 2, ground := Go.Ground.phase }, { on := 3, ground := Go.Ground.phase }, { on := 4, ground := Go.Ground.phase }, { on := 5, ground := Go.Ground.phase }, { on := 6, ground := Go.Ground.phase }], guard := none }) (N := none) #[true, true, true, true, true, true, true, true] rfl rfl (by kernel_rfl) (by decide) (fun K hK => ?_)
  refine step_store_seg (wanted_of rfl) HS.out rfl rfl ag24 rfl (by first | exact eval_tmp rfl | exact eval_const) (by first | exact at0 | exact at1 | exact at2 | exact at3 | exact at4 | exact at5 | exact at6) (by with_reducible first | exact set_X _ _ | exact set_Y _ _ | exact set_M _ _ | exact set_S _ _ | exact set_E _ _ | exact set_Time _ _ | exact set_Ran _ _ | exact set_Fault _ _ | exact set_T _ _ | exact set_C _ _ | exact set_D _ _ | exact set_R _ _ | exact put_T _ _ (by omega) _ _ | exact put_C _ _ (by omega) _ _ _ | exact put_D _ _ (by omega) _ | exact put_R _ _ (by omega) _ | exact tc_put _ _ (by omega) _ _ | exact cc_put _ _ (by omega) _ _ _ | exact dc_put _ _ (by omega) _ | exact rc_put _ _ (by omega) _ | exact lay_mc _ _ | exact lay_tc _ _ | exact lay_cc _ _ | exact lay_dc _ _ | exact lay_rc _ _ | exact lay2_0 | exact lay2_1 | exact lay3_0 | exact lay3_1 | exact lay3_2 | exact lay2_w | exact lay3_w) (by with_reducible first | exact mc_size _ | exact tc_size _ | exact cc_size _ | exact dc_size _ | exact rc_size _ | exact sz1 | exact sz2 | exact sz3 | exact sz4) (by simp only [mc_size, tc_size, cc_size, dc_size, rc_size, List.size_toArray, List.length_cons, List.length_nil]; omega) (by first | (with_reducible first | exact mc_one _ | exact tc_one _ | exact cc_one _ | exact dc_one _ | exact rc_one _ | exact t2_one _ _ | exact t3_one _ _ _) | (simp [Value.oneCell']; done)) ?_
  intro W_ HP; clear HS; have HS := Aside0.mk HP; clear HP; (try simp only [List.set_cons_zero, List.set_cons_succ] at HS)
  refine hK.out _ _ (HS.out.drop1.drop1.one at1) (fun _ => ?_)
  clear hK K
  refine PrintLast.done_ (by kernel_rfl) ?_
  go_wp2_with fail
  refine start_R (LS := _) (n := 9) #[false, false, false, false, false, false, false, false, false] HS.out (by kernel_rfl) rfl rfl (fun W_ HSS => HSS) ?_
  intro W_ HP hHeld; clear HS; have HS := Aside0.mk HP; clear HP
  refine PrintLast.take_ (i := 0) (oi := { dst := some 19, op := Go.Op.load 24 (Go.Operand.tmp 9), type := 24, pos := "l6_act.go:150", after := #[], guard := none }) (N := some 19) (v := ?_) (a' := ?_) #[true, false, false, false, false, false, false, false, false] rfl rfl (by kernel_rfl) (fun _ _ _ h => h) (Or.inl ⟨by rfl, ?_⟩) hHeld ?_ ?_
  rotate_left
  · intro w' hS
    refine Eq.trans (run_load_seg hS rfl rfl ag24 rfl (by first | exact at0 | exact at1 | exact at2 | exact at3 | exact at4 | exact at5 | exact at6) (by with_reducible first | exact get_T _ | exact get_C _ | exact get_D _ | exact get_R _ | exact el_T _ _ (by omega) | exact el_C _ _ (by omega) | exact tc_el _ _ (by omega) | exact cc_el _ _ (by omega) | exact whole _) (by with_reducible first | exact mc_size _ | exact tc_size _ | exact cc_size _ | exact dc_size _ | exact rc_size _ | exact sz1 | exact sz2 | exact sz3 | exact sz4)) ?_
    with_reducible rfl
  rotate_left
  · simp only [PrintLast.putAll, Act.put, List.setIfInBounds_toArray, List.set_cons_zero, List.set_cons_succ, Nat.zero_add, Nat.add_zero, Nat.mul_one, Int.toNat_natCast, W0, W00]
    rfl
  refine PrintLast.take_ (i := 2) (oi := { dst := some 21, op := Go.Op.load 42 (Go.Operand.tmp 4), type := 42, pos := "l6_act.go:150", after := #[], guard := none }) (N := some 21) (v := ?_) (a' := ?_) #[true, false, true, false, false, false, false, false, false] rfl rfl (by kernel_rfl) (fun _ _ _ h => h) (Or.inl ⟨by rfl, ?_⟩) hHeld ?_ ?_
  rotate_left
  · intro w' hS
    refine Eq.trans (run_load_seg hS rfl rfl ag42 rfl (by first | exact at0 | exact at1 | exact at2 | exact at3 | exact at4 | exact at5 | exact at6) (by with_reducible first | exact get_T _ | exact get_C _ | exact get_D _ | exact get_R _ | exact el_T _ _ (by omega) | exact el_C _ _ (by omega) | exact tc_el _ _ (by omega) | exact cc_el _ _ (by omega) | exact whole _) (by with_reducible first | exact mc_size _ | exact tc_size _ | exact cc_size _ | exact dc_size _ | exact rc_size _ | exact sz1 | exact sz2 | exact sz3 | exact sz4)) ?_
    with_reducible rfl
  rotate_left
  · simp only [PrintLast.putAll, Act.put, List.setIfInBounds_toArray, List.set_cons_zero, List.set_cons_succ, Nat.zero_add, Nat.add_zero, Nat.mul_one, Int.toNat_natCast, W0, W00]
    rfl
  refine PrintLast.take_ (i := 3) (oi := { dst := some 22, op := Go.Op.load 24 (Go.Operand.tmp 10), type := 24, pos := "l6_act.go:150", after := #[], guard := none }) (N := some 22) (v := ?_) (a' := ?_) #[true, false, true, true, false, false, false, false, false] rfl rfl (by kernel_rfl) (fun _ _ _ h => h) (Or.inl ⟨by rfl, ?_⟩) hHeld ?_ ?_
  rotate_left
  · intro w' hS
    refine Eq.trans (run_load_seg hS rfl rfl ag24 rfl (by first | exact at0 | exact at1 | exact at2 | exact at3 | exact at4 | exact at5 | exact at6) (by with_reducible first | exact get_T _ | exact get_C _ | exact get_D _ | exact get_R _ | exact el_T _ _ (by omega) | exact el_C _ _ (by omega) | exact tc_el _ _ (by omega) | exact cc_el _ _ (by omega) | exact whole _) (by with_reducible first | exact mc_size _ | exact tc_size _ | exact cc_size _ | exact dc_size _ | exact rc_size _ | exact sz1 | exact sz2 | exact sz3 | exact sz4)) ?_
    with_reducible rfl
  rotate_left
  · simp only [PrintLast.putAll, Act.put, List.setIfInBounds_toArray, List.set_cons_zero, List.set_cons_succ, Nat.zero_add, Nat.add_zero, Nat.mul_one, Int.toNat_natCast, W0, W00]
    rfl
  refine PrintLast.one_ (i := 1) (oi := { dst := some 20, op := Go.Op.call { callee := Go.Callee.value (Go.Operand.func 35), args := #[Go.Operand.tmp 19], argTypes := #[24] }, type := 3, pos := "l6_act.go:150", after := #[{ on := 0, ground := Go.Ground.data }], guard := none }) (N := some 20) #[true, true, true, true, false, false, false, false, false] rfl rfl (by kernel_rfl) (by decide) ?_
  intro K hK
  refine step_callr (wanted_of rfl) HS.out rfl rfl Tryd.func35 (by kernel_rfl) rfl (by (try simp only [List.map_toArray, List.map_cons, List.map_nil]); first | done | rfl) (c_placeE _ _ _ _ hpl _ (HT.out.below HS.out.below)) ?_
  intro W_ HP; clear hHeld; clear HS; have HS := Aside0.mk HP; clear HP
  refine hK.out _ _ (HS.out) (fun hHeld => ?_)
  clear hK K
  refine PrintLast.norm_ (a' := ?_) ?_ ?_
  rotate_left
  · show Act.put _ (some 20) _ = _
    simp only [PrintLast.putAll, Act.put, List.setIfInBounds_toArray, List.set_cons_zero, List.set_cons_succ, Nat.zero_add, Nat.add_zero, Nat.mul_one, Int.toNat_natCast, W0, W00]
    rfl
  refine PrintLast.one_ (i := 4) (oi := { dst := some 23, op := Go.Op.call { callee := Go.Callee.value (Go.Operand.func 44), args := #[Go.Operand.tmp 21, Go.Operand.tmp 22], argTypes := #[42, 24] }, type := 37, pos := "l6_act.go:150", after := #[{ on := 2, ground := Go.Ground.data }, { on := 3, ground := Go.Ground.data }, { on := 1, ground := Go.Ground.chain }], guard := none }) (N := some 23) #[true, true, true, true, true, false, false, false, false] rfl rfl (by kernel_rfl) (by decide) ?_
  intro K hK
  refine step_callr (wanted_of rfl) HS.out rfl rfl Tryd.func44 (by kernel_rfl) rfl (by (try simp only [List.map_toArray, List.map_cons, List.map_nil]); first | done | rfl) (c_MemWhole11 m p 0 _ hw1 _ (HT.out.below HS.out.below)) ?_
  intro W_ HP; clear hHeld; clear HS; have HS := Aside0.mk HP; clear HP
  refine hK.out _ _ (HS.out) (fun hHeld => ?_)
  clear hK K
  refine PrintLast.norm_ (a' := ?_) ?_ ?_
  rotate_left
  · show Act.put _ (some 23) _ = _
    simp only [PrintLast.putAll, Act.put, List.setIfInBounds_toArray, List.set_cons_zero, List.set_cons_succ, Nat.zero_add, Nat.add_zero, Nat.mul_one, Int.toNat_natCast, W0, W00]
    rfl
  refine PrintLast.pure_ (i := 5) (oi := { dst := some 24, op := Go.Op.convert 37 3 (Go.Operand.tmp 23), type := 3, pos := "l6_act.go:150", after := #[{ on := 4, ground := Go.Ground.data }], guard := none }) (N := some 24) (v := ?_) (a' := ?_) #[true, true, true, true, true, true, false, false, false] rfl rfl (by kernel_rfl) (fun _ _ _ h => h) (Or.inl ⟨by rfl, ?_⟩) ?_ ?_
  rotate_left
  · intro w'
    go_simp
    with_reducible rfl
  rotate_left
  · simp only [PrintLast.putAll, Act.put, List.setIfInBounds_toArray, List.set_cons_zero, List.set_cons_succ, Nat.zero_add, Nat.add_zero, Nat.mul_one, Int.toNat_natCast, W0, W00]
    rfl
  refine PrintLast.pure_ (i := 6) (oi := { dst := some 25, op := Go.Op.call { callee := Go.Callee.builtin Go.Builtin.max, args := #[Go.Operand.const (Go.Value.int Go.IntKind.i64 0), Go.Operand.tmp 24], argTypes := #[3, 3] }, type := 3, pos := "l6_act.go:150", after := #[{ on := 5, ground := Go.Ground.data }], guard := none }) (N := some 25) (v := ?_) (a' := ?_) #[true, true, true, true, true, true, true, false, false] rfl rfl (by kernel_rfl) (fun _ _ _ h => h) (Or.inl ⟨by rfl, ?_⟩) ?_ ?_
  rotate_left
  · intro w'
    go_simp
    with_reducible rfl
  rotate_left
  · simp only [PrintLast.putAll, Act.put, List.setIfInBounds_toArray, List.set_cons_zero, List.set_cons_succ, Nat.zero_add, Nat.add_zero, Nat.mul_one, Int.toNat_natCast, W0, W00]
    rfl
  refine PrintLast.pure_ (i := 7) (oi := { dst := some 11, op := Go.Op.assign (Go.Operand.tmp 20), type := 3, pos := "l6_act.go:150", after := #[{ on := 1, ground := Go.Ground.data }, { on := 4, ground := Go.Ground.chain }, { on := 0, ground := Go.Ground.phase }, { on := 1, ground := Go.Ground.phase }, { on := 2, ground := Go.Ground.textOnly Go.Departure.lateStores }, { on := 3, ground := Go.Ground.textOnly Go.Departure.lateStores }, { on := 4, ground := Go.Ground.textOnly Go.Departure.lateStoresUnsure }, { on := 5, ground := Go.Ground.textOnly Go.Departure.lateStores }, { on := 6, ground := Go.Ground.textOnly Go.Departure.lateStoresUnsure }], guard := none }) (N := some 11) (v := ?_) (a' := ?_) #[true, true, true, true, true, true, true, true, false] rfl rfl (by kernel_rfl) (fun _ _ _ h => h) (Or.inl ⟨by rfl, ?_⟩) ?_ ?_
  rotate_left
  · intro w'
    go_simp
    with_reducible rfl
  rotate_left
  · simp only [PrintLast.putAll, Act.put, List.setIfInBounds_toArray, List.set_cons_zero, List.set_cons_succ, Nat.zero_add, Nat.add_zero, Nat.mul_one, Int.toNat_natCast, W0, W00]
    rfl
  refine PrintLast.pure_ (i := 8) (oi := { dst := some 12, op := Go.Op.assign (Go.Operand.tmp 25), type := 3, pos := "l6_act.go:150", after := #[{ on := 6, ground := Go.Ground.data }, { on := 7, ground := Go.Ground.chain }, { on := 0, ground := Go.Ground.phase }, { on := 1, ground := Go.Ground.phase }, { on := 2, ground := Go.Ground.phase }, { on := 3, ground := Go.Ground.phase }, { on := 4, ground := Go.Ground.phase }, { on := 5, ground := Go.Ground.phase }, { on := 6, ground := Go.Ground.phase }, { on := 7, ground := Go.Ground.phase }], guard := none }) (N := some 12) (v := ?_) (a' := ?_) #[true, true, true, true, true, true, true, true, true] rfl rfl (by kernel_rfl) (fun _ _ _ h => h) (Or.inl ⟨by rfl, ?_⟩) ?_ ?_
  rotate_left
  · intro w'
    go_simp
    with_reducible rfl
  rotate_left
  · simp only [PrintLast.putAll, Act.put, List.setIfInBounds_toArray, List.set_cons_zero, List.set_cons_succ, Nat.zero_add, Nat.add_zero, Nat.mul_one, Int.toNat_natCast, W0, W00]
    rfl
  refine PrintLast.done_ (by kernel_rfl) ?_
  clear hHeld

  go_wp2_with (first | ((with_reducible refine gate_dst (N := 62) rfl ?_); refine call_ev2 HS.out rfl rfl Tryd.func40 (by kernel_rfl) rfl (by (try simp only [List.map_toArray, List.map_cons, List.map_nil]); first | done | rfl) (c_inE _ _ _ _ hin _) ?_; rintro v_ W_ rfl HP HB_; clear HS; have HS := Aside0.mk HP; clear HP; clear HB_; (try simp only [Act.put, List.setIfInBounds_toArray, List.set_cons_zero, List.set_cons_succ])) | (first
      | ((with_reducible refine gate_dst (N := 27) rfl ?_); (with_reducible refine field_at rfl rfl rfl fo27_0 ?_); (try simp only [toNat_16, toNat_12, Int.toNat_natCast, Nat.zero_add, Nat.add_zero, Nat.mul_one]); (try simp only [Act.put, List.setIfInBounds_toArray, List.set_cons_zero, List.set_cons_succ]))
      | ((with_reducible refine gate_dst (N := 28) rfl ?_); (with_reducible refine load_one HS.out rfl rfl on3 rfl (by first | exact at0 | exact at1 | exact at2 | exact at3 | exact at4 | exact at5 | exact at6) (by with_reducible first | exact get_X _ | exact get_Y _ | exact get_M _ | exact get_S _ | exact get_E _ | exact get_Time _ | exact get_Ran _ | exact get_Fault _ | exact el_T0 _ _ (by omega) | exact el_T1 _ _ (by omega) | exact el_C0 _ _ (by omega) | exact el_C1 _ _ (by omega) | exact el_C2 _ _ (by omega) | exact el_D _ _ (by omega) | exact el_R _ _ (by omega) | exact dc_get _ _ (by omega) | exact rc_get _ _ (by omega) | exact at0a | exact at1a | exact at2a | exact at3a) ?_); (try simp only [Act.put, List.setIfInBounds_toArray, List.set_cons_zero, List.set_cons_succ]))
      | ((with_reducible refine gate_dst (N := 38) rfl ?_); (with_reducible refine field_at rfl rfl rfl fo27_0 ?_); (try simp only [toNat_16, toNat_12, Int.toNat_natCast, Nat.zero_add, Nat.add_zero, Nat.mul_one]); (try simp only [Act.put, List.setIfInBounds_toArray, List.set_cons_zero, List.set_cons_succ]))
      | ((with_reducible refine gate_dst (N := 39) rfl ?_); (with_reducible refine load_one HS.out rfl rfl on3 rfl (by first | exact at0 | exact at1 | exact at2 | exact at3 | exact at4 | exact at5 | exact at6) (by with_reducible first | exact get_X _ | exact get_Y _ | exact get_M _ | exact get_S _ | exact get_E _ | exact get_Time _ | exact get_Ran _ | exact get_Fault _ | exact el_T0 _ _ (by omega) | exact el_T1 _ _ (by omega) | exact el_C0 _ _ (by omega) | exact el_C1 _ _ (by omega) | exact el_C2 _ _ (by omega) | exact el_D _ _ (by omega) | exact el_R _ _ (by omega) | exact dc_get _ _ (by omega) | exact rc_get _ _ (by omega) | exact at0a | exact at1a | exact at2a | exact at3a) ?_); (try simp only [Act.put, List.setIfInBounds_toArray, List.set_cons_zero, List.set_cons_succ]))
      | ((with_reducible refine gate_dst (N := 60) rfl ?_); (with_reducible refine field_at rfl rfl rfl fo27_0 ?_); (try simp only [toNat_16, toNat_12, Int.toNat_natCast, Nat.zero_add, Nat.add_zero, Nat.mul_one]); (try simp only [Act.put, List.setIfInBounds_toArray, List.set_cons_zero, List.set_cons_succ]))
      | ((with_reducible refine gate_dst (N := 61) rfl ?_); (with_reducible refine load_one HS.out rfl rfl on3 rfl (by first | exact at0 | exact at1 | exact at2 | exact at3 | exact at4 | exact at5 | exact at6) (by with_reducible first | exact get_X _ | exact get_Y _ | exact get_M _ | exact get_S _ | exact get_E _ | exact get_Time _ | exact get_Ran _ | exact get_Fault _ | exact el_T0 _ _ (by omega) | exact el_T1 _ _ (by omega) | exact el_C0 _ _ (by omega) | exact el_C1 _ _ (by omega) | exact el_C2 _ _ (by omega) | exact el_D _ _ (by omega) | exact el_R _ _ (by omega) | exact dc_get _ _ (by omega) | exact rc_get _ _ (by omega) | exact at0a | exact at1a | exact at2a | exact at3a) ?_); (try simp only [Act.put, List.setIfInBounds_toArray, List.set_cons_zero, List.set_cons_succ]))
      | ((with_reducible refine gate_dst (N := 63) rfl ?_); (with_reducible refine field_at rfl rfl rfl fo24_0 ?_); (try simp only [toNat_16, toNat_12, Int.toNat_natCast, Nat.zero_add, Nat.add_zero, Nat.mul_one]); (try simp only [Act.put, List.setIfInBounds_toArray, List.set_cons_zero, List.set_cons_succ]))
      | ((with_reducible refine gate_dst (N := 64) rfl ?_); (with_reducible refine load_one HS.out rfl rfl on3 rfl (by first | exact at0 | exact at1 | exact at2 | exact at3 | exact at4 | exact at5 | exact at6) (by with_reducible first | exact get_X _ | exact get_Y _ | exact get_M _ | exact get_S _ | exact get_E _ | exact get_Time _ | exact get_Ran _ | exact get_Fault _ | exact el_T0 _ _ (by omega) | exact el_T1 _ _ (by omega) | exact el_C0 _ _ (by omega) | exact el_C1 _ _ (by omega) | exact el_C2 _ _ (by omega) | exact el_D _ _ (by omega) | exact el_R _ _ (by omega) | exact dc_get _ _ (by omega) | exact rc_get _ _ (by omega) | exact at0a | exact at1a | exact at2a | exact at3a) ?_); (try simp only [Act.put, List.setIfInBounds_toArray, List.set_cons_zero, List.set_cons_succ]))))
  refine start_R (LS := _) (n := 14) #[false, false, false, false, false, false, false, false, false, false, false, false, false, false] HS.out (by kernel_rfl) rfl rfl (fun W_ HSS => HSS.one at3) ?_
  intro W_ HP hHeld; clear HS; have HS := Aside0.mk HP; clear HP
  refine PrintLast.pure_ (i := 0) (oi := { dst := some 66, op := Go.Op.move (Go.Operand.tmp 11), type := 3, pos := "l6_act.go:164", after := #[], guard := none }) (N := some 66) (v := ?_) (a' := ?_) #[true, false, false, false, false, false, false, false, false, false, false, false, false, false] rfl rfl (by kernel_rfl) (fun _ _ _ h => h) (Or.inl ⟨by rfl, ?_⟩) ?_ ?_
  rotate_left
  · intro w'
    go_simp
    with_reducible rfl
  rotate_left
  · simp only [PrintLast.putAll, Act.put, List.setIfInBounds_toArray, List.set_cons_zero, List.set_cons_succ, Nat.zero_add, Nat.add_zero, Nat.mul_one, Int.toNat_natCast]
    rfl
  refine PrintLast.pure_ (i := 1) (oi := { dst := some 67, op := Go.Op.move (Go.Operand.tmp 11), type := 3, pos := "l6_act.go:164", after := #[], guard := none }) (N := some 67) (v := ?_) (a' := ?_) #[true, true, false, false, false, false, false, false, false, false, false, false, false, false] rfl rfl (by kernel_rfl) (fun _ _ _ h => h) (Or.inl ⟨by rfl, ?_⟩) ?_ ?_
  rotate_left
  · intro w'
    go_simp
    with_reducible rfl
  rotate_left
  · simp only [PrintLast.putAll, Act.put, List.setIfInBounds_toArray, List.set_cons_zero, List.set_cons_succ, Nat.zero_add, Nat.add_zero, Nat.mul_one, Int.toNat_natCast]
    rfl
  refine PrintLast.pure_ (i := 2) (oi := { dst := some 68, op := Go.Op.fieldAddr 42 (Go.Operand.tmp 4) 5, type := 0, pos := "l6_act.go:164", after := #[], guard := none }) (N := some 68) (v := ?_) (a' := ?_) #[true, true, true, false, false, false, false, false, false, false, false, false, false, false] rfl rfl (by kernel_rfl) (fun _ _ _ h => h) (Or.inl ⟨by rfl, ?_⟩) ?_ ?_
  rotate_left
  · intro w'
    refine Eq.trans (run_field_at rfl rfl rfl fo42_5) ?_
    with_reducible rfl
  rotate_left
  · simp only [PrintLast.putAll, Act.put, List.setIfInBounds_toArray, List.set_cons_zero, List.set_cons_succ, Nat.zero_add, Nat.add_zero, Nat.mul_one, Int.toNat_natCast]
    rfl
  refine PrintLast.pure_ (i := 3) (oi := { dst := some 69, op := Go.Op.indexAddr 33 (Go.Operand.tmp 68) (Go.Operand.tmp 67), type := 0, pos := "l6_act.go:164", after := #[{ on := 2, ground := Go.Ground.data }, { on := 1, ground := Go.Ground.data }], guard := none }) (N := some 69) (v := ?_) (a' := ?_) #[true, true, true, true, false, false, false, false, false, false, false, false, false, false] rfl rfl (by kernel_rfl) (fun _ _ _ h => h) (Or.inl ⟨by rfl, ?_⟩) ?_ ?_
  rotate_left
  · intro w'
    refine Eq.trans (run_index_at rfl rfl rfl rfl ar33 (by omega) (by omega)) ?_
    with_reducible rfl
  rotate_left
  · simp only [PrintLast.putAll, Act.put, List.setIfInBounds_toArray, List.set_cons_zero, List.set_cons_succ, Nat.zero_add, Nat.add_zero, Nat.mul_one, Int.toNat_natCast]
    rfl
  refine PrintLast.pure_ (i := 5) (oi := { dst := some 71, op := Go.Op.fieldAddr 27 (Go.Operand.tmp 5) 0, type := 0, pos := "l6_act.go:164", after := #[], guard := none }) (N := some 71) (v := ?_) (a' := ?_) #[true, true, true, true, false, true, false, false, false, false, false, false, false, false] rfl rfl (by kernel_rfl) (fun _ _ _ h => h) (Or.inl ⟨by rfl, ?_⟩) ?_ ?_
  rotate_left
  · intro w'
    refine Eq.trans (run_field_at rfl rfl rfl fo27_0) ?_
    with_reducible rfl
  rotate_left
  · simp only [PrintLast.putAll, Act.put, List.setIfInBounds_toArray, List.set_cons_zero, List.set_cons_succ, Nat.zero_add, Nat.add_zero, Nat.mul_one, Int.toNat_natCast]
    rfl
  refine PrintLast.take_ (i := 6) (oi := { dst := some 72, op := Go.Op.load 3 (Go.Operand.tmp 71), type := 3, pos := "l6_act.go:164", after := #[{ on := 5, ground := Go.Ground.data }], guard := none }) (N := some 72) (v := ?_) (a' := ?_) #[true, true, true, true, false, true, true, false, false, false, false, false, false, false] rfl rfl (by kernel_rfl) (fun _ _ _ h => h) (Or.inl ⟨by rfl, ?_⟩) hHeld ?_ ?_
  rotate_left
  · intro w' hS
    refine Eq.trans (run_load_one hS rfl rfl on3 rfl (by first | exact at0 | exact at1 | exact at2 | exact at3 | exact at4 | exact at5 | exact at6) (by with_reducible first | exact get_X _ | exact get_Y _ | exact get_M _ | exact get_S _ | exact get_E _ | exact get_Time _ | exact get_Ran _ | exact get_Fault _ | exact el_T0 _ _ (by omega) | exact el_T1 _ _ (by omega) | exact el_C0 _ _ (by omega) | exact el_C1 _ _ (by omega) | exact el_C2 _ _ (by omega) | exact el_D _ _ (by omega) | exact el_R _ _ (by omega) | exact dc_get _ _ (by omega) | exact rc_get _ _ (by omega) | exact at0a | exact at1a | exact at2a | exact at3a)) ?_
    with_reducible rfl
  rotate_left
  · simp only [PrintLast.putAll, Act.put, List.setIfInBounds_toArray, List.set_cons_zero, List.set_cons_succ, Nat.zero_add, Nat.add_zero, Nat.mul_one, Int.toNat_natCast]
    rfl
  refine PrintLast.pure_ (i := 7) (oi := { dst := some 73, op := Go.Op.move (Go.Operand.tmp 2), type := 4, pos := "l6_act.go:164", after := #[], guard := none }) (N := some 73) (v := ?_) (a' := ?_) #[true, true, true, true, false, true, true, true, false, false, false, false, false, false] rfl rfl (by kernel_rfl) (fun _ _ _ h => h) (Or.inl ⟨by rfl, ?_⟩) ?_ ?_
  rotate_left
  · intro w'
    go_simp
    with_reducible rfl
  rotate_left
  · simp only [PrintLast.putAll, Act.put, List.setIfInBounds_toArray, List.set_cons_zero, List.set_cons_succ, Nat.zero_add, Nat.add_zero, Nat.mul_one, Int.toNat_natCast]
    rfl
  refine PrintLast.pure_ (i := 8) (oi := { dst := some 74, op := Go.Op.move (Go.Operand.tmp 12), type := 3, pos := "l6_act.go:164", after := #[], guard := none }) (N := some 74) (v := ?_) (a' := ?_) #[true, true, true, true, false, true, true, true, true, false, false, false, false, false] rfl rfl (by kernel_rfl) (fun _ _ _ h => h) (Or.inl ⟨by rfl, ?_⟩) ?_ ?_
  rotate_left
  · intro w'
    go_simp
    with_reducible rfl
  rotate_left
  · simp only [PrintLast.putAll, Act.put, List.setIfInBounds_toArray, List.set_cons_zero, List.set_cons_succ, Nat.zero_add, Nat.add_zero, Nat.mul_one, Int.toNat_natCast]
    rfl
  refine PrintLast.pure_ (i := 9) (oi := { dst := some 75, op := Go.Op.move (Go.Operand.tmp 3), type := 30, pos := "l6_act.go:164", after := #[], guard := none }) (N := some 75) (v := ?_) (a' := ?_) #[true, true, true, true, false, true, true, true, true, true, false, false, false, false] rfl rfl (by kernel_rfl) (fun _ _ _ h => h) (Or.inl ⟨by rfl, ?_⟩) ?_ ?_
  rotate_left
  · intro w'
    go_simp
    with_reducible rfl
  rotate_left
  · simp only [PrintLast.putAll, Act.put, List.setIfInBounds_toArray, List.set_cons_zero, List.set_cons_succ, Nat.zero_add, Nat.add_zero, Nat.mul_one, Int.toNat_natCast]
    rfl
  refine PrintLast.pure_ (i := 11) (oi := { dst := some 77, op := Go.Op.fieldAddr 42 (Go.Operand.tmp 4) 5, type := 0, pos := "l6_act.go:164", after := #[], guard := none }) (N := some 77) (v := ?_) (a' := ?_) #[true, true, true, true, false, true, true, true, true, true, false, true, false, false] rfl rfl (by kernel_rfl) (fun _ _ _ h => h) (Or.inl ⟨by rfl, ?_⟩) ?_ ?_
  rotate_left
  · intro w'
    refine Eq.trans (run_field_at rfl rfl rfl fo42_5) ?_
    with_reducible rfl
  rotate_left
  · simp only [PrintLast.putAll, Act.put, List.setIfInBounds_toArray, List.set_cons_zero, List.set_cons_succ, Nat.zero_add, Nat.add_zero, Nat.mul_one, Int.toNat_natCast]
    rfl
  refine PrintLast.one_ (i := 4) (oi := { dst := some 70, op := Go.Op.load 32 (Go.Operand.tmp 69), type := 32, pos := "l6_act.go:164", after := #[{ on := 3, ground := Go.Ground.data }], guard := none }) (N := some 70) #[true, true, true, true, true, true, true, true, true, true, false, true, false, false] rfl rfl (by kernel_rfl) (by decide) ?_
  intro K hK
  refine step_val (wanted_of rfl) rfl (run_load_seg HS.out rfl rfl ag32 rfl (by first | exact at0 | exact at1 | exact at2 | exact at3 | exact at4 | exact at5 | exact at6) (by with_reducible first | exact get_T _ | exact get_C _ | exact get_D _ | exact get_R _ | exact el_T _ _ (by omega) | exact el_C _ _ (by omega) | exact tc_el _ _ (by omega) | exact cc_el _ _ (by omega) | exact whole _) (by with_reducible first | exact mc_size _ | exact tc_size _ | exact cc_size _ | exact dc_size _ | exact rc_size _ | exact sz1 | exact sz2 | exact sz3 | exact sz4)) ?_
  refine hK.out _ _ (HS.out.one at3) (fun hHeld => ?_)
  clear hK K
  refine PrintLast.norm_ (a' := ?_) ?_ ?_
  rotate_left
  · show Act.put _ (some 70) _ = _
    simp only [PrintLast.putAll, Act.put, List.setIfInBounds_toArray, List.set_cons_zero, List.set_cons_succ, Nat.zero_add, Nat.add_zero, Nat.mul_one, Int.toNat_natCast]
    rfl
  refine PrintLast.one_ (i := 10) (oi := { dst := some 76, op := Go.Op.call { callee := Go.Callee.value (Go.Operand.func 45), args := #[Go.Operand.tmp 70, Go.Operand.tmp 72, Go.Operand.tmp 73, Go.Operand.tmp 74, Go.Operand.tmp 75], argTypes := #[32, 3, 4, 3, 30] }, type := 32, pos := "l6_act.go:164", after := #[{ on := 4, ground := Go.Ground.data }, { on := 6, ground := Go.Ground.data }, { on := 7, ground := Go.Ground.data }, { on := 8, ground := Go.Ground.data }, { on := 9, ground := Go.Ground.data }], guard := none }) (N := some 76) #[true, true, true, true, true, true, true, true, true, true, true, true, false, false] rfl rfl (by kernel_rfl) (by decide) ?_
  intro K hK
  refine step_callr (wanted_of rfl) HS.out rfl rfl Tryd.func45 (by kernel_rfl) rfl (by (try simp only [List.map_toArray, List.map_cons, List.map_nil]); first | done | rfl) (hct' _) ?_
  intro W_ HP; clear hHeld; clear HS; have HS := Aside0.mk HP; clear HP
  refine hK.out _ _ (HS.out.one at3) (fun hHeld => ?_)
  clear hK K
  refine PrintLast.norm_ (a' := ?_) ?_ ?_
  rotate_left
  · show Act.put _ (some 76) _ = _
    simp only [PrintLast.putAll, Act.put, List.setIfInBounds_toArray, List.set_cons_zero, List.set_cons_succ, Nat.zero_add, Nat.add_zero, Nat.mul_one, Int.toNat_natCast]
    rfl
  refine PrintLast.pure_ (i := 12) (oi := { dst := some 78, op := Go.Op.indexAddr 33 (Go.Operand.tmp 77) (Go.Operand.tmp 66), type := 0, pos := "l6_act.go:164", after := #[{ on := 11, ground := Go.Ground.data }, { on := 0, ground := Go.Ground.data }, { on := 0, ground := Go.Ground.phase }, { on := 1, ground := Go.Ground.phase }, { on := 2, ground := Go.Ground.phase }, { on := 3, ground := Go.Ground.phase }, { on := 4, ground := Go.Ground.phase }, { on := 5, ground := Go.Ground.phase }, { on := 6, ground := Go.Ground.phase }, { on := 7, ground := Go.Ground.phase }, { on := 8, ground := Go.Ground.phase }, { on := 9, ground := Go.Ground.phase }, { on := 10, ground := Go.Ground.phase }], guard := none }) (N := some 78) (v := ?_) (a' := ?_) #[true, true, true, true, true, true, true, true, true, true, true, true, true, false] rfl rfl (by kernel_rfl) (fun _ _ _ h => h) (Or.inl ⟨by rfl, ?_⟩) ?_ ?_
  rotate_left
  · intro w'
    refine Eq.trans (run_index_at rfl rfl rfl rfl ar33 (by omega) (by omega)) ?_
    with_reducible rfl
  rotate_left
  · simp only [PrintLast.putAll, Act.put, List.setIfInBounds_toArray, List.set_cons_zero, List.set_cons_succ, Nat.zero_add, Nat.add_zero, Nat.mul_one, Int.toNat_natCast]
    rfl
  refine PrintLast.one_ (i := 13) (oi := { dst := none, op := Go.Op.store 32 (Go.Operand.tmp 78) (Go.Operand.tmp 76), type := 0, pos := "l6_act.go:164", after := #[{ on := 12, ground := Go.Ground.data }, { on := 10, ground := Go.Ground.data }, { on := 10, ground := Go.Ground.chain }, { on := 0, ground := Go.Ground.phase }, { on := 1, ground := Go.Ground.phase }, { on := 2, ground := Go.Ground.phase }, { on := 3, ground := Go.Ground.phase }, { on := 4, ground := Go.Ground.phase }, { on := 5, ground := Go.Ground.phase }, { on := 6, ground := Go.Ground.phase }, { on := 7, ground := Go.Ground.phase }, { on := 8, ground := Go.Ground.phase }, { on := 9, ground := Go.Ground.phase }, { on := 10, ground := Go.Ground.phase }], guard := none }) (N := none) #[true, true, true, true, true, true, true, true, true, true, true, true, true, true] rfl rfl (by kernel_rfl) (by decide) ?_
  intro K hK
  refine step_store_seg (wanted_of rfl) HS.out rfl rfl ag32 rfl (by first | exact eval_tmp rfl | exact eval_const) (by first | exact at0 | exact at1 | exact at2 | exact at3 | exact at4 | exact at5 | exact at6) (by with_reducible first | exact set_X _ _ | exact set_Y _ _ | exact set_M _ _ | exact set_S _ _ | exact set_E _ _ | exact set_Time _ _ | exact set_Ran _ _ | exact set_Fault _ _ | exact set_T _ _ | exact set_C _ _ | exact set_D _ _ | exact set_R _ _ | exact put_T _ _ (by omega) _ _ | exact put_C _ _ (by omega) _ _ _ | exact put_D _ _ (by omega) _ | exact put_R _ _ (by omega) _ | exact tc_put _ _ (by omega) _ _ | exact cc_put _ _ (by omega) _ _ _ | exact dc_put _ _ (by omega) _ | exact rc_put _ _ (by omega) _ | exact lay_mc _ _ | exact lay_tc _ _ | exact lay_cc _ _ | exact lay_dc _ _ | exact lay_rc _ _ | exact lay2_0 | exact lay2_1 | exact lay3_0 | exact lay3_1 | exact lay3_2 | exact lay2_w | exact lay3_w) (by with_reducible first | exact mc_size _ | exact tc_size _ | exact cc_size _ | exact dc_size _ | exact rc_size _ | exact sz1 | exact sz2 | exact sz3 | exact sz4) (by simp only [mc_size, tc_size, cc_size, dc_size, rc_size, List.size_toArray, List.length_cons, List.length_nil]; omega) (by first | (with_reducible first | exact mc_one _ | exact tc_one _ | exact cc_one _ | exact dc_one _ | exact rc_one _ | exact t2_one _ _ | exact t3_one _ _ _) | (simp [Value.oneCell']; done)) ?_
  intro W_ HP; clear hHeld; clear HS; have HS := Aside0.mk HP; clear HP; (try simp only [List.set_cons_zero, List.set_cons_succ] at HS)
  refine hK.out _ _ (HS.out.one at3) (fun hHeld => ?_)
  clear hK K
  refine PrintLast.done_ (by kernel_rfl) ?_
  clear hHeld
  go_wp2_with (first
      | ((with_reducible refine gate_store (t := 42) (p := 8) rfl ?_); (with_reducible refine store_seg HS.out rfl rfl rfl ag42 rfl (by first | exact eval_tmp rfl | exact eval_const) (by first | exact at0 | exact at1 | exact at2 | exact at3 | exact at4 | exact at5 | exact at6) (by with_reducible first | exact set_X _ _ | exact set_Y _ _ | exact set_M _ _ | exact set_S _ _ | exact set_E _ _ | exact set_Time _ _ | exact set_Ran _ _ | exact set_Fault _ _ | exact set_T _ _ | exact set_C _ _ | exact set_D _ _ | exact set_R _ _ | exact put_T _ _ (by omega) _ _ | exact put_C _ _ (by omega) _ _ _ | exact put_D _ _ (by omega) _ | exact put_R _ _ (by omega) _ | exact tc_put _ _ (by omega) _ _ | exact cc_put _ _ (by omega) _ _ _ | exact dc_put _ _ (by omega) _ | exact rc_put _ _ (by omega) _ | exact lay_mc _ _ | exact lay_tc _ _ | exact lay_cc _ _ | exact lay_dc _ _ | exact lay_rc _ _ | exact lay2_0 | exact lay2_1 | exact lay3_0 | exact lay3_1 | exact lay3_2 | exact lay2_w | exact lay3_w) (by with_reducible first | exact mc_size _ | exact tc_size _ | exact cc_size _ | exact dc_size _ | exact rc_size _ | exact sz1 | exact sz2 | exact sz3 | exact sz4) (by simp only [mc_size, tc_size, cc_size, dc_size, rc_size, List.size_toArray, List.length_cons, List.length_nil]; omega) (by first | (with_reducible first | exact mc_one _ | exact tc_one _ | exact cc_one _ | exact dc_one _ | exact rc_one _ | exact t2_one _ _ | exact t3_one _ _ _) | (simp [Value.oneCell']; done)) ?_); intro W_ HP; clear HS; have HS := Aside0.mk HP; clear HP; (try simp only [List.set_cons_zero, List.set_cons_succ] at HS))
      | ((with_reducible refine gate_store (t := 42) (p := 8) rfl ?_); (with_reducible refine store_seg HS.out rfl rfl rfl ag42 rfl (by first | exact eval_tmp rfl | exact eval_const) (by first | exact at0 | exact at1 | exact at2 | exact at3 | exact at4 | exact at5 | exact at6) (by with_reducible first | exact set_X _ _ | exact set_Y _ _ | exact set_M _ _ | exact set_S _ _ | exact set_E _ _ | exact set_Time _ _ | exact set_Ran _ _ | exact set_Fault _ _ | exact set_T _ _ | exact set_C _ _ | exact set_D _ _ | exact set_R _ _ | exact put_T _ _ (by omega) _ _ | exact put_C _ _ (by omega) _ _ _ | exact put_D _ _ (by omega) _ | exact put_R _ _ (by omega) _ | exact tc_put _ _ (by omega) _ _ | exact cc_put _ _ (by omega) _ _ _ | exact dc_put _ _ (by omega) _ | exact rc_put _ _ (by omega) _ | exact lay_mc _ _ | exact lay_tc _ _ | exact lay_cc _ _ | exact lay_dc _ _ | exact lay_rc _ _ | exact lay2_0 | exact lay2_1 | exact lay3_0 | exact lay3_1 | exact lay3_2 | exact lay2_w | exact lay3_w) (by with_reducible first | exact mc_size _ | exact tc_size _ | exact cc_size _ | exact dc_size _ | exact rc_size _ | exact sz1 | exact sz2 | exact sz3 | exact sz4) (by simp only [mc_size, tc_size, cc_size, dc_size, rc_size, List.size_toArray, List.length_cons, List.length_nil]; omega) (by first | (with_reducible first | exact mc_one _ | exact tc_one _ | exact cc_one _ | exact dc_one _ | exact rc_one _ | exact t2_one _ _ | exact t3_one _ _ _) | (simp [Value.oneCell']; done)) ?_); intro W_ HP; clear HS; have HS := Aside0.mk HP; clear HP; (try simp only [List.set_cons_zero, List.set_cons_succ] at HS))
      | ((with_reducible refine gate_store (t := 42) (p := 8) rfl ?_); (with_reducible refine store_seg HS.out rfl rfl rfl ag42 rfl (by first | exact eval_tmp rfl | exact eval_const) (by first | exact at0 | exact at1 | exact at2 | exact at3 | exact at4 | exact at5 | exact at6) (by with_reducible first | exact set_X _ _ | exact set_Y _ _ | exact set_M _ _ | exact set_S _ _ | exact set_E _ _ | exact set_Time _ _ | exact set_Ran _ _ | exact set_Fault _ _ | exact set_T _ _ | exact set_C _ _ | exact set_D _ _ | exact set_R _ _ | exact put_T _ _ (by omega) _ _ | exact put_C _ _ (by omega) _ _ _ | exact put_D _ _ (by omega) _ | exact put_R _ _ (by omega) _ | exact tc_put _ _ (by omega) _ _ | exact cc_put _ _ (by omega) _ _ _ | exact dc_put _ _ (by omega) _ | exact rc_put _ _ (by omega) _ | exact lay_mc _ _ | exact lay_tc _ _ | exact lay_cc _ _ | exact lay_dc _ _ | exact lay_rc _ _ | exact lay2_0 | exact lay2_1 | exact lay3_0 | exact lay3_1 | exact lay3_2 | exact lay2_w | exact lay3_w) (by with_reducible first | exact mc_size _ | exact tc_size _ | exact cc_size _ | exact dc_size _ | exact rc_size _ | exact sz1 | exact sz2 | exact sz3 | exact sz4) (by simp only [mc_size, tc_size, cc_size, dc_size, rc_size, List.size_toArray, List.length_cons, List.length_nil]; omega) (by first | (with_reducible first | exact mc_one _ | exact tc_one _ | exact cc_one _ | exact dc_one _ | exact rc_one _ | exact t2_one _ _ | exact t3_one _ _ _) | (simp [Value.oneCell']; done)) ?_); intro W_ HP; clear HS; have HS := Aside0.mk HP; clear HP; (try simp only [List.set_cons_zero, List.set_cons_succ] at HS))
      | ((with_reducible refine gate_dst (N := 120) rfl ?_); (with_reducible refine load_seg HS.out rfl rfl ag42 rfl (by first | exact at0 | exact at1 | exact at2 | exact at3 | exact at4 | exact at5 | exact at6) (by with_reducible first | exact get_T _ | exact get_C _ | exact get_D _ | exact get_R _ | exact el_T _ _ (by omega) | exact el_C _ _ (by omega) | exact tc_el _ _ (by omega) | exact cc_el _ _ (by omega) | exact whole _) (by with_reducible first | exact mc_size _ | exact tc_size _ | exact cc_size _ | exact dc_size _ | exact rc_size _ | exact sz1 | exact sz2 | exact sz3 | exact sz4) ?_); (try simp only [Act.put, List.setIfInBounds_toArray, List.set_cons_zero, List.set_cons_succ]))
      | ((with_reducible refine gate_store (t := 42) (p := 8) rfl ?_); (with_reducible refine store_seg HS.out rfl rfl rfl ag42 rfl (by first | exact eval_tmp rfl | exact eval_const) (by first | exact at0 | exact at1 | exact at2 | exact at3 | exact at4 | exact at5 | exact at6) (by with_reducible first | exact set_X _ _ | exact set_Y _ _ | exact set_M _ _ | exact set_S _ _ | exact set_E _ _ | exact set_Time _ _ | exact set_Ran _ _ | exact set_Fault _ _ | exact set_T _ _ | exact set_C _ _ | exact set_D _ _ | exact set_R _ _ | exact put_T _ _ (by omega) _ _ | exact put_C _ _ (by omega) _ _ _ | exact put_D _ _ (by omega) _ | exact put_R _ _ (by omega) _ | exact tc_put _ _ (by omega) _ _ | exact cc_put _ _ (by omega) _ _ _ | exact dc_put _ _ (by omega) _ | exact rc_put _ _ (by omega) _ | exact lay_mc _ _ | exact lay_tc _ _ | exact lay_cc _ _ | exact lay_dc _ _ | exact lay_rc _ _ | exact lay2_0 | exact lay2_1 | exact lay3_0 | exact lay3_1 | exact lay3_2 | exact lay2_w | exact lay3_w) (by with_reducible first | exact mc_size _ | exact tc_size _ | exact cc_size _ | exact dc_size _ | exact rc_size _ | exact sz1 | exact sz2 | exact sz3 | exact sz4) (by simp only [mc_size, tc_size, cc_size, dc_size, rc_size, List.size_toArray, List.length_cons, List.length_nil]; omega) (by first | (with_reducible first | exact mc_one _ | exact tc_one _ | exact cc_one _ | exact dc_one _ | exact rc_one _ | exact t2_one _ _ | exact t3_one _ _ _) | (simp [Value.oneCell']; done)) ?_); intro W_ HP; clear HS; have HS := Aside0.mk HP; clear HP; (try simp only [List.set_cons_zero, List.set_cons_succ] at HS)))
  refine ret_agg HS.out (by rfl) (by rfl) (by rfl) (by first | exact at0 | exact at1 | exact at2 | exact at3 | exact at4 | exact at5 | exact at6) ag42 (by with_reducible first | exact mc_size _ | exact tc_size _ | exact cc_size _ | exact dc_size _ | exact rc_size _ | exact sz1 | exact sz2 | exact sz3 | exact sz4) ?_
  exact ⟨_, rfl, rfl, HS.out.below⟩

end Go.Proofs.YtbceekfgopaokaaDoor.K
