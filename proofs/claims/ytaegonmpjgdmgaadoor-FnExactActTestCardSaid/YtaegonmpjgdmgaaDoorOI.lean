/- Walks over the ladders' memory: what the functions of this seat answer. -/
import Derived.Test.YtaegonmpjgdmgaaDoorProg
import Derived.Test.YtaegonmpjgdmgaaDoorMW
import Derived.WalkKit
import Derived.Deep.LoopGhost
import Derived.Deep.DeepCutAuto
import Derived.BigFrame
import Derived.Deep.QuietTactic
import Derived.BigQuiet
import Derived.Test.YtaegonmpjgdmgaaDoorOI0
import Derived.Test.YtaegonmpjgdmgaaDoorKC
import Derived.Test.YtaegonmpjgdmgaaDoorKA
namespace Go.Proofs.YtaegonmpjgdmgaaDoor.K
open Go Go.RowKit Go.Proofs.YtaegonmpjgdmgaaDoorW Go.Proofs.YtaegonmpjgdmgaaDoorW.PrintWords Go.Proofs.YtaegonmpjgdmgaaDoor.MW
set_option linter.unusedVariables false
set_option linter.unusedSimpArgs false
set_option maxRecDepth 100000
theorem ag36 : aggSize Tryd.prog 36 = some 136 := by kernel_rfl
theorem ag39 : aggSize Tryd.prog 39 = some 2 := by kernel_rfl
theorem ze52 : zeroOf Tryd.prog 52 = some (#[.int .i64 0, .slice none 0 0]) := by kernel_rfl
open BActT
theorem c_toElemL (op : Int) (A : Option Addr) (c : Nat) (xs : List F.S96) (hl : xs.length ≤ 1048576) (l : List Dev) (hl_ : (xs.map cD).map dv = l) (W : World) (hC : Kd.C F.k96 W A xs.length xs) (hc : xs.length ≤ c) : Calls Tryd.prog 8 #[.agg #[.int .i64 op, .slice A xs.length c]] W (fun e W' => ∃ v, e = .returned v ∧ ElemAt op l v W' ∧ Below W.heap.size W W') := by
 subst hl_
 exact c_toElem op A c xs hl W hC hc

set_option maxHeartbeats 4000000 in
set_option maxRecDepth 100000 in
theorem law_FnExactActTest (m : Mm) (wf : m.wf) (op : Int) (A0 : Option Addr) (c0 : Nat) (xs : List F.S96) (w : World) (ht : TB.Tab w) (hr : Kd.C F.k96 w A0 xs.length xs) (hc : xs.length ≤ c0) (hlm : xs.length ≤ maxLen) : Calls Tryd.prog 3 #[.agg (mc m), .agg #[.int .i64 op, .slice A0 xs.length c0]] w (Ret w (· = .bool true)) := by
 obtain ⟨r, hr1, hr2⟩ := szElem_tells op xs 1048576 (by decide) (by decide) hlm
 have HS := Aside0.mk (Priv.nil w)
 have HC := Aside0.mk hr
 have HT := Aside0.mk ht
 clear hr ht
 by_cases hneg : r < 0
 ·have hd : decide (r < 0) = true := decide_eq_true hneg
  clear hr2
  go_enter Tryd.func3, Tryd.ntmps3
  go_wp2_with ((first | ((with_reducible refine gate_dst (N := 13) rfl ?_); refine call_ev2 HS.out rfl rfl Tryd.func5 (by kernel_rfl) rfl (by (try simp only [List.map_toArray, List.map_cons, List.map_nil]); first | done | rfl) (c_szElem op A0 c0 xs _ (Kd.C_below HC.out HS.out.below) hc _ hr1) ?_; rintro v_ W_ rfl HP HB_; clear HS; have HS := Aside0.mk HP; clear HP; clear HB_) | ((with_reducible refine gate_dst (N := 2) rfl ?_); (with_reducible refine box_new HS.out rfl rfl (by first | exact eval_tmp rfl | exact eval_const) ?_); intro g2 W2_ HP; clear HS; have HS := Aside0.mk HP; clear HP) | ((with_reducible refine gate_dst (N := 3) rfl ?_); (with_reducible refine box_new HS.out rfl rfl (by first | exact eval_tmp rfl | exact eval_const) ?_); intro g3 W3_ HP; clear HS; have HS := Aside0.mk HP; clear HP) | ((with_reducible refine gate_dst (N := 11) rfl ?_); (with_reducible refine load_seg HS.out rfl rfl ag39 rfl (by first | exact at0 | exact at1 | exact at2 | exact at3 | exact at4 | exact at5 | exact at6) (by with_reducible first | exact tc_el _ _ (by omega) | exact cc_el _ _ (by omega) | exact whole _) (by with_reducible first | exact mc_size _ | exact tc_size _ | exact cc_size _ | exact dc_size _ | exact rc_size _ | exact sz1 | exact sz2 | exact sz3 | exact sz4) ?_))); (try simp only [Act.put, List.setIfInBounds_toArray, List.set_cons_zero, List.set_cons_succ]))
  go_ret
  exact ⟨_, rfl, rfl, HS.out.below⟩
 ·have hd : decide (r < 0) = false := decide_eq_false hneg
  have hx : xs.length ≤ 1048576 := by have := (hr2 (by omega)).1; omega
  obtain ⟨l, hl_⟩ : ∃ l, (xs.map cD).map dv = l := ⟨_, rfl⟩
  have hll : l.length ≤ 1048576 := by rw [← hl_, List.length_map, List.length_map]; exact hx
  obtain ⟨d0, hd0⟩ : ∃ d, l.getD 0 (0, 0, 0) = d := ⟨_, rfl⟩
  obtain ⟨d1, hd1⟩ : ∃ d, l.getD 1 (0, 0, 0) = d := ⟨_, rfl⟩
  clear hr2 hneg
  go_enter Tryd.func3, Tryd.ntmps3
  go_wp2_with ((first | ((with_reducible refine gate_dst (N := 13) rfl ?_); refine call_ev2 HS.out rfl rfl Tryd.func5 (by kernel_rfl) rfl (by (try simp only [List.map_toArray, List.map_cons, List.map_nil]); first | done | rfl) (c_szElem op A0 c0 xs _ (Kd.C_below HC.out HS.out.below) hc _ hr1) ?_; rintro v_ W_ rfl HP HB_; clear HS; have HS := Aside0.mk HP; clear HP; clear HB_) | ((with_reducible refine gate_dst (N := 2) rfl ?_); (with_reducible refine box_new HS.out rfl rfl (by first | exact eval_tmp rfl | exact eval_const) ?_); intro g2 W2_ HP; clear HS; have HS := Aside0.mk HP; clear HP) | ((with_reducible refine gate_dst (N := 3) rfl ?_); (with_reducible refine box_new HS.out rfl rfl (by first | exact eval_tmp rfl | exact eval_const) ?_); intro g3 W3_ HP; clear HS; have HS := Aside0.mk HP; clear HP) | ((with_reducible refine gate_dst (N := 11) rfl ?_); (with_reducible refine load_seg HS.out rfl rfl ag39 rfl (by first | exact at0 | exact at1 | exact at2 | exact at3 | exact at4 | exact at5 | exact at6) (by with_reducible first | exact tc_el _ _ (by omega) | exact cc_el _ _ (by omega) | exact whole _) (by with_reducible first | exact mc_size _ | exact tc_size _ | exact cc_size _ | exact dc_size _ | exact rc_size _ | exact sz1 | exact sz2 | exact sz3 | exact sz4) ?_))); (try simp only [Act.put, List.setIfInBounds_toArray, List.set_cons_zero, List.set_cons_succ]))
  refine start_R (LS := _) (n := 11) #[false, false, false, false, false, false, false, false, false, false, false] HS.out (by kernel_rfl) rfl rfl (fun W_ HSS => HSS) ?_
  intro W_ HP hHeld; clear HS; have HS := Aside0.mk HP; clear HP
  refine PrintLast.take_ (i := 0) (oi := { dst := some 17, op := Go.Op.load 36 (Go.Operand.tmp 2), type := 36, pos := "exact.go:5574", after := #[], guard := none }) (N := some 17) (v := ?_) (a' := ?_) #[true, false, false, false, false, false, false, false, false, false, false] rfl rfl (by kernel_rfl) (fun _ _ _ h => h) (Or.inl ⟨by rfl, ?_⟩) hHeld ?_ ?_
  rotate_left
  ·intro w' hS
   refine Eq.trans (run_load_seg hS rfl rfl ag36 rfl (by first | exact at0 | exact at1 | exact at2 | exact at3 | exact at4 | exact at5 | exact at6) (by with_reducible first | exact get_T _ | exact get_C _ | exact get_D _ | exact get_R _ | exact el_T _ _ (by omega) | exact el_C _ _ (by omega) | exact tc_el _ _ (by omega) | exact cc_el _ _ (by omega) | exact whole _) (by with_reducible first | exact mc_size _ | exact tc_size _ | exact cc_size _ | exact dc_size _ | exact rc_size _ | exact sz1 | exact sz2 | exact sz3 | exact sz4)) ?_
   with_reducible rfl
  rotate_left
  ·simp only [PrintLast.putAll, Act.put, List.setIfInBounds_toArray, List.set_cons_zero, List.set_cons_succ, Nat.zero_add, Nat.add_zero, Nat.mul_one, Int.toNat_natCast]
   rfl
  refine PrintLast.take_ (i := 2) (oi := { dst := some 19, op := Go.Op.load 39 (Go.Operand.tmp 3), type := 39, pos := "exact.go:5574", after := #[], guard := none }) (N := some 19) (v := ?_) (a' := ?_) #[true, false, true, false, false, false, false, false, false, false, false] rfl rfl (by kernel_rfl) (fun _ _ _ h => h) (Or.inl ⟨by rfl, ?_⟩) hHeld ?_ ?_
  rotate_left
  ·intro w' hS
   refine Eq.trans (run_load_seg hS rfl rfl ag39 rfl (by first | exact at0 | exact at1 | exact at2 | exact at3 | exact at4 | exact at5 | exact at6) (by with_reducible first | exact get_T _ | exact get_C _ | exact get_D _ | exact get_R _ | exact el_T _ _ (by omega) | exact el_C _ _ (by omega) | exact tc_el _ _ (by omega) | exact cc_el _ _ (by omega) | exact whole _) (by with_reducible first | exact mc_size _ | exact tc_size _ | exact cc_size _ | exact dc_size _ | exact rc_size _ | exact sz1 | exact sz2 | exact sz3 | exact sz4)) ?_
   with_reducible rfl
  rotate_left
  ·simp only [PrintLast.putAll, Act.put, List.setIfInBounds_toArray, List.set_cons_zero, List.set_cons_succ, Nat.zero_add, Nat.add_zero, Nat.mul_one, Int.toNat_natCast]
   rfl
  clear hHeld
  refine PrintLast.join_ (σ := Nat × Value × Bool) 2 #[true, true, true, true, true, true, true, true, true, false, false] (fun s => [(18, .agg (mc m)), (20, .agg #[.int .i64 op, s.2.1]), (21, .tuple #[.agg (mc (tm m op d0 d1)), .bool s.2.2]), (16, .tuple #[.agg (mc (tm m op d0 d1)), .bool s.2.2]), (22, .agg (mc (tm m op d0 d1))), (23, .bool s.2.2), (6, .pointer (some ⟨s.1, 0, none⟩))]) (fun s w' => Priv w w' ((s.1, mc zm) :: [(g3, #[.int .i64 op, .slice A0 xs.length c0]), (g2, mc m)]) ∧ Tb m op d0 d1 s.2.2) ?_ ?_
  rotate_left
  ·intro H31
   refine PrintLast.join_ (σ := Nat × Value × Bool) 3 #[true, true, true, true, true, true, true, true, false, false, false] (fun s => [(18, .agg (mc m)), (20, .agg #[.int .i64 op, s.2.1]), (21, .tuple #[.agg (mc (tm m op d0 d1)), .bool s.2.2]), (16, .tuple #[.agg (mc (tm m op d0 d1)), .bool s.2.2]), (22, .agg (mc (tm m op d0 d1))), (23, .bool s.2.2)]) (fun s w' => Priv w w' ([(g3, #[.int .i64 op, .slice A0 xs.length c0]), (g2, mc m)]) ∧ Tb m op d0 d1 s.2.2) ?_ ?_
   ·intro s w' HF
    refine PrintLast.norm_ (a' := ?_) ?_ ?_
    rotate_left
    ·simp only [PrintLast.putAll, Act.put, List.setIfInBounds_toArray, List.set_cons_zero, List.set_cons_succ, Nat.zero_add, Nat.add_zero, Nat.mul_one, Int.toNat_natCast]
     rfl
    refine PrintLast.one_ (i := 8) (oi := { dst := some 6, op := Go.Op.alloc 46, type := 0, pos := "exact.go:5574", after := #[], guard := none }) (N := some 6) #[true, true, true, true, true, true, true, true, true, false, false] rfl rfl (by kernel_rfl) (by decide) (fun K hK => ?_)
    ·refine step_allocB (wanted_of rfl) HF.1 rfl rfl ze46 ?_
     intro g_ W_ HP HB_
     refine hK.out _ _ HP.drop1 (fun _ => ?_)
     refine PrintLast.norm_ ?_ (H31 (g_, s.2.1, s.2.2) _ ⟨HP, HF.2⟩)
     simp only [PrintLast.putAll, Act.put, List.setIfInBounds_toArray, List.set_cons_zero, List.set_cons_succ, Nat.zero_add, Nat.add_zero, Nat.mul_one, Int.toNat_natCast]
   intro H30
   refine PrintLast.join_ (σ := Nat × Value × Bool) 6 #[true, true, true, true, false, false, false, false, true, false, false] (fun s => [(18, .agg (mc m)), (20, .agg #[.int .i64 op, s.2.1]), (6, .pointer (some ⟨s.1, 0, none⟩))]) (fun s w' => Priv w w' ((s.1, mc zm) :: [(g3, #[.int .i64 op, .slice A0 xs.length c0]), (g2, mc m)]) ∧ ArgsAt w' s.2.1 l) ?_ ?_
   ·intro s w' HF
    refine PrintLast.norm_ (a' := ?_) ?_ ?_
    rotate_left
    ·simp only [PrintLast.putAll, Act.put, List.setIfInBounds_toArray, List.set_cons_zero, List.set_cons_succ, Nat.zero_add, Nat.add_zero, Nat.mul_one, Int.toNat_natCast]
     rfl
    refine PrintLast.one_ (i := 4) (oi := { dst := some 21, op := Go.Op.call { callee := Go.Callee.value (Go.Operand.func 6), args := #[Go.Operand.tmp 18, Go.Operand.tmp 20], argTypes := #[46, 52] }, type := 47, pos := "exact.go:5574", after := #[{ on := 1, ground := Go.Ground.data }, { on := 3, ground := Go.Ground.data }, { on := 3, ground := Go.Ground.chain }], guard := none }) (N := some 21) #[true, true, true, true, true, false, false, false, true, false, false] rfl rfl (by kernel_rfl) (by decide) (fun K hK => ?_)
    ·refine step_callx (wanted_of rfl) HF.1 rfl rfl Tryd.func6 (by kernel_rfl) rfl (by (try simp only [List.map_toArray, List.map_cons, List.map_nil]); first | done | rfl) (c_sActTest m wf s.2.1 l d0 d1 hd0 hd1 op _ HF.2) ?_
     rintro v_ W_ ⟨b, rfl, hT⟩ HP
     refine hK.out _ _ HP.drop1 (fun _ => ?_)
     refine PrintLast.norm_ (a' := ?_) ?_ ?_
     rotate_left
     ·show Act.put _ (some 21) _ = _
      simp only [PrintLast.putAll, Act.put, List.setIfInBounds_toArray, List.set_cons_zero, List.set_cons_succ, Nat.zero_add, Nat.add_zero, Nat.mul_one, Int.toNat_natCast]
      rfl
     refine PrintLast.pure_ (i := 5) (oi := { dst := some 16, op := Go.Op.move (Go.Operand.tmp 21), type := 47, pos := "exact.go:5574", after := #[{ on := 4, ground := Go.Ground.data }], guard := none }) (N := some 16) (v := ?_) (a' := ?_) #[true, true, true, true, true, true, false, false, true, false, false] rfl rfl (by kernel_rfl) (fun _ _ _ h => h) (Or.inl ⟨by rfl, ?_⟩) ?_ ?_
     rotate_left
     ·intro w'
      go_simp
      with_reducible rfl
     rotate_left
     ·simp only [PrintLast.putAll, Act.put, List.setIfInBounds_toArray, List.set_cons_zero, List.set_cons_succ, Nat.zero_add, Nat.add_zero, Nat.mul_one, Int.toNat_natCast]
      rfl
     refine PrintLast.pure_ (i := 6) (oi := { dst := some 22, op := Go.Op.extract (Go.Operand.tmp 16) 0, type := 46, pos := "exact.go:5574", after := #[{ on := 5, ground := Go.Ground.data }], guard := none }) (N := some 22) (v := ?_) (a' := ?_) #[true, true, true, true, true, true, true, false, true, false, false] rfl rfl (by kernel_rfl) (fun _ _ _ h => h) (Or.inl ⟨by rfl, ?_⟩) ?_ ?_
     rotate_left
     ·intro w'
      go_simp
      with_reducible rfl
     rotate_left
     ·simp only [PrintLast.putAll, Act.put, List.setIfInBounds_toArray, List.set_cons_zero, List.set_cons_succ, Nat.zero_add, Nat.add_zero, Nat.mul_one, Int.toNat_natCast]
      rfl
     refine PrintLast.pure_ (i := 7) (oi := { dst := some 23, op := Go.Op.extract (Go.Operand.tmp 16) 1, type := 4, pos := "exact.go:5574", after := #[{ on := 5, ground := Go.Ground.data }, { on := 9, ground := Go.Ground.gcOnly Go.Departure.lateStores }], guard := none }) (N := some 23) (v := ?_) (a' := ?_) #[true, true, true, true, true, true, true, true, true, false, false] rfl rfl (by kernel_rfl) (fun _ _ _ h => h) (Or.inl ⟨by rfl, ?_⟩) ?_ ?_
     rotate_left
     ·intro w'
      go_simp
      with_reducible rfl
     rotate_left
     ·simp only [PrintLast.putAll, Act.put, List.setIfInBounds_toArray, List.set_cons_zero, List.set_cons_succ, Nat.zero_add, Nat.add_zero, Nat.mul_one, Int.toNat_natCast]
      rfl
     refine PrintLast.norm_ ?_ (H31 (s.1, s.2.1, b) _ ⟨HP, hT⟩)
     simp only [PrintLast.putAll, Act.put, List.setIfInBounds_toArray, List.set_cons_zero, List.set_cons_succ, Nat.zero_add, Nat.add_zero, Nat.mul_one, Int.toNat_natCast]
   intro H21
   refine PrintLast.join_ (σ := Nat × Value × Bool) 7 #[true, true, true, true, false, false, false, false, false, false, false] (fun s => [(18, .agg (mc m)), (20, .agg #[.int .i64 op, s.2.1])]) (fun s w' => Priv w w' ([(g3, #[.int .i64 op, .slice A0 xs.length c0]), (g2, mc m)]) ∧ ArgsAt w' s.2.1 l) ?_ ?_
   ·intro s w' HF
    refine PrintLast.norm_ (a' := ?_) ?_ ?_
    rotate_left
    ·simp only [PrintLast.putAll, Act.put, List.setIfInBounds_toArray, List.set_cons_zero, List.set_cons_succ, Nat.zero_add, Nat.add_zero, Nat.mul_one, Int.toNat_natCast]
     rfl
    refine PrintLast.two_ (i := 4) (j := 8) (oi := { dst := some 21, op := Go.Op.call { callee := Go.Callee.value (Go.Operand.func 6), args := #[Go.Operand.tmp 18, Go.Operand.tmp 20], argTypes := #[46, 52] }, type := 47, pos := "exact.go:5574", after := #[{ on := 1, ground := Go.Ground.data }, { on := 3, ground := Go.Ground.data }, { on := 3, ground := Go.Ground.chain }], guard := none }) (oj := { dst := some 6, op := Go.Op.alloc 46, type := 0, pos := "exact.go:5574", after := #[], guard := none }) (Ni := some 21) (Nj := some 6) #[true, true, true, true, true, false, false, false, false, false, false] #[true, true, true, true, false, false, false, false, true, false, false] rfl rfl rfl rfl (by kernel_rfl) (by decide) (by decide) (fun K hK => ?_) (fun K hK => ?_)
    ·refine step_callx (wanted_of rfl) HF.1 rfl rfl Tryd.func6 (by kernel_rfl) rfl (by (try simp only [List.map_toArray, List.map_cons, List.map_nil]); first | done | rfl) (c_sActTest m wf s.2.1 l d0 d1 hd0 hd1 op _ HF.2) ?_
     rintro v_ W_ ⟨b, rfl, hT⟩ HP
     refine hK.out _ _ HP (fun _ => ?_)
     refine PrintLast.norm_ (a' := ?_) ?_ ?_
     rotate_left
     ·show Act.put _ (some 21) _ = _
      simp only [PrintLast.putAll, Act.put, List.setIfInBounds_toArray, List.set_cons_zero, List.set_cons_succ, Nat.zero_add, Nat.add_zero, Nat.mul_one, Int.toNat_natCast]
      rfl
     refine PrintLast.pure_ (i := 5) (oi := { dst := some 16, op := Go.Op.move (Go.Operand.tmp 21), type := 47, pos := "exact.go:5574", after := #[{ on := 4, ground := Go.Ground.data }], guard := none }) (N := some 16) (v := ?_) (a' := ?_) #[true, true, true, true, true, true, false, false, false, false, false] rfl rfl (by kernel_rfl) (fun _ _ _ h => h) (Or.inl ⟨by rfl, ?_⟩) ?_ ?_
     rotate_left
     ·intro w'
      go_simp
      with_reducible rfl
     rotate_left
     ·simp only [PrintLast.putAll, Act.put, List.setIfInBounds_toArray, List.set_cons_zero, List.set_cons_succ, Nat.zero_add, Nat.add_zero, Nat.mul_one, Int.toNat_natCast]
      rfl
     refine PrintLast.pure_ (i := 6) (oi := { dst := some 22, op := Go.Op.extract (Go.Operand.tmp 16) 0, type := 46, pos := "exact.go:5574", after := #[{ on := 5, ground := Go.Ground.data }], guard := none }) (N := some 22) (v := ?_) (a' := ?_) #[true, true, true, true, true, true, true, false, false, false, false] rfl rfl (by kernel_rfl) (fun _ _ _ h => h) (Or.inl ⟨by rfl, ?_⟩) ?_ ?_
     rotate_left
     ·intro w'
      go_simp
      with_reducible rfl
     rotate_left
     ·simp only [PrintLast.putAll, Act.put, List.setIfInBounds_toArray, List.set_cons_zero, List.set_cons_succ, Nat.zero_add, Nat.add_zero, Nat.mul_one, Int.toNat_natCast]
      rfl
     refine PrintLast.pure_ (i := 7) (oi := { dst := some 23, op := Go.Op.extract (Go.Operand.tmp 16) 1, type := 4, pos := "exact.go:5574", after := #[{ on := 5, ground := Go.Ground.data }, { on := 9, ground := Go.Ground.gcOnly Go.Departure.lateStores }], guard := none }) (N := some 23) (v := ?_) (a' := ?_) #[true, true, true, true, true, true, true, true, false, false, false] rfl rfl (by kernel_rfl) (fun _ _ _ h => h) (Or.inl ⟨by rfl, ?_⟩) ?_ ?_
     rotate_left
     ·intro w'
      go_simp
      with_reducible rfl
     rotate_left
     ·simp only [PrintLast.putAll, Act.put, List.setIfInBounds_toArray, List.set_cons_zero, List.set_cons_succ, Nat.zero_add, Nat.add_zero, Nat.mul_one, Int.toNat_natCast]
      rfl
     refine PrintLast.norm_ ?_ (H30 (s.1, s.2.1, b) _ ⟨HP, hT⟩)
     simp only [PrintLast.putAll, Act.put, List.setIfInBounds_toArray, List.set_cons_zero, List.set_cons_succ, Nat.zero_add, Nat.add_zero, Nat.mul_one, Int.toNat_natCast]
    ·refine step_allocB (wanted_of rfl) HF.1 rfl rfl ze46 ?_
     intro g_ W_ HP HB_
     refine hK.out _ _ HP.drop1 (fun _ => ?_)
     refine PrintLast.norm_ ?_ (H21 (g_, s.2.1, s.2.2) _ ⟨HP, HF.2.below HB_⟩)
     simp only [PrintLast.putAll, Act.put, List.setIfInBounds_toArray, List.set_cons_zero, List.set_cons_succ, Nat.zero_add, Nat.add_zero, Nat.mul_one, Int.toNat_natCast]
   intro H20
   refine PrintLast.join_ (σ := Nat × Value × Bool) 7 #[true, true, true, false, false, false, false, false, true, false, false] (fun s => [(18, .agg (mc m)), (6, .pointer (some ⟨s.1, 0, none⟩))]) (fun s w' => Priv w w' ((s.1, mc zm) :: [(g3, #[.int .i64 op, .slice A0 xs.length c0]), (g2, mc m)]) ∧ True) ?_ ?_
   ·intro s w' HF
    refine PrintLast.norm_ (a' := ?_) ?_ ?_
    rotate_left
    ·simp only [PrintLast.putAll, Act.put, List.setIfInBounds_toArray, List.set_cons_zero, List.set_cons_succ, Nat.zero_add, Nat.add_zero, Nat.mul_one, Int.toNat_natCast]
     rfl
    refine PrintLast.one_ (i := 3) (oi := { dst := some 20, op := Go.Op.call { callee := Go.Callee.value (Go.Operand.func 8), args := #[Go.Operand.tmp 19], argTypes := #[39] }, type := 52, pos := "exact.go:5574", after := #[{ on := 2, ground := Go.Ground.data }, { on := 1, ground := Go.Ground.chain }], guard := none }) (N := some 20) #[true, true, true, true, false, false, false, false, true, false, false] rfl rfl (by kernel_rfl) (by decide) (fun K hK => ?_)
    ·refine step_own (wanted_of rfl) HF.1 rfl rfl Tryd.func8 (by kernel_rfl) rfl (by (try simp only [List.map_toArray, List.map_cons, List.map_nil]); first | done | rfl) (c_toElemL op A0 c0 xs hx l hl_ _ (Kd.C_below HC.out HF.1.below) hc) ?_
     rintro v_ W_ ⟨v0, rfl, hA⟩ HP HB_
     refine hK.out _ _ HP.drop1 (fun _ => ?_)
     refine PrintLast.norm_ ?_ (H21 (s.1, v0, s.2.2) _ ⟨HP, hA⟩)
     simp only [PrintLast.putAll, Act.put, List.setIfInBounds_toArray, List.set_cons_zero, List.set_cons_succ, Nat.zero_add, Nat.add_zero, Nat.mul_one, Int.toNat_natCast]
   intro H11
   refine PrintLast.join_ (σ := Nat × Value × Bool) 8 #[true, true, true, false, false, false, false, false, false, false, false] (fun s => [(18, .agg (mc m))]) (fun s w' => Priv w w' ([(g3, #[.int .i64 op, .slice A0 xs.length c0]), (g2, mc m)]) ∧ True) ?_ ?_
   ·intro s w' HF
    refine PrintLast.norm_ (a' := ?_) ?_ ?_
    rotate_left
    ·simp only [PrintLast.putAll, Act.put, List.setIfInBounds_toArray, List.set_cons_zero, List.set_cons_succ, Nat.zero_add, Nat.add_zero, Nat.mul_one, Int.toNat_natCast]
     rfl
    refine PrintLast.two_ (i := 3) (j := 8) (oi := { dst := some 20, op := Go.Op.call { callee := Go.Callee.value (Go.Operand.func 8), args := #[Go.Operand.tmp 19], argTypes := #[39] }, type := 52, pos := "exact.go:5574", after := #[{ on := 2, ground := Go.Ground.data }, { on := 1, ground := Go.Ground.chain }], guard := none }) (oj := { dst := some 6, op := Go.Op.alloc 46, type := 0, pos := "exact.go:5574", after := #[], guard := none }) (Ni := some 20) (Nj := some 6) #[true, true, true, true, false, false, false, false, false, false, false] #[true, true, true, false, false, false, false, false, true, false, false] rfl rfl rfl rfl (by kernel_rfl) (by decide) (by decide) (fun K hK => ?_) (fun K hK => ?_)
    ·refine step_own (wanted_of rfl) HF.1 rfl rfl Tryd.func8 (by kernel_rfl) rfl (by (try simp only [List.map_toArray, List.map_cons, List.map_nil]); first | done | rfl) (c_toElemL op A0 c0 xs hx l hl_ _ (Kd.C_below HC.out HF.1.below) hc) ?_
     rintro v_ W_ ⟨v0, rfl, hA⟩ HP HB_
     refine hK.out _ _ HP (fun _ => ?_)
     refine PrintLast.norm_ ?_ (H20 (s.1, v0, s.2.2) _ ⟨HP, hA⟩)
     simp only [PrintLast.putAll, Act.put, List.setIfInBounds_toArray, List.set_cons_zero, List.set_cons_succ, Nat.zero_add, Nat.add_zero, Nat.mul_one, Int.toNat_natCast]
    ·refine step_allocB (wanted_of rfl) HF.1 rfl rfl ze46 ?_
     intro g_ W_ HP HB_
     refine hK.out _ _ HP.drop1 (fun _ => ?_)
     refine PrintLast.norm_ ?_ (H11 (g_, s.2.1, s.2.2) _ ⟨HP, trivial⟩)
     simp only [PrintLast.putAll, Act.put, List.setIfInBounds_toArray, List.set_cons_zero, List.set_cons_succ, Nat.zero_add, Nat.add_zero, Nat.mul_one, Int.toNat_natCast]
   intro H10
   refine PrintLast.join_ (σ := Nat × Value × Bool) 8 #[true, false, true, false, false, false, false, false, true, false, false] (fun s => [(6, .pointer (some ⟨s.1, 0, none⟩))]) (fun s w' => Priv w w' ((s.1, mc zm) :: [(g3, #[.int .i64 op, .slice A0 xs.length c0]), (g2, mc m)]) ∧ True) ?_ ?_
   ·intro s w' HF
    refine PrintLast.norm_ (a' := ?_) ?_ ?_
    rotate_left
    ·simp only [PrintLast.putAll, Act.put, List.setIfInBounds_toArray, List.set_cons_zero, List.set_cons_succ, Nat.zero_add, Nat.add_zero, Nat.mul_one, Int.toNat_natCast]
     rfl
    refine PrintLast.one_ (i := 1) (oi := { dst := some 18, op := Go.Op.call { callee := Go.Callee.value (Go.Operand.func 7), args := #[Go.Operand.tmp 17], argTypes := #[36] }, type := 46, pos := "exact.go:5574", after := #[{ on := 0, ground := Go.Ground.data }], guard := none }) (N := some 18) #[true, true, true, false, false, false, false, false, true, false, false] rfl rfl (by kernel_rfl) (by decide) (fun K hK => ?_)
    ·refine step_callr (wanted_of rfl) HF.1 rfl rfl Tryd.func7 (by kernel_rfl) rfl (by (try simp only [List.map_toArray, List.map_cons, List.map_nil]); first | done | rfl) (c_toMem m _) ?_
     intro W_ HP
     refine hK.out _ _ HP.drop1 (fun _ => ?_)
     refine PrintLast.norm_ ?_ (H11 s _ ⟨HP, trivial⟩)
     simp only [PrintLast.putAll, Act.put, List.setIfInBounds_toArray, List.set_cons_zero, List.set_cons_succ, Nat.zero_add, Nat.add_zero, Nat.mul_one, Int.toNat_natCast]
   intro H01
   refine PrintLast.join_ (σ := Nat × Value × Bool) 9 #[true, false, true, false, false, false, false, false, false, false, false] (fun s => []) (fun s w' => Priv w w' ([(g3, #[.int .i64 op, .slice A0 xs.length c0]), (g2, mc m)]) ∧ True) ?_ ?_
   ·intro s w' HF
    refine PrintLast.norm_ (a' := ?_) ?_ ?_
    rotate_left
    ·simp only [PrintLast.putAll, Act.put, List.setIfInBounds_toArray, List.set_cons_zero, List.set_cons_succ, Nat.zero_add, Nat.add_zero, Nat.mul_one, Int.toNat_natCast]
     rfl
    refine PrintLast.two_ (i := 1) (j := 8) (oi := { dst := some 18, op := Go.Op.call { callee := Go.Callee.value (Go.Operand.func 7), args := #[Go.Operand.tmp 17], argTypes := #[36] }, type := 46, pos := "exact.go:5574", after := #[{ on := 0, ground := Go.Ground.data }], guard := none }) (oj := { dst := some 6, op := Go.Op.alloc 46, type := 0, pos := "exact.go:5574", after := #[], guard := none }) (Ni := some 18) (Nj := some 6) #[true, true, true, false, false, false, false, false, false, false, false] #[true, false, true, false, false, false, false, false, true, false, false] rfl rfl rfl rfl (by kernel_rfl) (by decide) (by decide) (fun K hK => ?_) (fun K hK => ?_)
    ·refine step_callr (wanted_of rfl) HF.1 rfl rfl Tryd.func7 (by kernel_rfl) rfl (by (try simp only [List.map_toArray, List.map_cons, List.map_nil]); first | done | rfl) (c_toMem m _) ?_
     intro W_ HP
     refine hK.out _ _ HP (fun _ => ?_)
     refine PrintLast.norm_ ?_ (H10 s _ ⟨HP, trivial⟩)
     simp only [PrintLast.putAll, Act.put, List.setIfInBounds_toArray, List.set_cons_zero, List.set_cons_succ, Nat.zero_add, Nat.add_zero, Nat.mul_one, Int.toNat_natCast]
    ·refine step_allocB (wanted_of rfl) HF.1 rfl rfl ze46 ?_
     intro g_ W_ HP HB_
     refine hK.out _ _ HP.drop1 (fun _ => ?_)
     refine PrintLast.norm_ ?_ (H01 (g_, s.2.1, s.2.2) _ ⟨HP, trivial⟩)
     simp only [PrintLast.putAll, Act.put, List.setIfInBounds_toArray, List.set_cons_zero, List.set_cons_succ, Nat.zero_add, Nat.add_zero, Nat.mul_one, Int.toNat_natCast]
   intro H00
   exact H00 (0, .bool false, false) _ ⟨HS.out, trivial⟩
  intro s w' HP; clear HS; have HS := Aside0.mk HP.1; obtain ⟨g6, u6, b1⟩ := s; have hT1 := HP.2; clear HP
  refine PrintLast.norm_ (a' := ?_) ?_ ?_
  rotate_left
  ·simp only [PrintLast.putAll, Act.put, List.setIfInBounds_toArray, List.set_cons_zero, List.set_cons_succ, Nat.zero_add, Nat.add_zero, Nat.mul_one, Int.toNat_natCast]
   rfl
  refine one_store (i := 9) (oi := { dst := none, op := Go.Op.store 46 (Go.Operand.tmp 6) (Go.Operand.tmp 22), type := 0, pos := "exact.go:5574", after := #[{ on := 8, ground := Go.Ground.data }, { on := 6, ground := Go.Ground.data }, { on := 4, ground := Go.Ground.chain }, { on := 0, ground := Go.Ground.phase }, { on := 1, ground := Go.Ground.phase }, { on := 2, ground := Go.Ground.phase }, { on := 3, ground := Go.Ground.phase }, { on := 4, ground := Go.Ground.phase }, { on := 5, ground := Go.Ground.phase }, { on := 6, ground := Go.Ground.phase }, { on := 7, ground := Go.Ground.textOnly Go.Departure.lateStores }, { on := 8, ground := Go.Ground.phase }], guard := none }) #[true, true, true, true, true, true, true, true, true, true, false] rfl rfl (by kernel_rfl) (by decide) (wanted_of rfl) HS.out rfl ag46 rfl (by first | exact eval_tmp rfl | exact eval_const) at0 (lay_mc _ _) (mc_size _) (by simp only [mc_size, tc_size, cc_size, dc_size, rc_size, List.size_toArray, List.length_cons, List.length_nil]; omega) (mc_one _) (fun W_ HSS => by simp only [List.set_cons_zero, List.set_cons_succ] at HSS; exact HSS.drop1) ?_
  intro W_ HP hHeld; clear HS; have HS := Aside0.mk HP; clear HP; (try simp only [List.set_cons_zero, List.set_cons_succ] at HS)
  refine PrintLast.pure_ (i := 10) (oi := { dst := some 7, op := Go.Op.assign (Go.Operand.tmp 23), type := 4, pos := "exact.go:5574", after := #[{ on := 7, ground := Go.Ground.data }, { on := 9, ground := Go.Ground.chain }, { on := 0, ground := Go.Ground.phase }, { on := 1, ground := Go.Ground.phase }, { on := 2, ground := Go.Ground.phase }, { on := 3, ground := Go.Ground.phase }, { on := 4, ground := Go.Ground.phase }, { on := 5, ground := Go.Ground.phase }, { on := 6, ground := Go.Ground.phase }, { on := 7, ground := Go.Ground.phase }, { on := 8, ground := Go.Ground.phase }, { on := 9, ground := Go.Ground.phase }], guard := none }) (N := some 7) (v := ?_) (a' := ?_) #[true, true, true, true, true, true, true, true, true, true, true] rfl rfl (by kernel_rfl) (fun _ _ _ h => h) (Or.inl ⟨by rfl, ?_⟩) ?_ ?_
  rotate_left
  ·intro w'
   go_simp
   with_reducible rfl
  rotate_left
  ·simp only [PrintLast.putAll, Act.put, List.setIfInBounds_toArray, List.set_cons_zero, List.set_cons_succ, Nat.zero_add, Nat.add_zero, Nat.mul_one, Int.toNat_natCast]
   rfl
  refine PrintLast.done_ (by kernel_rfl) ?_
  clear hHeld
  go_wp2_with ((first | ((with_reducible refine gate_dst (N := 25) rfl ?_); refine ev_own HS.out rfl rfl Tryd.func8 (by kernel_rfl) rfl (by (try simp only [List.map_toArray, List.map_cons, List.map_nil]); first | done | rfl) (c_toElemL op A0 c0 xs hx l hl_ _ (Kd.C_below HC.out HS.out.below) hc) ?_; rintro v_ Wb ⟨v1, rfl, hA⟩ HP; have HR := Aside0.mk hA; have hv1 := args_one hA; clear hA; clear HS; have H3 := Aside0.mk HP; clear HP; have HS := Aside0.mk (Priv.nil Wb)) | ((with_reducible refine gate_dst (N := 24) rfl ?_); (with_reducible refine load_seg HS.out rfl rfl ag39 rfl (by first | exact at0 | exact at1 | exact at2 | exact at3 | exact at4 | exact at5 | exact at6) (by with_reducible first | exact tc_el _ _ (by omega) | exact cc_el _ _ (by omega) | exact whole _) (by with_reducible first | exact mc_size _ | exact tc_size _ | exact cc_size _ | exact dc_size _ | exact rc_size _ | exact sz1 | exact sz2 | exact sz3 | exact sz4) ?_)) | ((with_reducible refine gate_dst (N := 8) rfl ?_); (with_reducible refine alloc_new HS.out rfl rfl ze52 ?_); intro g8 W8_ HP; clear HS; have HS := Aside0.mk HP; clear HP) | ((with_reducible refine gate_store (t := 52) (p := 8) rfl ?_); (with_reducible refine store_seg HS.out rfl rfl rfl ag52 rfl (by first | exact eval_tmp rfl | exact eval_const) (by first | exact at0 | exact at1 | exact at2 | exact at3 | exact at4 | exact at5 | exact at6) (by with_reducible first | exact tc_put _ _ (by omega) _ _ | exact cc_put _ _ (by omega) _ _ _ | exact dc_put _ _ (by omega) _ | exact rc_put _ _ (by omega) _ | exact lay_mc _ _ | exact lay_tc _ _ | exact lay_cc _ _ | exact lay_dc _ _ | exact lay_rc _ _ | exact lay2_0 | exact lay2_1 | exact lay3_0 | exact lay3_1 | exact lay3_2 | exact lay2_w | exact lay3_w) (by with_reducible first | exact mc_size _ | exact tc_size _ | exact cc_size _ | exact dc_size _ | exact rc_size _ | exact sz1 | exact sz2 | exact sz3 | exact sz4) (by simp only [mc_size, tc_size, cc_size, dc_size, rc_size, List.size_toArray, List.length_cons, List.length_nil]; omega) (by first | (with_reducible first | exact mc_one _ | exact tc_one _ | exact cc_one _ | exact dc_one _ | exact rc_one _ | exact t2_one _ _ | exact t3_one _ _ _) | (simp [Value.oneCell']; done) | exact one2_ hv1) ?_); intro W_ HP; clear HS; have HS := Aside0.mk HP; clear HP; (try simp only [List.set_cons_zero, List.set_cons_succ] at HS))); (try simp only [Act.put, List.setIfInBounds_toArray, List.set_cons_zero, List.set_cons_succ]))
  refine start_R (LS := _) (n := 10) #[false, false, false, false, false, false, false, false, false, false] HS.out (by kernel_rfl) rfl rfl (fun W_ HSS => HSS) ?_
  intro W_ HP hHeld; clear HS; have HS := Aside0.mk HP; clear HP
  refine PrintLast.take_ (i := 0) (oi := { dst := some 27, op := Go.Op.load 36 (Go.Operand.tmp 2), type := 36, pos := "exact.go:5576", after := #[], guard := none }) (N := some 27) (v := ?_) (a' := ?_) #[true, false, false, false, false, false, false, false, false, false] rfl rfl (by kernel_rfl) (fun _ _ _ h => h) (Or.inl ⟨by rfl, ?_⟩) hHeld ?_ ?_
  rotate_left
  ·intro w' hS
   refine Eq.trans (run_load_seg (H3.out.call hS.below) rfl rfl ag36 rfl (by first | exact at0 | exact at1 | exact at2 | exact at3 | exact at4 | exact at5 | exact at6) (by with_reducible first | exact get_T _ | exact get_C _ | exact get_D _ | exact get_R _ | exact el_T _ _ (by omega) | exact el_C _ _ (by omega) | exact tc_el _ _ (by omega) | exact cc_el _ _ (by omega) | exact whole _) (by with_reducible first | exact mc_size _ | exact tc_size _ | exact cc_size _ | exact dc_size _ | exact rc_size _ | exact sz1 | exact sz2 | exact sz3 | exact sz4)) ?_
   with_reducible rfl
  rotate_left
  ·simp only [PrintLast.putAll, Act.put, List.setIfInBounds_toArray, List.set_cons_zero, List.set_cons_succ, Nat.zero_add, Nat.add_zero, Nat.mul_one, Int.toNat_natCast]
   rfl
  refine PrintLast.take_ (i := 2) (oi := { dst := some 29, op := Go.Op.load 52 (Go.Operand.tmp 8), type := 52, pos := "exact.go:5576", after := #[], guard := none }) (N := some 29) (v := ?_) (a' := ?_) #[true, false, true, false, false, false, false, false, false, false] rfl rfl (by kernel_rfl) (fun _ _ _ h => h) (Or.inl ⟨by rfl, ?_⟩) hHeld ?_ ?_
  rotate_left
  ·intro w' hS
   refine Eq.trans (run_load_seg hS rfl rfl ag52 rfl (by first | exact at0 | exact at1 | exact at2 | exact at3 | exact at4 | exact at5 | exact at6) (by with_reducible first | exact get_T _ | exact get_C _ | exact get_D _ | exact get_R _ | exact el_T _ _ (by omega) | exact el_C _ _ (by omega) | exact tc_el _ _ (by omega) | exact cc_el _ _ (by omega) | exact whole _) (by with_reducible first | exact mc_size _ | exact tc_size _ | exact cc_size _ | exact dc_size _ | exact rc_size _ | exact sz1 | exact sz2 | exact sz3 | exact sz4)) ?_
   with_reducible rfl
  rotate_left
  ·simp only [PrintLast.putAll, Act.put, List.setIfInBounds_toArray, List.set_cons_zero, List.set_cons_succ, Nat.zero_add, Nat.add_zero, Nat.mul_one, Int.toNat_natCast]
   rfl
  clear hHeld
  refine PrintLast.join_ (σ := Nat × Bool) 2 #[true, true, true, true, true, true, true, true, false, false] (fun s => [(28, .agg (mc m)), (30, .tuple #[.agg (mc (tm m op d0 d1)), .bool s.2]), (26, .tuple #[.agg (mc (tm m op d0 d1)), .bool s.2]), (31, .agg (mc (tm m op d0 d1))), (32, .bool s.2), (9, .pointer (some ⟨s.1, 0, none⟩))]) (fun s w' => Priv Wb w' ((s.1, mc zm) :: [(g8, #[.int .i64 op, v1])]) ∧ Tb m op d0 d1 s.2) ?_ ?_
  rotate_left
  ·intro H21
   refine PrintLast.join_ (σ := Nat × Bool) 3 #[true, true, true, true, true, true, true, false, false, false] (fun s => [(28, .agg (mc m)), (30, .tuple #[.agg (mc (tm m op d0 d1)), .bool s.2]), (26, .tuple #[.agg (mc (tm m op d0 d1)), .bool s.2]), (31, .agg (mc (tm m op d0 d1))), (32, .bool s.2)]) (fun s w' => Priv Wb w' ([(g8, #[.int .i64 op, v1])]) ∧ Tb m op d0 d1 s.2) ?_ ?_
   ·intro s w' HF
    refine PrintLast.norm_ (a' := ?_) ?_ ?_
    rotate_left
    ·simp only [PrintLast.putAll, Act.put, List.setIfInBounds_toArray, List.set_cons_zero, List.set_cons_succ, Nat.zero_add, Nat.add_zero, Nat.mul_one, Int.toNat_natCast]
     rfl
    refine PrintLast.one_ (i := 7) (oi := { dst := some 9, op := Go.Op.alloc 46, type := 0, pos := "exact.go:5576", after := #[], guard := none }) (N := some 9) #[true, true, true, true, true, true, true, true, false, false] rfl rfl (by kernel_rfl) (by decide) (fun K hK => ?_)
    ·refine step_allocB (wanted_of rfl) HF.1 rfl rfl ze46 ?_
     intro g_ W_ HP HB_
     refine hK.out _ _ HP.drop1 (fun _ => ?_)
     refine PrintLast.norm_ ?_ (H21 (g_, s.2) _ ⟨HP, HF.2⟩)
     simp only [PrintLast.putAll, Act.put, List.setIfInBounds_toArray, List.set_cons_zero, List.set_cons_succ, Nat.zero_add, Nat.add_zero, Nat.mul_one, Int.toNat_natCast]
   intro H20
   refine PrintLast.join_ (σ := Nat × Bool) 6 #[true, true, true, false, false, false, false, true, false, false] (fun s => [(28, .agg (mc m)), (9, .pointer (some ⟨s.1, 0, none⟩))]) (fun s w' => Priv Wb w' ((s.1, mc zm) :: [(g8, #[.int .i64 op, v1])]) ∧ True) ?_ ?_
   ·intro s w' HF
    refine PrintLast.norm_ (a' := ?_) ?_ ?_
    rotate_left
    ·simp only [PrintLast.putAll, Act.put, List.setIfInBounds_toArray, List.set_cons_zero, List.set_cons_succ, Nat.zero_add, Nat.add_zero, Nat.mul_one, Int.toNat_natCast]
     rfl
    refine PrintLast.one_ (i := 3) (oi := { dst := some 30, op := Go.Op.call { callee := Go.Callee.value (Go.Operand.func 9), args := #[Go.Operand.tmp 28, Go.Operand.tmp 29], argTypes := #[46, 52] }, type := 47, pos := "exact.go:5576", after := #[{ on := 1, ground := Go.Ground.data }, { on := 2, ground := Go.Ground.data }, { on := 1, ground := Go.Ground.chain }], guard := none }) (N := some 30) #[true, true, true, true, false, false, false, true, false, false] rfl rfl (by kernel_rfl) (by decide) (fun K hK => ?_)
    ·refine step_callx (wanted_of rfl) HF.1 rfl rfl Tryd.func9 (by kernel_rfl) rfl (by (try simp only [List.map_toArray, List.map_cons, List.map_nil]); first | done | rfl) (c_ActTest m wf v1 l d0 d1 hd0 hd1 op _ (HR.out.below HF.1.below) (HT.out.below (H3.out.call HF.1.below).below)) ?_
     rintro v_ W_ ⟨b, rfl, hT⟩ HP
     refine hK.out _ _ HP.drop1 (fun _ => ?_)
     refine PrintLast.norm_ (a' := ?_) ?_ ?_
     rotate_left
     ·show Act.put _ (some 30) _ = _
      simp only [PrintLast.putAll, Act.put, List.setIfInBounds_toArray, List.set_cons_zero, List.set_cons_succ, Nat.zero_add, Nat.add_zero, Nat.mul_one, Int.toNat_natCast]
      rfl
     refine PrintLast.pure_ (i := 4) (oi := { dst := some 26, op := Go.Op.move (Go.Operand.tmp 30), type := 47, pos := "exact.go:5576", after := #[{ on := 3, ground := Go.Ground.data }], guard := none }) (N := some 26) (v := ?_) (a' := ?_) #[true, true, true, true, true, false, false, true, false, false] rfl rfl (by kernel_rfl) (fun _ _ _ h => h) (Or.inl ⟨by rfl, ?_⟩) ?_ ?_
     rotate_left
     ·intro w'
      go_simp
      with_reducible rfl
     rotate_left
     ·simp only [PrintLast.putAll, Act.put, List.setIfInBounds_toArray, List.set_cons_zero, List.set_cons_succ, Nat.zero_add, Nat.add_zero, Nat.mul_one, Int.toNat_natCast]
      rfl
     refine PrintLast.pure_ (i := 5) (oi := { dst := some 31, op := Go.Op.extract (Go.Operand.tmp 26) 0, type := 46, pos := "exact.go:5576", after := #[{ on := 4, ground := Go.Ground.data }], guard := none }) (N := some 31) (v := ?_) (a' := ?_) #[true, true, true, true, true, true, false, true, false, false] rfl rfl (by kernel_rfl) (fun _ _ _ h => h) (Or.inl ⟨by rfl, ?_⟩) ?_ ?_
     rotate_left
     ·intro w'
      go_simp
      with_reducible rfl
     rotate_left
     ·simp only [PrintLast.putAll, Act.put, List.setIfInBounds_toArray, List.set_cons_zero, List.set_cons_succ, Nat.zero_add, Nat.add_zero, Nat.mul_one, Int.toNat_natCast]
      rfl
     refine PrintLast.pure_ (i := 6) (oi := { dst := some 32, op := Go.Op.extract (Go.Operand.tmp 26) 1, type := 4, pos := "exact.go:5576", after := #[{ on := 4, ground := Go.Ground.data }, { on := 8, ground := Go.Ground.gcOnly Go.Departure.lateStores }], guard := none }) (N := some 32) (v := ?_) (a' := ?_) #[true, true, true, true, true, true, true, true, false, false] rfl rfl (by kernel_rfl) (fun _ _ _ h => h) (Or.inl ⟨by rfl, ?_⟩) ?_ ?_
     rotate_left
     ·intro w'
      go_simp
      with_reducible rfl
     rotate_left
     ·simp only [PrintLast.putAll, Act.put, List.setIfInBounds_toArray, List.set_cons_zero, List.set_cons_succ, Nat.zero_add, Nat.add_zero, Nat.mul_one, Int.toNat_natCast]
      rfl
     refine PrintLast.norm_ ?_ (H21 (s.1, b) _ ⟨HP, hT⟩)
     simp only [PrintLast.putAll, Act.put, List.setIfInBounds_toArray, List.set_cons_zero, List.set_cons_succ, Nat.zero_add, Nat.add_zero, Nat.mul_one, Int.toNat_natCast]
   intro H11
   refine PrintLast.join_ (σ := Nat × Bool) 7 #[true, true, true, false, false, false, false, false, false, false] (fun s => [(28, .agg (mc m))]) (fun s w' => Priv Wb w' ([(g8, #[.int .i64 op, v1])]) ∧ True) ?_ ?_
   ·intro s w' HF
    refine PrintLast.norm_ (a' := ?_) ?_ ?_
    rotate_left
    ·simp only [PrintLast.putAll, Act.put, List.setIfInBounds_toArray, List.set_cons_zero, List.set_cons_succ, Nat.zero_add, Nat.add_zero, Nat.mul_one, Int.toNat_natCast]
     rfl
    refine PrintLast.two_ (i := 3) (j := 7) (oi := { dst := some 30, op := Go.Op.call { callee := Go.Callee.value (Go.Operand.func 9), args := #[Go.Operand.tmp 28, Go.Operand.tmp 29], argTypes := #[46, 52] }, type := 47, pos := "exact.go:5576", after := #[{ on := 1, ground := Go.Ground.data }, { on := 2, ground := Go.Ground.data }, { on := 1, ground := Go.Ground.chain }], guard := none }) (oj := { dst := some 9, op := Go.Op.alloc 46, type := 0, pos := "exact.go:5576", after := #[], guard := none }) (Ni := some 30) (Nj := some 9) #[true, true, true, true, false, false, false, false, false, false] #[true, true, true, false, false, false, false, true, false, false] rfl rfl rfl rfl (by kernel_rfl) (by decide) (by decide) (fun K hK => ?_) (fun K hK => ?_)
    ·refine step_callx (wanted_of rfl) HF.1 rfl rfl Tryd.func9 (by kernel_rfl) rfl (by (try simp only [List.map_toArray, List.map_cons, List.map_nil]); first | done | rfl) (c_ActTest m wf v1 l d0 d1 hd0 hd1 op _ (HR.out.below HF.1.below) (HT.out.below (H3.out.call HF.1.below).below)) ?_
     rintro v_ W_ ⟨b, rfl, hT⟩ HP
     refine hK.out _ _ HP (fun _ => ?_)
     refine PrintLast.norm_ (a' := ?_) ?_ ?_
     rotate_left
     ·show Act.put _ (some 30) _ = _
      simp only [PrintLast.putAll, Act.put, List.setIfInBounds_toArray, List.set_cons_zero, List.set_cons_succ, Nat.zero_add, Nat.add_zero, Nat.mul_one, Int.toNat_natCast]
      rfl
     refine PrintLast.pure_ (i := 4) (oi := { dst := some 26, op := Go.Op.move (Go.Operand.tmp 30), type := 47, pos := "exact.go:5576", after := #[{ on := 3, ground := Go.Ground.data }], guard := none }) (N := some 26) (v := ?_) (a' := ?_) #[true, true, true, true, true, false, false, false, false, false] rfl rfl (by kernel_rfl) (fun _ _ _ h => h) (Or.inl ⟨by rfl, ?_⟩) ?_ ?_
     rotate_left
     ·intro w'
      go_simp
      with_reducible rfl
     rotate_left
     ·simp only [PrintLast.putAll, Act.put, List.setIfInBounds_toArray, List.set_cons_zero, List.set_cons_succ, Nat.zero_add, Nat.add_zero, Nat.mul_one, Int.toNat_natCast]
      rfl
     refine PrintLast.pure_ (i := 5) (oi := { dst := some 31, op := Go.Op.extract (Go.Operand.tmp 26) 0, type := 46, pos := "exact.go:5576", after := #[{ on := 4, ground := Go.Ground.data }], guard := none }) (N := some 31) (v := ?_) (a' := ?_) #[true, true, true, true, true, true, false, false, false, false] rfl rfl (by kernel_rfl) (fun _ _ _ h => h) (Or.inl ⟨by rfl, ?_⟩) ?_ ?_
     rotate_left
     ·intro w'
      go_simp
      with_reducible rfl
     rotate_left
     ·simp only [PrintLast.putAll, Act.put, List.setIfInBounds_toArray, List.set_cons_zero, List.set_cons_succ, Nat.zero_add, Nat.add_zero, Nat.mul_one, Int.toNat_natCast]
      rfl
     refine PrintLast.pure_ (i := 6) (oi := { dst := some 32, op := Go.Op.extract (Go.Operand.tmp 26) 1, type := 4, pos := "exact.go:5576", after := #[{ on := 4, ground := Go.Ground.data }, { on := 8, ground := Go.Ground.gcOnly Go.Departure.lateStores }], guard := none }) (N := some 32) (v := ?_) (a' := ?_) #[true, true, true, true, true, true, true, false, false, false] rfl rfl (by kernel_rfl) (fun _ _ _ h => h) (Or.inl ⟨by rfl, ?_⟩) ?_ ?_
     rotate_left
     ·intro w'
      go_simp
      with_reducible rfl
     rotate_left
     ·simp only [PrintLast.putAll, Act.put, List.setIfInBounds_toArray, List.set_cons_zero, List.set_cons_succ, Nat.zero_add, Nat.add_zero, Nat.mul_one, Int.toNat_natCast]
      rfl
     refine PrintLast.norm_ ?_ (H20 (s.1, b) _ ⟨HP, hT⟩)
     simp only [PrintLast.putAll, Act.put, List.setIfInBounds_toArray, List.set_cons_zero, List.set_cons_succ, Nat.zero_add, Nat.add_zero, Nat.mul_one, Int.toNat_natCast]
    ·refine step_allocB (wanted_of rfl) HF.1 rfl rfl ze46 ?_
     intro g_ W_ HP HB_
     refine hK.out _ _ HP.drop1 (fun _ => ?_)
     refine PrintLast.norm_ ?_ (H11 (g_, s.2) _ ⟨HP, trivial⟩)
     simp only [PrintLast.putAll, Act.put, List.setIfInBounds_toArray, List.set_cons_zero, List.set_cons_succ, Nat.zero_add, Nat.add_zero, Nat.mul_one, Int.toNat_natCast]
   intro H10
   refine PrintLast.join_ (σ := Nat × Bool) 7 #[true, false, true, false, false, false, false, true, false, false] (fun s => [(9, .pointer (some ⟨s.1, 0, none⟩))]) (fun s w' => Priv Wb w' ((s.1, mc zm) :: [(g8, #[.int .i64 op, v1])]) ∧ True) ?_ ?_
   ·intro s w' HF
    refine PrintLast.norm_ (a' := ?_) ?_ ?_
    rotate_left
    ·simp only [PrintLast.putAll, Act.put, List.setIfInBounds_toArray, List.set_cons_zero, List.set_cons_succ, Nat.zero_add, Nat.add_zero, Nat.mul_one, Int.toNat_natCast]
     rfl
    refine PrintLast.one_ (i := 1) (oi := { dst := some 28, op := Go.Op.call { callee := Go.Callee.value (Go.Operand.func 7), args := #[Go.Operand.tmp 27], argTypes := #[36] }, type := 46, pos := "exact.go:5576", after := #[{ on := 0, ground := Go.Ground.data }], guard := none }) (N := some 28) #[true, true, true, false, false, false, false, true, false, false] rfl rfl (by kernel_rfl) (by decide) (fun K hK => ?_)
    ·refine step_callr (wanted_of rfl) HF.1 rfl rfl Tryd.func7 (by kernel_rfl) rfl (by (try simp only [List.map_toArray, List.map_cons, List.map_nil]); first | done | rfl) (c_toMem m _) ?_
     intro W_ HP
     refine hK.out _ _ HP.drop1 (fun _ => ?_)
     refine PrintLast.norm_ ?_ (H11 s _ ⟨HP, trivial⟩)
     simp only [PrintLast.putAll, Act.put, List.setIfInBounds_toArray, List.set_cons_zero, List.set_cons_succ, Nat.zero_add, Nat.add_zero, Nat.mul_one, Int.toNat_natCast]
   intro H01
   refine PrintLast.join_ (σ := Nat × Bool) 8 #[true, false, true, false, false, false, false, false, false, false] (fun s => []) (fun s w' => Priv Wb w' ([(g8, #[.int .i64 op, v1])]) ∧ True) ?_ ?_
   ·intro s w' HF
    refine PrintLast.norm_ (a' := ?_) ?_ ?_
    rotate_left
    ·simp only [PrintLast.putAll, Act.put, List.setIfInBounds_toArray, List.set_cons_zero, List.set_cons_succ, Nat.zero_add, Nat.add_zero, Nat.mul_one, Int.toNat_natCast]
     rfl
    refine PrintLast.two_ (i := 1) (j := 7) (oi := { dst := some 28, op := Go.Op.call { callee := Go.Callee.value (Go.Operand.func 7), args := #[Go.Operand.tmp 27], argTypes := #[36] }, type := 46, pos := "exact.go:5576", after := #[{ on := 0, ground := Go.Ground.data }], guard := none }) (oj := { dst := some 9, op := Go.Op.alloc 46, type := 0, pos := "exact.go:5576", after := #[], guard := none }) (Ni := some 28) (Nj := some 9) #[true, true, true, false, false, false, false, false, false, false] #[true, false, true, false, false, false, false, true, false, false] rfl rfl rfl rfl (by kernel_rfl) (by decide) (by decide) (fun K hK => ?_) (fun K hK => ?_)
    ·refine step_callr (wanted_of rfl) HF.1 rfl rfl Tryd.func7 (by kernel_rfl) rfl (by (try simp only [List.map_toArray, List.map_cons, List.map_nil]); first | done | rfl) (c_toMem m _) ?_
     intro W_ HP
     refine hK.out _ _ HP (fun _ => ?_)
     refine PrintLast.norm_ ?_ (H10 s _ ⟨HP, trivial⟩)
     simp only [PrintLast.putAll, Act.put, List.setIfInBounds_toArray, List.set_cons_zero, List.set_cons_succ, Nat.zero_add, Nat.add_zero, Nat.mul_one, Int.toNat_natCast]
    ·refine step_allocB (wanted_of rfl) HF.1 rfl rfl ze46 ?_
     intro g_ W_ HP HB_
     refine hK.out _ _ HP.drop1 (fun _ => ?_)
     refine PrintLast.norm_ ?_ (H01 (g_, s.2) _ ⟨HP, trivial⟩)
     simp only [PrintLast.putAll, Act.put, List.setIfInBounds_toArray, List.set_cons_zero, List.set_cons_succ, Nat.zero_add, Nat.add_zero, Nat.mul_one, Int.toNat_natCast]
   intro H00
   exact H00 (0, false) _ ⟨HS.out, trivial⟩
  intro s w' HP; clear HS; have HS := Aside0.mk HP.1; obtain ⟨g9, b2⟩ := s; have hT2 := HP.2; clear HP; obtain rfl := hT1.same hT2
  refine PrintLast.norm_ (a' := ?_) ?_ ?_
  rotate_left
  ·simp only [PrintLast.putAll, Act.put, List.setIfInBounds_toArray, List.set_cons_zero, List.set_cons_succ, Nat.zero_add, Nat.add_zero, Nat.mul_one, Int.toNat_natCast]
   rfl
  refine one_store (i := 8) (oi := { dst := none, op := Go.Op.store 46 (Go.Operand.tmp 9) (Go.Operand.tmp 31), type := 0, pos := "exact.go:5576", after := #[{ on := 7, ground := Go.Ground.data }, { on := 5, ground := Go.Ground.data }, { on := 3, ground := Go.Ground.chain }, { on := 0, ground := Go.Ground.phase }, { on := 1, ground := Go.Ground.phase }, { on := 2, ground := Go.Ground.phase }, { on := 3, ground := Go.Ground.phase }, { on := 4, ground := Go.Ground.phase }, { on := 5, ground := Go.Ground.phase }, { on := 6, ground := Go.Ground.textOnly Go.Departure.lateStores }, { on := 7, ground := Go.Ground.phase }], guard := none }) #[true, true, true, true, true, true, true, true, true, false] rfl rfl (by kernel_rfl) (by decide) (wanted_of rfl) HS.out rfl ag46 rfl (by first | exact eval_tmp rfl | exact eval_const) at0 (lay_mc _ _) (mc_size _) (by simp only [mc_size, tc_size, cc_size, dc_size, rc_size, List.size_toArray, List.length_cons, List.length_nil]; omega) (mc_one _) (fun W_ HSS => by simp only [List.set_cons_zero, List.set_cons_succ] at HSS; exact HSS.drop1) ?_
  intro W_ HP hHeld; clear HS; have HS := Aside0.mk HP; clear HP; (try simp only [List.set_cons_zero, List.set_cons_succ] at HS)
  refine PrintLast.pure_ (i := 9) (oi := { dst := some 10, op := Go.Op.assign (Go.Operand.tmp 32), type := 4, pos := "exact.go:5576", after := #[{ on := 6, ground := Go.Ground.data }, { on := 8, ground := Go.Ground.chain }, { on := 0, ground := Go.Ground.phase }, { on := 1, ground := Go.Ground.phase }, { on := 2, ground := Go.Ground.phase }, { on := 3, ground := Go.Ground.phase }, { on := 4, ground := Go.Ground.phase }, { on := 5, ground := Go.Ground.phase }, { on := 6, ground := Go.Ground.phase }, { on := 7, ground := Go.Ground.phase }, { on := 8, ground := Go.Ground.phase }], guard := none }) (N := some 10) (v := ?_) (a' := ?_) #[true, true, true, true, true, true, true, true, true, true] rfl rfl (by kernel_rfl) (fun _ _ _ h => h) (Or.inl ⟨by rfl, ?_⟩) ?_ ?_
  rotate_left
  ·intro w'
   go_simp
   with_reducible rfl
  rotate_left
  ·simp only [PrintLast.putAll, Act.put, List.setIfInBounds_toArray, List.set_cons_zero, List.set_cons_succ, Nat.zero_add, Nat.add_zero, Nat.mul_one, Int.toNat_natCast]
   rfl
  refine PrintLast.done_ (by kernel_rfl) ?_
  clear hHeld
  cases b1
  all_goals
   go_wp2_with ((first | ((with_reducible refine gate_dst (N := 34) rfl ?_); (with_reducible refine load_seg (H3.out.call HS.out.below) rfl rfl ag46 rfl at0 (whole _) (mc_size _) ?_)) | ((with_reducible refine gate_dst (N := 35) rfl ?_); refine call_ev2 HS.out rfl rfl Tryd.func10 (by kernel_rfl) rfl (by (try simp only [List.map_toArray, List.map_cons, List.map_nil]); first | done | rfl) (c_eqMem (tm m op d0 d1) (tm m op d0 d1).R (fun _ _ => fsame.refl _) _) ?_; rintro v_ W_ rfl HP HB_; clear HS; have HS := Aside0.mk HP; clear HP; clear HB_) | ((with_reducible refine gate_dst (N := 33) rfl ?_); (with_reducible refine load_seg HS.out rfl rfl ag46 rfl (by first | exact at0 | exact at1 | exact at2 | exact at3 | exact at4 | exact at5 | exact at6) (by with_reducible first | exact tc_el _ _ (by omega) | exact cc_el _ _ (by omega) | exact whole _) (by with_reducible first | exact mc_size _ | exact tc_size _ | exact cc_size _ | exact dc_size _ | exact rc_size _ | exact sz1 | exact sz2 | exact sz3 | exact sz4) ?_))); (try simp only [Act.put, List.setIfInBounds_toArray, List.set_cons_zero, List.set_cons_succ]))
   refine start_R (LS := _) (n := 5) #[false, false, false, false, false] HS.out (by kernel_rfl) rfl rfl (fun W_ HSS => HSS) ?_
   intro W_ HP hHeld; clear HS; have HS := Aside0.mk HP; clear HP
   refine PrintLast.take_ (i := 0) (oi := { dst := some 42, op := Go.Op.load 52 (Go.Operand.tmp 8), type := 52, pos := "exact.go:5580", after := #[], guard := none }) (N := some 42) (v := ?_) (a' := ?_) #[true, false, false, false, false] rfl rfl (by kernel_rfl) (fun _ _ _ h => h) (Or.inl ⟨by rfl, ?_⟩) hHeld ?_ ?_
   rotate_left
   ·intro w' hS
    refine Eq.trans (run_load_seg hS rfl rfl ag52 rfl (by first | exact at0 | exact at1 | exact at2 | exact at3 | exact at4 | exact at5 | exact at6) (by with_reducible first | exact get_T _ | exact get_C _ | exact get_D _ | exact get_R _ | exact el_T _ _ (by omega) | exact el_C _ _ (by omega) | exact tc_el _ _ (by omega) | exact cc_el _ _ (by omega) | exact whole _) (by with_reducible first | exact mc_size _ | exact tc_size _ | exact cc_size _ | exact dc_size _ | exact rc_size _ | exact sz1 | exact sz2 | exact sz3 | exact sz4)) ?_
    with_reducible rfl
   rotate_left
   ·simp only [PrintLast.putAll, Act.put, List.setIfInBounds_toArray, List.set_cons_zero, List.set_cons_succ, Nat.zero_add, Nat.add_zero, Nat.mul_one, Int.toNat_natCast]
    rfl
   refine PrintLast.take_ (i := 1) (oi := { dst := some 43, op := Go.Op.load 39 (Go.Operand.tmp 3), type := 39, pos := "exact.go:5580", after := #[], guard := none }) (N := some 43) (v := ?_) (a' := ?_) #[true, true, false, false, false] rfl rfl (by kernel_rfl) (fun _ _ _ h => h) (Or.inl ⟨by rfl, ?_⟩) hHeld ?_ ?_
   rotate_left
   ·intro w' hS
    refine Eq.trans (run_load_seg (H3.out.call hS.below) rfl rfl ag39 rfl (by first | exact at0 | exact at1 | exact at2 | exact at3 | exact at4 | exact at5 | exact at6) (by with_reducible first | exact get_T _ | exact get_C _ | exact get_D _ | exact get_R _ | exact el_T _ _ (by omega) | exact el_C _ _ (by omega) | exact tc_el _ _ (by omega) | exact cc_el _ _ (by omega) | exact whole _) (by with_reducible first | exact mc_size _ | exact tc_size _ | exact cc_size _ | exact dc_size _ | exact rc_size _ | exact sz1 | exact sz2 | exact sz3 | exact sz4)) ?_
    with_reducible rfl
   rotate_left
   ·simp only [PrintLast.putAll, Act.put, List.setIfInBounds_toArray, List.set_cons_zero, List.set_cons_succ, Nat.zero_add, Nat.add_zero, Nat.mul_one, Int.toNat_natCast]
    rfl
   clear hHeld
   refine PrintLast.one_ (i := 2) (oi := { dst := some 44, op := Go.Op.call { callee := Go.Callee.value (Go.Operand.func 8), args := #[Go.Operand.tmp 43], argTypes := #[39] }, type := 52, pos := "exact.go:5580", after := #[{ on := 1, ground := Go.Ground.data }], guard := none }) (N := some 44) #[true, true, true, false, false] rfl rfl (by kernel_rfl) (by decide) (fun K hK => ?_)
   refine step_own (wanted_of rfl) HS.out rfl rfl Tryd.func8 (by kernel_rfl) rfl (by (try simp only [List.map_toArray, List.map_cons, List.map_nil]); first | done | rfl) (c_toElemL op A0 c0 xs hx l hl_ _ (Kd.C_below HC.out (H3.out.call HS.out.below).below) hc) ?_
   rintro v_ W_ ⟨v2, rfl, hA⟩ HP HB_; clear HS; have HS := Aside0.mk HP; clear HP
   refine hK.out _ _ HS.out (fun _ => ?_)
   clear hK K
   refine PrintLast.norm_ (a' := ?_) ?_ ?_
   rotate_left
   ·show Act.put _ (some 44) _ = _
    simp only [PrintLast.putAll, Act.put, List.setIfInBounds_toArray, List.set_cons_zero, List.set_cons_succ, Nat.zero_add, Nat.add_zero, Nat.mul_one, Int.toNat_natCast]
    rfl
   refine PrintLast.one_ (i := 3) (oi := { dst := some 45, op := Go.Op.call { callee := Go.Callee.value (Go.Operand.func 11), args := #[Go.Operand.tmp 42, Go.Operand.tmp 44], argTypes := #[52, 52] }, type := 4, pos := "exact.go:5580", after := #[{ on := 0, ground := Go.Ground.data }, { on := 2, ground := Go.Ground.data }, { on := 2, ground := Go.Ground.chain }], guard := none }) (N := some 45) #[true, true, true, true, false] rfl rfl (by kernel_rfl) (by decide) (fun K hK => ?_)
   refine step_callr (wanted_of rfl) HS.out rfl rfl Tryd.func11 (by kernel_rfl) rfl (by (try simp only [List.map_toArray, List.map_cons, List.map_nil]); first | done | rfl) (c_eqElem op l hll v1 v2 _ (HR.out.below HS.out.below) hA) ?_
   intro W_ HP; clear HS; have HS := Aside0.mk HP; clear HP
   refine hK.out _ _ HS.out (fun _ => ?_)
   clear hK K
   refine PrintLast.norm_ (a' := ?_) ?_ ?_
   rotate_left
   ·show Act.put _ (some 45) _ = _
    simp only [PrintLast.putAll, Act.put, List.setIfInBounds_toArray, List.set_cons_zero, List.set_cons_succ, Nat.zero_add, Nat.add_zero, Nat.mul_one, Int.toNat_natCast]
    rfl
   refine PrintLast.pure_ (i := 4) (oi := { dst := some 46, op := Go.Op.unOp Go.UnOp.not 4 (Go.Operand.tmp 45), type := 4, pos := "exact.go:5580", after := #[{ on := 3, ground := Go.Ground.data }], guard := none }) (N := some 46) (v := ?_) (a' := ?_) #[true, true, true, true, true] rfl rfl (by kernel_rfl) (fun _ _ _ h => h) (Or.inl ⟨by rfl, ?_⟩) ?_ ?_
   rotate_left
   ·intro w'
    go_simp
    with_reducible rfl
   rotate_left
   ·simp only [PrintLast.putAll, Act.put, List.setIfInBounds_toArray, List.set_cons_zero, List.set_cons_succ, Nat.zero_add, Nat.add_zero, Nat.mul_one, Int.toNat_natCast]
    rfl
   refine PrintLast.done_ (by kernel_rfl) ?_
   go_wp2
   go_ret
   exact ⟨_, rfl, rfl, (H3.out.call HS.out.below).below⟩

end Go.Proofs.YtaegonmpjgdmgaaDoor.K
