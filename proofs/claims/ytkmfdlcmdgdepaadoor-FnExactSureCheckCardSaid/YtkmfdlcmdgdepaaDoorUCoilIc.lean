/- What impl.ElemIsCoil answers, and that it does. -/
import Derived.Test.YtkmfdlcmdgdepaaDoorUCoilIa
namespace Go.Proofs.YtkmfdlcmdgdepaaDoor.U
open Go Go.RowKit Go.Proofs.YtkmfdlcmdgdepaaDoor.Tell Go.Proofs.YtkmfdlcmdgdepaaDoorW Go.Proofs.YtkmfdlcmdgdepaaDoorW.PrintWords Go.Proofs.YtkmfdlcmdgdepaaDoorW.PrintLast Go.Proofs.YtkmfdlcmdgdepaaDoorW.PrintMore Go.Proofs.YtkmfdlcmdgdepaaDoor.MW
set_option linter.unusedVariables false
set_option linter.unusedSimpArgs false
set_option maxRecDepth 100000
set_option maxHeartbeats 16000000 in
set_option maxRecDepth 100000 in
theorem impl_coil3 (op : Int) (x y z : S55) (hop : op = 31 ∨ op = 32 ∨ op = 33 ∨ op = 34 ∨ op = 35) (A : Option Addr) (c : Nat) (w : World) (ht : TB.Tab w) (hr : Kd.C k55 w A ([x, y, z] : List S55).length [x, y, z]) (hc : ([x, y, z] : List S55).length ≤ c) :
  Calls Tryd.prog 34 #[.agg #[.int .i64 op, .slice A 3 c]] w fun e w' => e = .returned (.bool (coil op [x, y, z])) ∧ Below w.heap.size w w' := by
 have HC := Aside0.mk hr
 have HCC := Aside0.mk hc
 clear hr hc
 have HT := Aside0.mk ht
 clear ht
 obtain ⟨ad0, e0, hx0, hx1, hx2⟩ := at_T55 HC.out 0 (by omega) (by simp)
 cases e0
 (try rw [show ((0 : Int)).toNat = 0 from rfl] at hx0)
 (try rw [show 0 * 3 = 0 from rfl] at hx0)
 (try rw [Addr.add_zero'] at hx0)
 (try simp only [rd_cons0, rd_cons1] at hx0)
 (try rw [show ((0 : Int)).toNat = 0 from rfl] at hx1)
 (try rw [show 0 * 3 = 0 from rfl] at hx1)
 (try rw [Addr.add_zero'] at hx1)
 (try simp only [rd_cons0, rd_cons1] at hx1)
 (try rw [show ((0 : Int)).toNat = 0 from rfl] at hx2)
 (try rw [show 0 * 3 = 0 from rfl] at hx2)
 (try rw [Addr.add_zero'] at hx2)
 (try simp only [rd_cons0, rd_cons1] at hx2)
 have Hx0 := Aside0.mk hx0
 have Hx1 := Aside0.mk hx1
 have Hx2 := Aside0.mk hx2
 clear hx0 hx1 hx2
 obtain ⟨ad1, e1, hy0, hy1, hy2⟩ := at_T55 HC.out 1 (by omega) (by simp)
 obtain rfl : ad0 = ad1 := by injection e1
 (try rw [show ((1 : Int)).toNat = 1 from rfl] at hy0)
 (try rw [show 1 * 3 = 3 from rfl] at hy0)
 (try simp only [rd_cons0, rd_cons1] at hy0)
 (try rw [show ((1 : Int)).toNat = 1 from rfl] at hy1)
 (try rw [show 1 * 3 = 3 from rfl] at hy1)
 (try simp only [rd_cons0, rd_cons1] at hy1)
 (try rw [show ((1 : Int)).toNat = 1 from rfl] at hy2)
 (try rw [show 1 * 3 = 3 from rfl] at hy2)
 (try simp only [rd_cons0, rd_cons1] at hy2)
 have hy3 := hy0
 replace hy0 : w.cell? ⟨ad0.block, ad0.off + 3, none⟩ = some (.int .i64 y.f0) := hy0
 replace hy1 : w.cell? ⟨ad0.block, ad0.off + 3 + 1, none⟩ = some (.int .i64 y.f1) := hy1
 replace hy2 : w.cell? ⟨ad0.block, ad0.off + 3 + 2, none⟩ = some (.int .i64 y.f2) := hy2
 have Hy0 := Aside0.mk hy0
 have Hy1 := Aside0.mk hy1
 have Hy2 := Aside0.mk hy2
 have Hy3 := Aside0.mk hy3
 clear hy0 hy1 hy2 hy3
 clear e1
 obtain ⟨i0_, hi0_, _, hsz_, _⟩ := info_parts info55
 have hmf : ∀ (fn : Fn) (first cap : Array Value) (w : World), (Instr.makeFunc fn first cap).run Tryd.prog w = .ok (.func fn first cap) w := fun _ _ _ _ => rfl
 obtain ⟨cr, hcr_⟩ : ∃ m, m = c - 1 := ⟨_, rfl⟩
 have hc1 : ¬ c = 1 := by have := HCC.out; simp at this; omega
 have hcut : ∀ W : World, (Instr.slice 27 (.slice (some ad0) 3 c) (some (.int .i64 1)) none none).run Tryd.prog W = .ok (.slice (some ⟨ad0.block, ad0.off + 3, none⟩) 2 cr) W := fun W => by have h := cut_from 27 55 .i64 Tryd.underlying27 hi0_ 3 hsz_ (some ad0) 3 c 1 (by decide) (by decide) W; rw [show (1 : Int).toNat = 1 from rfl, if_neg hc1] at h; rw [hcr_]; exact h
 have hCr := Aside0.mk (show Kd.C k55 w (some ⟨ad0.block, ad0.off + 3, none⟩) ([y, z] : List S55).length [y, z] from by have h := Kd.C_drop (m := 1) (c := c) HC.out (by simp) HCC.out; rw [if_neg hc1] at h; exact h)
 have hcr := Aside0.mk (show ([y, z] : List S55).length ≤ cr from by have := HCC.out; simp at this ⊢; omega)
 clear hc1 hcr_ hi0_ hsz_
 have HS := Aside0.mk (Priv.nil w)
 obtain ⟨nA_, hA_⟩ := tell_ (iAr_ev op)
 have hv_ : ar op = 3 := by rw [ar_coil (by omega)]; (repeat' split) <;> omega
 rw [hv_] at hA_
 have hAr := Aside0.mk hA_
 clear hA_ hv_
 rcases hop with rfl | rfl | rfl | rfl | rfl
 rcases bool_or (lk x 9 9) with e0_ | e0_
 rcases bool_or ([y, z].all wW) with e1_ | e1_
 rotate_left
 rcases bool_or (lk x 10 10) with e2_ | e2_
 rotate_left 2
 rcases bool_or (lk x 10 10) with e2_ | e2_
 rotate_left 2
 rcases bool_or (lk x 9 9) with e0_ | e0_
 rcases bool_or ([y, z].all wW) with e1_ | e1_
 rotate_left
 rcases bool_or (lk x 10 10) with e2_ | e2_
 rotate_left 2
 rcases bool_or (lk x 10 10) with e2_ | e2_
 rotate_left 2
 rcases bool_or (lk x 9 9) with e0_ | e0_
 rcases bool_or ([y, z].all wW) with e1_ | e1_
 rotate_left
 rcases bool_or (lk x 10 10) with e2_ | e2_
 rotate_left 2
 rcases bool_or (lk x 10 10) with e2_ | e2_
 rotate_left 2
 rcases bool_or (lk x 9 9) with e0_ | e0_
 rcases bool_or ([y, z].all wW) with e1_ | e1_
 rotate_left
 rcases bool_or (lk x 10 10) with e2_ | e2_
 rotate_left 2
 rcases bool_or (lk x 10 10) with e2_ | e2_
 rotate_left 2
 rcases bool_or (lk x 9 9) with e0_ | e0_
 rotate_left 2
 all_goals
  go_enter Tryd.func34, Tryd.ntmps34
  go_upto_region 1 with (first | ((with_reducible refine gate_dst (N := 1) rfl ?_); (with_reducible refine box_new HS.out rfl rfl (by first | exact eval_tmp rfl | exact eval_const) ?_); intro g1 W1_ HP; clear HS; have HS := Aside0.mk HP; clear HP; (try simp only [Act.put, List.setIfInBounds_toArray, List.set_cons_zero, List.set_cons_succ])))
  (try simp only [Act.put, List.setIfInBounds_toArray, List.set_cons_zero, List.set_cons_succ])
  obtain ⟨t1_, hb1_⟩ := HS.out.at_ at0
  have hz0_ : W1_.cell? ⟨g1, 0, none⟩ = some (.int .i64 _) := (blk_cell hb1_ 0).trans rfl
  have hz1_ : W1_.cell? ⟨g1, 1, none⟩ = some (.slice (some ad0) 3 c) := (blk_cell hb1_ 1).trans rfl
  have hf0_ := blk_frozen hb1_ 0
  have hf1_ := blk_frozen hb1_ 1
  go_upto_region 3 with (first | (go_at_call 45; (with_reducible refine (impl_ElemArity.calls _ _ _ _ hAr.out).mono ?_); rintro e_ w_ ⟨rfl, ⟨nd, rfl⟩⟩; (try first | exact ⟨rfl, _, World.drewN_drewN _ _ _⟩ | exact ⟨rfl, _, Eq.trans (World.drewN_drewN _ _ _) (congrArg (World.drewN _) (Nat.add_assoc _ _ _))⟩)))
  repeat (go_quiet (first | (go_at_call 33; (with_reducible refine (impl_in.calls _ _ _ _ _ (impl_in.dec _ _ _)).mono ?_); rintro e_ w_ ⟨rfl, ⟨nd, rfl⟩⟩; (try first | exact ⟨rfl, _, World.drewN_drewN _ _ _⟩ | exact ⟨rfl, _, Eq.trans (World.drewN_drewN _ _ _) (congrArg (World.drewN _) (Nat.add_assoc _ _ _))⟩)) | (go_at_call 45; (with_reducible refine (impl_ElemArity.calls _ _ _ _ hAr.out).mono ?_); rintro e_ w_ ⟨rfl, ⟨nd, rfl⟩⟩; (try first | exact ⟨rfl, _, World.drewN_drewN _ _ _⟩ | exact ⟨rfl, _, Eq.trans (World.drewN_drewN _ _ _) (congrArg (World.drewN _) (Nat.add_assoc _ _ _))⟩))); try go_upto_region 3 with (first | (go_at_call 45; (with_reducible refine (impl_ElemArity.calls _ _ _ _ hAr.out).mono ?_); rintro e_ w_ ⟨rfl, ⟨nd, rfl⟩⟩; (try first | exact ⟨rfl, _, World.drewN_drewN _ _ _⟩ | exact ⟨rfl, _, Eq.trans (World.drewN_drewN _ _ _) (congrArg (World.drewN _) (Nat.add_assoc _ _ _))⟩))))
  first | refine regen_c HS.out ?_ | refine regen_c (HS.out.drewN _) ?_ | refine regen_c ((HS.out.drewN _).drewN _) ?_
  intro W_ HP
  clear HS; have HS := Aside0.mk HP; clear HP
  (try simp only [Act.put, List.setIfInBounds_toArray, List.set_cons_zero, List.set_cons_succ])
  refine start_R (LS := _) (n := 11) #[false, false, false, false, false, false, false, false, false, false, false] HS.out (by kernel_rfl) rfl rfl (fun W_ HSS => HSS) ?_
  intro W_ HP hHeld; clear HS; have HS := Aside0.mk HP; clear HP
  refine PrintLast.pure_ (i := 0) (oi := { dst := some 19, op := Go.Op.fieldAddr 29 (Go.Operand.tmp 1) 1, type := 0, pos := "l4_elem.go:97", after := #[], guard := none }) (N := some 19) (v := ?_) (a' := ?_) #[true, false, false, false, false, false, false, false, false, false, false] rfl rfl (by kernel_rfl) (fun _ _ _ h => h) (Or.inl ⟨by rfl, ?_⟩) ?_ ?_
  rotate_left
  ·intro w'
   refine Eq.trans (run_field_at rfl rfl rfl fo29_1) ?_
   with_reducible rfl
  rotate_left
  ·simp only [PrintLast.putAll, Act.put, List.setIfInBounds_toArray, List.set_cons_zero, List.set_cons_succ, Nat.zero_add, Nat.add_zero, Nat.mul_one, Int.toNat_natCast]
   rfl
  refine PrintLast.take_ (i := 1) (oi := { dst := some 20, op := Go.Op.load 27 (Go.Operand.tmp 19), type := 27, pos := "l4_elem.go:97", after := #[{ on := 0, ground := Go.Ground.data }], guard := none }) (N := some 20) (v := ?_) (a' := ?_) #[true, true, false, false, false, false, false, false, false, false, false] rfl rfl (by kernel_rfl) (fun _ _ _ h => h) (Or.inl ⟨by rfl, ?_⟩) hHeld ?_ ?_
  rotate_left
  ·intro w' hS
   refine Eq.trans (run_load_one hS rfl rfl on27 rfl at0 (by with_reducible first | exact at0a | exact at1a)) ?_
   with_reducible rfl
  rotate_left
  ·simp only [PrintLast.putAll, Act.put, List.setIfInBounds_toArray, List.set_cons_zero, List.set_cons_succ, Nat.zero_add, Nat.add_zero, Nat.mul_one, Int.toNat_natCast]
   rfl
  refine PrintLast.pure_ (i := 2) (oi := { dst := some 21, op := Go.Op.indexAddr 27 (Go.Operand.tmp 20) (Go.Operand.const (Go.Value.int Go.IntKind.i64 0)), type := 0, pos := "l4_elem.go:97", after := #[{ on := 1, ground := Go.Ground.data }], guard := none }) (N := some 21) (v := ?_) (a' := ?_) #[true, true, true, false, false, false, false, false, false, false, false] rfl rfl (by kernel_rfl) (fun _ _ _ h => h) (Or.inl ⟨by rfl, ?_⟩) ?_ ?_
  rotate_left
  ·intro w'
   go_simp
   with_reducible rfl
  rotate_left
  ·simp only [PrintLast.putAll, Act.put, List.setIfInBounds_toArray, List.set_cons_zero, List.set_cons_succ, Nat.zero_add, Nat.add_zero, Nat.mul_one, Int.toNat_natCast]
   rfl
  refine PrintLast.take_ (i := 3) (oi := { dst := some 22, op := Go.Op.load 55 (Go.Operand.tmp 21), type := 55, pos := "l4_elem.go:97", after := #[{ on := 2, ground := Go.Ground.data }], guard := none }) (N := some 22) (v := ?_) (a' := ?_) #[true, true, true, true, false, false, false, false, false, false, false] rfl rfl (by kernel_rfl) (fun _ _ _ h => h) (Or.inl ⟨by rfl, ?_⟩) hHeld ?_ ?_
  rotate_left
  ·intro w' hS
   have hx0_ := (hS.below.cell (World.block_lt_of_cell? w _ Hx0.out)).trans Hx0.out
   have hx1_ := (hS.below.cell (World.block_lt_of_cell? w _ Hx1.out)).trans Hx1.out
   have hx2_ := (hS.below.cell (World.block_lt_of_cell? w _ Hx2.out)).trans Hx2.out
   go_simp
   with_reducible rfl
  rotate_left
  ·simp only [PrintLast.putAll, Act.put, List.setIfInBounds_toArray, List.set_cons_zero, List.set_cons_succ, Nat.zero_add, Nat.add_zero, Nat.mul_one, Int.toNat_natCast]
   rfl
  refine PrintLast.pure_ (i := 4) (oi := { dst := some 23, op := Go.Op.fieldAddr 29 (Go.Operand.tmp 1) 1, type := 0, pos := "l4_elem.go:97", after := #[], guard := none }) (N := some 23) (v := ?_) (a' := ?_) #[true, true, true, true, true, false, false, false, false, false, false] rfl rfl (by kernel_rfl) (fun _ _ _ h => h) (Or.inl ⟨by rfl, ?_⟩) ?_ ?_
  rotate_left
  ·intro w'
   refine Eq.trans (run_field_at rfl rfl rfl fo29_1) ?_
   with_reducible rfl
  rotate_left
  ·simp only [PrintLast.putAll, Act.put, List.setIfInBounds_toArray, List.set_cons_zero, List.set_cons_succ, Nat.zero_add, Nat.add_zero, Nat.mul_one, Int.toNat_natCast]
   rfl
  refine PrintLast.take_ (i := 5) (oi := { dst := some 24, op := Go.Op.load 27 (Go.Operand.tmp 23), type := 27, pos := "l4_elem.go:97", after := #[{ on := 4, ground := Go.Ground.data }], guard := none }) (N := some 24) (v := ?_) (a' := ?_) #[true, true, true, true, true, true, false, false, false, false, false] rfl rfl (by kernel_rfl) (fun _ _ _ h => h) (Or.inl ⟨by rfl, ?_⟩) hHeld ?_ ?_
  rotate_left
  ·intro w' hS
   refine Eq.trans (run_load_one hS rfl rfl on27 rfl at0 (by with_reducible first | exact at0a | exact at1a)) ?_
   with_reducible rfl
  rotate_left
  ·simp only [PrintLast.putAll, Act.put, List.setIfInBounds_toArray, List.set_cons_zero, List.set_cons_succ, Nat.zero_add, Nat.add_zero, Nat.mul_one, Int.toNat_natCast]
   rfl
  refine PrintLast.pure_ (i := 6) (oi := { dst := some 25, op := Go.Op.slice 27 (Go.Operand.tmp 24) (some (Go.Operand.const (Go.Value.int Go.IntKind.i64 1))) none none, type := 27, pos := "l4_elem.go:97", after := #[{ on := 5, ground := Go.Ground.data }], guard := none }) (N := some 25) (v := ?_) (a' := ?_) #[true, true, true, true, true, true, true, false, false, false, false] rfl rfl (by kernel_rfl) (fun _ _ _ h => h) (Or.inl ⟨by rfl, ?_⟩) ?_ ?_
  rotate_left
  ·intro w'
   go_simp
   with_reducible rfl
  rotate_left
  ·simp only [PrintLast.putAll, Act.put, List.setIfInBounds_toArray, List.set_cons_zero, List.set_cons_succ, Nat.zero_add, Nat.add_zero, Nat.mul_one, Int.toNat_natCast]
   rfl
  clear hHeld
  refine list_name HS.out ?_
  intro L0 hL0 HP; clear HS; have HS := Aside0.mk HP; clear HP
  refine PrintLast.join_ (σ := Nat × Nat) 2 #[true, true, true, true, true, true, true, true, true, false, false] (fun s => [(3, .pointer (some ⟨s.1, 0, none⟩)), (4, .pointer (some ⟨s.2, 0, none⟩))]) (fun s w' => Priv w w' ((s.2, #[.slice none 0 0]) :: (s.1, #[.int .i64 0, .int .i64 0, .int .i64 0]) :: L0)) ?_ ?_
  rotate_left
  ·intro H11
   refine PrintLast.join_ (σ := Nat × Nat) 3 #[true, true, true, true, true, true, true, true, false, false, false] (fun s => [(3, .pointer (some ⟨s.1, 0, none⟩))]) (fun s w' => Priv w w' ((s.1, #[.int .i64 0, .int .i64 0, .int .i64 0]) :: L0)) ?_ ?_
   ·intro s w' HF
    refine PrintLast.norm_ (a' := ?_) ?_ ?_
    rotate_left
    ·simp only [PrintLast.putAll, Act.put, List.setIfInBounds_toArray, List.set_cons_zero, List.set_cons_succ, Nat.zero_add, Nat.add_zero, Nat.mul_one, Int.toNat_natCast]
     rfl
    refine PrintLast.one_ (i := 8) (oi := { dst := some 4, op := Go.Op.alloc 27, type := 0, pos := "l4_elem.go:97", after := #[], guard := none }) (N := some 4) #[true, true, true, true, true, true, true, true, true, false, false] rfl rfl (by kernel_rfl) (by decide) (fun K hK => ?_)
    ·refine step_alloc (wanted_of rfl) HF rfl rfl ze27 ?_
     intro g_ W_ HP
     have HQ := HP
     refine hK.out _ _ (by subst hL0; exact HQ.drop1.drop1) (fun _ => ?_)
     refine PrintLast.norm_ ?_ (H11 (s.1, g_) _ HQ)
     simp only [PrintLast.putAll, Act.put, List.setIfInBounds_toArray, List.set_cons_zero, List.set_cons_succ, Nat.zero_add, Nat.add_zero, Nat.mul_one, Int.toNat_natCast]
   intro H10
   refine PrintLast.join_ (σ := Nat × Nat) 3 #[true, true, true, true, true, true, true, false, true, false, false] (fun s => [(4, .pointer (some ⟨s.2, 0, none⟩))]) (fun s w' => Priv w w' ((s.2, #[.slice none 0 0]) :: L0)) ?_ ?_
   ·intro s w' HF
    refine PrintLast.norm_ (a' := ?_) ?_ ?_
    rotate_left
    ·simp only [PrintLast.putAll, Act.put, List.setIfInBounds_toArray, List.set_cons_zero, List.set_cons_succ, Nat.zero_add, Nat.add_zero, Nat.mul_one, Int.toNat_natCast]
     rfl
    refine PrintLast.one_ (i := 7) (oi := { dst := some 3, op := Go.Op.alloc 55, type := 0, pos := "l4_elem.go:97", after := #[], guard := none }) (N := some 3) #[true, true, true, true, true, true, true, true, true, false, false] rfl rfl (by kernel_rfl) (by decide) (fun K hK => ?_)
    ·refine step_alloc (wanted_of rfl) HF rfl rfl ze55 ?_
     intro g_ W_ HP
     have HQ := HP.swap
     refine hK.out _ _ (by subst hL0; exact HQ.drop1.drop1) (fun _ => ?_)
     refine PrintLast.norm_ ?_ (H11 (g_, s.2) _ HQ)
     simp only [PrintLast.putAll, Act.put, List.setIfInBounds_toArray, List.set_cons_zero, List.set_cons_succ, Nat.zero_add, Nat.add_zero, Nat.mul_one, Int.toNat_natCast]
   intro H01
   refine PrintLast.join_ (σ := Nat × Nat) 4 #[true, true, true, true, true, true, true, false, false, false, false] (fun s => []) (fun s w' => Priv w w' (L0)) ?_ ?_
   ·intro s w' HF
    refine PrintLast.norm_ (a' := ?_) ?_ ?_
    rotate_left
    ·simp only [PrintLast.putAll, Act.put, List.setIfInBounds_toArray, List.set_cons_zero, List.set_cons_succ, Nat.zero_add, Nat.add_zero, Nat.mul_one, Int.toNat_natCast]
     rfl
    refine PrintLast.two_ (i := 7) (j := 8) (oi := { dst := some 3, op := Go.Op.alloc 55, type := 0, pos := "l4_elem.go:97", after := #[], guard := none }) (oj := { dst := some 4, op := Go.Op.alloc 27, type := 0, pos := "l4_elem.go:97", after := #[], guard := none }) (Ni := some 3) (Nj := some 4) #[true, true, true, true, true, true, true, true, false, false, false] #[true, true, true, true, true, true, true, false, true, false, false] rfl rfl rfl rfl (by kernel_rfl) (by decide) (by decide) (fun K hK => ?_) (fun K hK => ?_)
    ·refine step_alloc (wanted_of rfl) HF rfl rfl ze55 ?_
     intro g_ W_ HP
     have HQ := HP
     refine hK.out _ _ (by subst hL0; exact HQ.drop1) (fun _ => ?_)
     refine PrintLast.norm_ ?_ (H10 (g_, s.2) _ HQ)
     simp only [PrintLast.putAll, Act.put, List.setIfInBounds_toArray, List.set_cons_zero, List.set_cons_succ, Nat.zero_add, Nat.add_zero, Nat.mul_one, Int.toNat_natCast]
    ·refine step_alloc (wanted_of rfl) HF rfl rfl ze27 ?_
     intro g_ W_ HP
     have HQ := HP
     refine hK.out _ _ (by subst hL0; exact HQ.drop1) (fun _ => ?_)
     refine PrintLast.norm_ ?_ (H01 (s.1, g_) _ HQ)
     simp only [PrintLast.putAll, Act.put, List.setIfInBounds_toArray, List.set_cons_zero, List.set_cons_succ, Nat.zero_add, Nat.add_zero, Nat.mul_one, Int.toNat_natCast]
   intro H00
   exact H00 (0, 0) _ HS.out
  intro s w' HP; subst hL0; clear HS; have HS := Aside0.mk HP; clear HP; obtain ⟨ga_, gr_⟩ := s
  refine PrintLast.norm_ (a' := ?_) ?_ ?_
  rotate_left
  ·simp only [PrintLast.putAll, Act.put, List.setIfInBounds_toArray, List.set_cons_zero, List.set_cons_succ, Nat.zero_add, Nat.add_zero, Nat.mul_one, Int.toNat_natCast]
   rfl
  refine PrintLast.one_ (i := 9) (oi := { dst := none, op := Go.Op.store 55 (Go.Operand.tmp 3) (Go.Operand.tmp 22), type := 0, pos := "l4_elem.go:97", after := #[{ on := 7, ground := Go.Ground.data }, { on := 3, ground := Go.Ground.data }, { on := 0, ground := Go.Ground.phase }, { on := 1, ground := Go.Ground.phase }, { on := 2, ground := Go.Ground.phase }, { on := 3, ground := Go.Ground.phase }, { on := 4, ground := Go.Ground.textOnly Go.Departure.lateStores }, { on := 5, ground := Go.Ground.textOnly Go.Departure.lateStores }, { on := 6, ground := Go.Ground.textOnly Go.Departure.lateStoresUnsure }, { on := 7, ground := Go.Ground.phase }, { on := 8, ground := Go.Ground.phase }], guard := none }) (N := none) #[true, true, true, true, true, true, true, true, true, true, false] rfl rfl (by kernel_rfl) (by decide) (fun K hK => ?_)
  refine step_store_seg (wanted_of rfl) HS.out rfl rfl ag55 rfl (by first | exact eval_tmp rfl | exact eval_const) (by first | exact at0 | exact at1 | exact at2 | exact at3 | exact at4 | exact at5 | exact at6) (by with_reducible first | exact set_X _ _ | exact set_Y _ _ | exact set_M _ _ | exact set_S _ _ | exact set_E _ _ | exact set_Time _ _ | exact set_Ran _ _ | exact set_Fault _ _ | exact set_T _ _ | exact set_C _ _ | exact set_D _ _ | exact set_R _ _ | exact put_T _ _ (by omega) _ _ | exact put_C _ _ (by omega) _ _ _ | exact put_D _ _ (by omega) _ | exact put_R _ _ (by omega) _ | exact tc_put _ _ (by omega) _ _ | exact cc_put _ _ (by omega) _ _ _ | exact dc_put _ _ (by omega) _ | exact rc_put _ _ (by omega) _ | exact lay_mc _ _ | exact lay_tc _ _ | exact lay_cc _ _ | exact lay_dc _ _ | exact lay_rc _ _ | exact lay2_0 | exact lay2_1 | exact lay3_0 | exact lay3_1 | exact lay3_2 | exact lay2_w | exact lay3_w) (by with_reducible first | exact mc_size _ | exact tc_size _ | exact cc_size _ | exact dc_size _ | exact rc_size _ | exact sz1 | exact sz2 | exact sz3 | exact sz4) (by simp only [mc_size, tc_size, cc_size, dc_size, rc_size, List.size_toArray, List.length_cons, List.length_nil]; omega) (by first | (with_reducible first | exact mc_one _ | exact tc_one _ | exact cc_one _ | exact dc_one _ | exact rc_one _ | exact t2_one _ _ | exact t3_one _ _ _) | (simp [Value.oneCell']; done)) ?_
  intro W_ HP; clear HS; have HS := Aside0.mk HP; clear HP; (try simp only [List.set_cons_zero, List.set_cons_succ] at HS)
  refine hK.out _ _ HS.out.drop1.drop1 (fun _ => ?_)
  clear hK K
  refine PrintLast.one_ (i := 10) (oi := { dst := none, op := Go.Op.store 27 (Go.Operand.tmp 4) (Go.Operand.tmp 25), type := 0, pos := "l4_elem.go:97", after := #[{ on := 8, ground := Go.Ground.data }, { on := 6, ground := Go.Ground.data }, { on := 9, ground := Go.Ground.chain }, { on := 0, ground := Go.Ground.phase }, { on := 1, ground := Go.Ground.phase }, { on := 2, ground := Go.Ground.phase }, { on := 3, ground := Go.Ground.phase }, { on := 4, ground := Go.Ground.phase }, { on := 5, ground := Go.Ground.phase }, { on := 6, ground := Go.Ground.phase }, { on := 7, ground := Go.Ground.phase }, { on := 8, ground := Go.Ground.phase }, { on := 9, ground := Go.Ground.phase }], guard := none }) (N := none) #[true, true, true, true, true, true, true, true, true, true, true] rfl rfl (by kernel_rfl) (by decide) (fun K hK => ?_)
  refine step_store_one (wanted_of rfl) HS.out rfl rfl on27 rfl (by first | exact eval_tmp rfl | exact eval_const) (by first | exact at0 | exact at1 | exact at2 | exact at3 | exact at4 | exact at5 | exact at6) lay1_0 (by simp only [mc_size, tc_size, cc_size, dc_size, rc_size, List.size_toArray, List.length_cons, List.length_nil]; omega) rfl rfl ?_
  intro W_ HP; clear HS; have HS := Aside0.mk HP; clear HP; (try simp only [List.set_cons_zero, List.set_cons_succ] at HS)
  refine hK.out _ _ HS.out.drop1.drop1 (fun _ => ?_)
  clear hK K
  refine PrintLast.done_ (by kernel_rfl) ?_
  (have hy0_ := (HS.out.below.cell (World.block_lt_of_cell? w _ Hy0.out)).trans Hy0.out; have hy1_ := (HS.out.below.cell (World.block_lt_of_cell? w _ Hy1.out)).trans Hy1.out; have hy2_ := (HS.out.below.cell (World.block_lt_of_cell? w _ Hy2.out)).trans Hy2.out; have hy3_ := (HS.out.below.cell (World.block_lt_of_cell? w _ Hy3.out)).trans Hy3.out)
  (try simp only [Act.put, List.setIfInBounds_toArray, List.set_cons_zero, List.set_cons_succ])
  go_wp2_with ((first | go_skip | ((with_reducible refine gate_dst (N := 27) rfl ?_); (try (refine gate_guard (by rfl) ?_; dsimp only)); (with_reducible refine field_at rfl rfl rfl fo29_0 ?_); (try simp only [toNat_16, toNat_12, Int.toNat_natCast, Nat.zero_add, Nat.add_zero, Nat.mul_one])) | ((with_reducible refine gate_dst (N := 28) rfl ?_); (try (refine gate_guard (by rfl) ?_; dsimp only)); (with_reducible refine load_one HS.out rfl rfl on3 rfl (by first | exact at0 | exact at1 | exact at2 | exact at3 | exact at4 | exact at5 | exact at6) (by with_reducible first | exact at0a | exact at1a | exact at2a | exact at3a) ?_)) | ((with_reducible first | refine gate_dst (N := 31) rfl ?_ | refine gate_dst (N := 36) rfl ?_ | refine gate_dst (N := 41) rfl ?_ | refine gate_dst (N := 46) rfl ?_ | refine gate_dst (N := 52) rfl ?_ | refine gate_dst (N := 58) rfl ?_ | refine gate_dst (N := 65) rfl ?_ | refine gate_dst (N := 74) rfl ?_ | refine gate_dst (N := 83) rfl ?_ | refine gate_dst (N := 92) rfl ?_ | refine gate_dst (N := 98) rfl ?_ | refine gate_dst (N := 103) rfl ?_ | refine gate_dst (N := 109) rfl ?_ | refine gate_dst (N := 112) rfl ?_ | refine gate_dst (N := 120) rfl ?_); (try (refine gate_guard (by rfl) ?_; dsimp only)); (with_reducible refine load_seg HS.out rfl rfl ag55 rfl (by first | exact at0 | exact at1 | exact at2 | exact at3 | exact at4 | exact at5 | exact at6) (by with_reducible first | exact whole _) (by with_reducible first | exact sz1 | exact sz2 | exact sz3 | exact sz4) ?_)) | ((with_reducible first | refine gate_dst (N := 50) rfl ?_ | refine gate_dst (N := 87) rfl ?_ | refine gate_dst (N := 96) rfl ?_ | refine gate_dst (N := 107) rfl ?_ | refine gate_dst (N := 116) rfl ?_ | refine gate_dst (N := 124) rfl ?_); (try (refine gate_guard (by rfl) ?_; dsimp only)); (with_reducible refine load_one HS.out rfl rfl on27 rfl (by first | exact at0 | exact at1 | exact at2 | exact at3 | exact at4 | exact at5 | exact at6) (by with_reducible first | exact at0a | exact at1a | exact at2a | exact at3a) ?_)) | ((with_reducible refine gate_dst (N := 32) rfl ?_); (try (refine gate_guard (by rfl) ?_; dsimp only)); refine Kd.R_lit (Kd.int .i64) _ 3 ?hg (N := 32) ?hd (xs := ([2, 3] : List Int)) (inner := [.int .i64 2, .int .i64 3]) (ok := fun _ => True) (okp := fun _ => True) ?hr ?hp (fun _ hk => hk) trivial (Below.refl _ _) (Nat.le_refl _) (by simp) ?_; (case hd => rfl); (case hg => rfl); (case hr => first | (go_simp; done) | (go_simp; rfl)); (case hp => exact (Reps.one (show Kd.M (Kd.int .i64) _ _ _ 2 [.int .i64 2] from rfl) (Reps.one (show Kd.M (Kd.int .i64) _ _ _ 3 [.int .i64 3] from rfl) (Reps.none _ _)))); intro v_ W_ hoR hb hg_ hnew_; clear hg_ hnew_; have HP := HS.out.call hb; clear HS; have HS := Aside0.mk HP; clear HP; have hy0_ := (HS.out.below.cell (World.block_lt_of_cell? w _ Hy0.out)).trans Hy0.out; have hy1_ := (HS.out.below.cell (World.block_lt_of_cell? w _ Hy1.out)).trans Hy1.out; have hy2_ := (HS.out.below.cell (World.block_lt_of_cell? w _ Hy2.out)).trans Hy2.out; have hy3_ := (HS.out.below.cell (World.block_lt_of_cell? w _ Hy3.out)).trans Hy3.out; have HO := Aside0.mk hoR; clear hb hoR; obtain ⟨AL_, cL_, eL_⟩ := Kd.R_slice HO.out; (try simp only [List.length_cons, List.length_nil, Nat.zero_add, Nat.reduceAdd] at eL_); subst eL_) | ((with_reducible refine gate_dst (N := 37) rfl ?_); (try (refine gate_guard (by rfl) ?_; dsimp only)); refine Kd.R_lit (Kd.int .i64) _ 3 ?hg (N := 37) ?hd (xs := ([2, 3, 4] : List Int)) (inner := [.int .i64 2, .int .i64 3, .int .i64 4]) (ok := fun _ => True) (okp := fun _ => True) ?hr ?hp (fun _ hk => hk) trivial (Below.refl _ _) (Nat.le_refl _) (by simp) ?_; (case hd => rfl); (case hg => rfl); (case hr => first | (go_simp; done) | (go_simp; rfl)); (case hp => exact (Reps.one (show Kd.M (Kd.int .i64) _ _ _ 2 [.int .i64 2] from rfl) (Reps.one (show Kd.M (Kd.int .i64) _ _ _ 3 [.int .i64 3] from rfl) (Reps.one (show Kd.M (Kd.int .i64) _ _ _ 4 [.int .i64 4] from rfl) (Reps.none _ _))))); intro v_ W_ hoR hb hg_ hnew_; clear hg_ hnew_; have HP := HS.out.call hb; clear HS; have HS := Aside0.mk HP; clear HP; have hy0_ := (HS.out.below.cell (World.block_lt_of_cell? w _ Hy0.out)).trans Hy0.out; have hy1_ := (HS.out.below.cell (World.block_lt_of_cell? w _ Hy1.out)).trans Hy1.out; have hy2_ := (HS.out.below.cell (World.block_lt_of_cell? w _ Hy2.out)).trans Hy2.out; have hy3_ := (HS.out.below.cell (World.block_lt_of_cell? w _ Hy3.out)).trans Hy3.out; have HO := Aside0.mk hoR; clear hb hoR; obtain ⟨AL_, cL_, eL_⟩ := Kd.R_slice HO.out; (try simp only [List.length_cons, List.length_nil, Nat.zero_add, Nat.reduceAdd] at eL_); subst eL_) | ((with_reducible refine gate_dst (N := 42) rfl ?_); (try (refine gate_guard (by rfl) ?_; dsimp only)); refine Kd.R_lit (Kd.int .i64) _ 3 ?hg (N := 42) ?hd (xs := ([2, 3, 4, 7, 8] : List Int)) (inner := [.int .i64 2, .int .i64 3, .int .i64 4, .int .i64 7, .int .i64 8]) (ok := fun _ => True) (okp := fun _ => True) ?hr ?hp (fun _ hk => hk) trivial (Below.refl _ _) (Nat.le_refl _) (by simp) ?_; (case hd => rfl); (case hg => rfl); (case hr => first | (go_simp; done) | (go_simp; rfl)); (case hp => exact (Reps.one (show Kd.M (Kd.int .i64) _ _ _ 2 [.int .i64 2] from rfl) (Reps.one (show Kd.M (Kd.int .i64) _ _ _ 3 [.int .i64 3] from rfl) (Reps.one (show Kd.M (Kd.int .i64) _ _ _ 4 [.int .i64 4] from rfl) (Reps.one (show Kd.M (Kd.int .i64) _ _ _ 7 [.int .i64 7] from rfl) (Reps.one (show Kd.M (Kd.int .i64) _ _ _ 8 [.int .i64 8] from rfl) (Reps.none _ _))))))); intro v_ W_ hoR hb hg_ hnew_; clear hg_ hnew_; have HP := HS.out.call hb; clear HS; have HS := Aside0.mk HP; clear HP; have hy0_ := (HS.out.below.cell (World.block_lt_of_cell? w _ Hy0.out)).trans Hy0.out; have hy1_ := (HS.out.below.cell (World.block_lt_of_cell? w _ Hy1.out)).trans Hy1.out; have hy2_ := (HS.out.below.cell (World.block_lt_of_cell? w _ Hy2.out)).trans Hy2.out; have hy3_ := (HS.out.below.cell (World.block_lt_of_cell? w _ Hy3.out)).trans Hy3.out; have HO := Aside0.mk hoR; clear hb hoR; obtain ⟨AL_, cL_, eL_⟩ := Kd.R_slice HO.out; (try simp only [List.length_cons, List.length_nil, Nat.zero_add, Nat.reduceAdd] at eL_); subst eL_) | ((with_reducible refine gate_dst (N := 47) rfl ?_); (try (refine gate_guard (by rfl) ?_; dsimp only)); refine Kd.R_lit (Kd.int .i64) _ 3 ?hg (N := 47) ?hd (xs := ([2, 3] : List Int)) (inner := [.int .i64 2, .int .i64 3]) (ok := fun _ => True) (okp := fun _ => True) ?hr ?hp (fun _ hk => hk) trivial (Below.refl _ _) (Nat.le_refl _) (by simp) ?_; (case hd => rfl); (case hg => rfl); (case hr => first | (go_simp; done) | (go_simp; rfl)); (case hp => exact (Reps.one (show Kd.M (Kd.int .i64) _ _ _ 2 [.int .i64 2] from rfl) (Reps.one (show Kd.M (Kd.int .i64) _ _ _ 3 [.int .i64 3] from rfl) (Reps.none _ _)))); intro v_ W_ hoR hb hg_ hnew_; clear hg_ hnew_; have HP := HS.out.call hb; clear HS; have HS := Aside0.mk HP; clear HP; have hy0_ := (HS.out.below.cell (World.block_lt_of_cell? w _ Hy0.out)).trans Hy0.out; have hy1_ := (HS.out.below.cell (World.block_lt_of_cell? w _ Hy1.out)).trans Hy1.out; have hy2_ := (HS.out.below.cell (World.block_lt_of_cell? w _ Hy2.out)).trans Hy2.out; have hy3_ := (HS.out.below.cell (World.block_lt_of_cell? w _ Hy3.out)).trans Hy3.out; have HO := Aside0.mk hoR; clear hb hoR; obtain ⟨AL_, cL_, eL_⟩ := Kd.R_slice HO.out; (try simp only [List.length_cons, List.length_nil, Nat.zero_add, Nat.reduceAdd] at eL_); subst eL_) | ((with_reducible refine gate_dst (N := 53) rfl ?_); (try (refine gate_guard (by rfl) ?_; dsimp only)); refine Kd.R_lit (Kd.int .i64) _ 3 ?hg (N := 53) ?hd (xs := ([5] : List Int)) (inner := [.int .i64 5]) (ok := fun _ => True) (okp := fun _ => True) ?hr ?hp (fun _ hk => hk) trivial (Below.refl _ _) (Nat.le_refl _) (by simp) ?_; (case hd => rfl); (case hg => rfl); (case hr => first | (go_simp; done) | (go_simp; rfl)); (case hp => exact (Reps.one (show Kd.M (Kd.int .i64) _ _ _ 5 [.int .i64 5] from rfl) (Reps.none _ _))); intro v_ W_ hoR hb hg_ hnew_; clear hg_ hnew_; have HP := HS.out.call hb; clear HS; have HS := Aside0.mk HP; clear HP; have hy0_ := (HS.out.below.cell (World.block_lt_of_cell? w _ Hy0.out)).trans Hy0.out; have hy1_ := (HS.out.below.cell (World.block_lt_of_cell? w _ Hy1.out)).trans Hy1.out; have hy2_ := (HS.out.below.cell (World.block_lt_of_cell? w _ Hy2.out)).trans Hy2.out; have hy3_ := (HS.out.below.cell (World.block_lt_of_cell? w _ Hy3.out)).trans Hy3.out; have HO := Aside0.mk hoR; clear hb hoR; obtain ⟨AL_, cL_, eL_⟩ := Kd.R_slice HO.out; (try simp only [List.length_cons, List.length_nil, Nat.zero_add, Nat.reduceAdd] at eL_); subst eL_) | ((with_reducible refine gate_dst (N := 59) rfl ?_); (try (refine gate_guard (by rfl) ?_; dsimp only)); refine Kd.R_lit (Kd.int .i64) _ 3 ?hg (N := 59) ?hd (xs := ([4] : List Int)) (inner := [.int .i64 4]) (ok := fun _ => True) (okp := fun _ => True) ?hr ?hp (fun _ hk => hk) trivial (Below.refl _ _) (Nat.le_refl _) (by simp) ?_; (case hd => rfl); (case hg => rfl); (case hr => first | (go_simp; done) | (go_simp; rfl)); (case hp => exact (Reps.one (show Kd.M (Kd.int .i64) _ _ _ 4 [.int .i64 4] from rfl) (Reps.none _ _))); intro v_ W_ hoR hb hg_ hnew_; clear hg_ hnew_; have HP := HS.out.call hb; clear HS; have HS := Aside0.mk HP; clear HP; have hy0_ := (HS.out.below.cell (World.block_lt_of_cell? w _ Hy0.out)).trans Hy0.out; have hy1_ := (HS.out.below.cell (World.block_lt_of_cell? w _ Hy1.out)).trans Hy1.out; have hy2_ := (HS.out.below.cell (World.block_lt_of_cell? w _ Hy2.out)).trans Hy2.out; have hy3_ := (HS.out.below.cell (World.block_lt_of_cell? w _ Hy3.out)).trans Hy3.out; have HO := Aside0.mk hoR; clear hb hoR; obtain ⟨AL_, cL_, eL_⟩ := Kd.R_slice HO.out; (try simp only [List.length_cons, List.length_nil, Nat.zero_add, Nat.reduceAdd] at eL_); subst eL_) | ((with_reducible refine gate_dst (N := 66) rfl ?_); (try (refine gate_guard (by rfl) ?_; dsimp only)); refine Kd.R_lit (Kd.int .i64) _ 3 ?hg (N := 66) ?hd (xs := ([7] : List Int)) (inner := [.int .i64 7]) (ok := fun _ => True) (okp := fun _ => True) ?hr ?hp (fun _ hk => hk) trivial (Below.refl _ _) (Nat.le_refl _) (by simp) ?_; (case hd => rfl); (case hg => rfl); (case hr => first | (go_simp; done) | (go_simp; rfl)); (case hp => exact (Reps.one (show Kd.M (Kd.int .i64) _ _ _ 7 [.int .i64 7] from rfl) (Reps.none _ _))); intro v_ W_ hoR hb hg_ hnew_; clear hg_ hnew_; have HP := HS.out.call hb; clear HS; have HS := Aside0.mk HP; clear HP; have hy0_ := (HS.out.below.cell (World.block_lt_of_cell? w _ Hy0.out)).trans Hy0.out; have hy1_ := (HS.out.below.cell (World.block_lt_of_cell? w _ Hy1.out)).trans Hy1.out; have hy2_ := (HS.out.below.cell (World.block_lt_of_cell? w _ Hy2.out)).trans Hy2.out; have hy3_ := (HS.out.below.cell (World.block_lt_of_cell? w _ Hy3.out)).trans Hy3.out; have HO := Aside0.mk hoR; clear hb hoR; obtain ⟨AL_, cL_, eL_⟩ := Kd.R_slice HO.out; (try simp only [List.length_cons, List.length_nil, Nat.zero_add, Nat.reduceAdd] at eL_); subst eL_) | ((with_reducible refine gate_dst (N := 75) rfl ?_); (try (refine gate_guard (by rfl) ?_; dsimp only)); refine Kd.R_lit (Kd.int .i64) _ 3 ?hg (N := 75) ?hd (xs := ([8] : List Int)) (inner := [.int .i64 8]) (ok := fun _ => True) (okp := fun _ => True) ?hr ?hp (fun _ hk => hk) trivial (Below.refl _ _) (Nat.le_refl _) (by simp) ?_; (case hd => rfl); (case hg => rfl); (case hr => first | (go_simp; done) | (go_simp; rfl)); (case hp => exact (Reps.one (show Kd.M (Kd.int .i64) _ _ _ 8 [.int .i64 8] from rfl) (Reps.none _ _))); intro v_ W_ hoR hb hg_ hnew_; clear hg_ hnew_; have HP := HS.out.call hb; clear HS; have HS := Aside0.mk HP; clear HP; have hy0_ := (HS.out.below.cell (World.block_lt_of_cell? w _ Hy0.out)).trans Hy0.out; have hy1_ := (HS.out.below.cell (World.block_lt_of_cell? w _ Hy1.out)).trans Hy1.out; have hy2_ := (HS.out.below.cell (World.block_lt_of_cell? w _ Hy2.out)).trans Hy2.out; have hy3_ := (HS.out.below.cell (World.block_lt_of_cell? w _ Hy3.out)).trans Hy3.out; have HO := Aside0.mk hoR; clear hb hoR; obtain ⟨AL_, cL_, eL_⟩ := Kd.R_slice HO.out; (try simp only [List.length_cons, List.length_nil, Nat.zero_add, Nat.reduceAdd] at eL_); subst eL_) | ((with_reducible refine gate_dst (N := 84) rfl ?_); (try (refine gate_guard (by rfl) ?_; dsimp only)); refine Kd.R_lit (Kd.int .i64) _ 3 ?hg (N := 84) ?hd (xs := ([9] : List Int)) (inner := [.int .i64 9]) (ok := fun _ => True) (okp := fun _ => True) ?hr ?hp (fun _ hk => hk) trivial (Below.refl _ _) (Nat.le_refl _) (by simp) ?_; (case hd => rfl); (case hg => rfl); (case hr => first | (go_simp; done) | (go_simp; rfl)); (case hp => exact (Reps.one (show Kd.M (Kd.int .i64) _ _ _ 9 [.int .i64 9] from rfl) (Reps.none _ _))); intro v_ W_ hoR hb hg_ hnew_; clear hg_ hnew_; have HP := HS.out.call hb; clear HS; have HS := Aside0.mk HP; clear HP; have hy0_ := (HS.out.below.cell (World.block_lt_of_cell? w _ Hy0.out)).trans Hy0.out; have hy1_ := (HS.out.below.cell (World.block_lt_of_cell? w _ Hy1.out)).trans Hy1.out; have hy2_ := (HS.out.below.cell (World.block_lt_of_cell? w _ Hy2.out)).trans Hy2.out; have hy3_ := (HS.out.below.cell (World.block_lt_of_cell? w _ Hy3.out)).trans Hy3.out; have HO := Aside0.mk hoR; clear hb hoR; obtain ⟨AL_, cL_, eL_⟩ := Kd.R_slice HO.out; (try simp only [List.length_cons, List.length_nil, Nat.zero_add, Nat.reduceAdd] at eL_); subst eL_) | ((with_reducible refine gate_dst (N := 93) rfl ?_); (try (refine gate_guard (by rfl) ?_; dsimp only)); refine Kd.R_lit (Kd.int .i64) _ 3 ?hg (N := 93) ?hd (xs := ([10] : List Int)) (inner := [.int .i64 10]) (ok := fun _ => True) (okp := fun _ => True) ?hr ?hp (fun _ hk => hk) trivial (Below.refl _ _) (Nat.le_refl _) (by simp) ?_; (case hd => rfl); (case hg => rfl); (case hr => first | (go_simp; done) | (go_simp; rfl)); (case hp => exact (Reps.one (show Kd.M (Kd.int .i64) _ _ _ 10 [.int .i64 10] from rfl) (Reps.none _ _))); intro v_ W_ hoR hb hg_ hnew_; clear hg_ hnew_; have HP := HS.out.call hb; clear HS; have HS := Aside0.mk HP; clear HP; have hy0_ := (HS.out.below.cell (World.block_lt_of_cell? w _ Hy0.out)).trans Hy0.out; have hy1_ := (HS.out.below.cell (World.block_lt_of_cell? w _ Hy1.out)).trans Hy1.out; have hy2_ := (HS.out.below.cell (World.block_lt_of_cell? w _ Hy2.out)).trans Hy2.out; have hy3_ := (HS.out.below.cell (World.block_lt_of_cell? w _ Hy3.out)).trans Hy3.out; have HO := Aside0.mk hoR; clear hb hoR; obtain ⟨AL_, cL_, eL_⟩ := Kd.R_slice HO.out; (try simp only [List.length_cons, List.length_nil, Nat.zero_add, Nat.reduceAdd] at eL_); subst eL_) | ((with_reducible refine gate_dst (N := 104) rfl ?_); (try (refine gate_guard (by rfl) ?_; dsimp only)); refine Kd.R_lit (Kd.int .i64) _ 3 ?hg (N := 104) ?hd (xs := ([9] : List Int)) (inner := [.int .i64 9]) (ok := fun _ => True) (okp := fun _ => True) ?hr ?hp (fun _ hk => hk) trivial (Below.refl _ _) (Nat.le_refl _) (by simp) ?_; (case hd => rfl); (case hg => rfl); (case hr => first | (go_simp; done) | (go_simp; rfl)); (case hp => exact (Reps.one (show Kd.M (Kd.int .i64) _ _ _ 9 [.int .i64 9] from rfl) (Reps.none _ _))); intro v_ W_ hoR hb hg_ hnew_; clear hg_ hnew_; have HP := HS.out.call hb; clear HS; have HS := Aside0.mk HP; clear HP; have hy0_ := (HS.out.below.cell (World.block_lt_of_cell? w _ Hy0.out)).trans Hy0.out; have hy1_ := (HS.out.below.cell (World.block_lt_of_cell? w _ Hy1.out)).trans Hy1.out; have hy2_ := (HS.out.below.cell (World.block_lt_of_cell? w _ Hy2.out)).trans Hy2.out; have hy3_ := (HS.out.below.cell (World.block_lt_of_cell? w _ Hy3.out)).trans Hy3.out; have HO := Aside0.mk hoR; clear hb hoR; obtain ⟨AL_, cL_, eL_⟩ := Kd.R_slice HO.out; (try simp only [List.length_cons, List.length_nil, Nat.zero_add, Nat.reduceAdd] at eL_); subst eL_) | ((with_reducible refine gate_dst (N := 113) rfl ?_); (try (refine gate_guard (by rfl) ?_; dsimp only)); refine Kd.R_lit (Kd.int .i64) _ 3 ?hg (N := 113) ?hd (xs := ([9] : List Int)) (inner := [.int .i64 9]) (ok := fun _ => True) (okp := fun _ => True) ?hr ?hp (fun _ hk => hk) trivial (Below.refl _ _) (Nat.le_refl _) (by simp) ?_; (case hd => rfl); (case hg => rfl); (case hr => first | (go_simp; done) | (go_simp; rfl)); (case hp => exact (Reps.one (show Kd.M (Kd.int .i64) _ _ _ 9 [.int .i64 9] from rfl) (Reps.none _ _))); intro v_ W_ hoR hb hg_ hnew_; clear hg_ hnew_; have HP := HS.out.call hb; clear HS; have HS := Aside0.mk HP; clear HP; have hy0_ := (HS.out.below.cell (World.block_lt_of_cell? w _ Hy0.out)).trans Hy0.out; have hy1_ := (HS.out.below.cell (World.block_lt_of_cell? w _ Hy1.out)).trans Hy1.out; have hy2_ := (HS.out.below.cell (World.block_lt_of_cell? w _ Hy2.out)).trans Hy2.out; have hy3_ := (HS.out.below.cell (World.block_lt_of_cell? w _ Hy3.out)).trans Hy3.out; have HO := Aside0.mk hoR; clear hb hoR; obtain ⟨AL_, cL_, eL_⟩ := Kd.R_slice HO.out; (try simp only [List.length_cons, List.length_nil, Nat.zero_add, Nat.reduceAdd] at eL_); subst eL_) | ((with_reducible refine gate_dst (N := 121) rfl ?_); (try (refine gate_guard (by rfl) ?_; dsimp only)); refine Kd.R_lit (Kd.int .i64) _ 3 ?hg (N := 121) ?hd (xs := ([10] : List Int)) (inner := [.int .i64 10]) (ok := fun _ => True) (okp := fun _ => True) ?hr ?hp (fun _ hk => hk) trivial (Below.refl _ _) (Nat.le_refl _) (by simp) ?_; (case hd => rfl); (case hg => rfl); (case hr => first | (go_simp; done) | (go_simp; rfl)); (case hp => exact (Reps.one (show Kd.M (Kd.int .i64) _ _ _ 10 [.int .i64 10] from rfl) (Reps.none _ _))); intro v_ W_ hoR hb hg_ hnew_; clear hg_ hnew_; have HP := HS.out.call hb; clear HS; have HS := Aside0.mk HP; clear HP; have hy0_ := (HS.out.below.cell (World.block_lt_of_cell? w _ Hy0.out)).trans Hy0.out; have hy1_ := (HS.out.below.cell (World.block_lt_of_cell? w _ Hy1.out)).trans Hy1.out; have hy2_ := (HS.out.below.cell (World.block_lt_of_cell? w _ Hy2.out)).trans Hy2.out; have hy3_ := (HS.out.below.cell (World.block_lt_of_cell? w _ Hy3.out)).trans Hy3.out; have HO := Aside0.mk hoR; clear hb hoR; obtain ⟨AL_, cL_, eL_⟩ := Kd.R_slice HO.out; (try simp only [List.length_cons, List.length_nil, Nat.zero_add, Nat.reduceAdd] at eL_); subst eL_) | ((with_reducible first | refine gate_dst (N := 33) rfl ?_ | refine gate_dst (N := 48) rfl ?_); (try (refine gate_guard (by rfl) ?_; dsimp only)); refine call_ev HS.out rfl rfl Tryd.func47 (by kernel_rfl) rfl (iK _ [2, 3] _ (kd_eq _ [2, 3] 2 3 (fun a => by simp)) (by decide) _ _ _ rfl _ (HT.out.below HS.out.below) HO.out) (by (try simp only [List.map_toArray, List.map_cons, List.map_nil]); first | done | rfl) ?_; rintro v_ W_ rfl HP HB_) | ((with_reducible refine gate_dst (N := 38) rfl ?_); (try (refine gate_guard (by rfl) ?_; dsimp only)); refine call_ev HS.out rfl rfl Tryd.func47 (by kernel_rfl) rfl (iK _ [2, 3, 4] _ (kd3 _) (by decide) _ _ _ rfl _ (HT.out.below HS.out.below) HO.out) (by (try simp only [List.map_toArray, List.map_cons, List.map_nil]); first | done | rfl) ?_; rintro v_ W_ rfl HP HB_) | ((with_reducible refine gate_dst (N := 43) rfl ?_); (try (refine gate_guard (by rfl) ?_; dsimp only)); refine call_ev HS.out rfl rfl Tryd.func47 (by kernel_rfl) rfl (iK _ [2, 3, 4, 7, 8] _ (kd5 _) (by decide) _ _ _ rfl _ (HT.out.below HS.out.below) HO.out) (by (try simp only [List.map_toArray, List.map_cons, List.map_nil]); first | done | rfl) ?_; rintro v_ W_ rfl HP HB_) | ((with_reducible refine gate_dst (N := 54) rfl ?_); (try (refine gate_guard (by rfl) ?_; dsimp only)); refine call_ev HS.out rfl rfl Tryd.func47 (by kernel_rfl) rfl (iK _ [5] _ (kd_eq _ [5] 5 5 (fun a => by simp)) (by decide) _ _ _ rfl _ (HT.out.below HS.out.below) HO.out) (by (try simp only [List.map_toArray, List.map_cons, List.map_nil]); first | done | rfl) ?_; rintro v_ W_ rfl HP HB_) | ((with_reducible refine gate_dst (N := 60) rfl ?_); (try (refine gate_guard (by rfl) ?_; dsimp only)); refine call_ev HS.out rfl rfl Tryd.func47 (by kernel_rfl) rfl (iK _ [4] _ (kd_eq _ [4] 4 4 (fun a => by simp)) (by decide) _ _ _ rfl _ (HT.out.below HS.out.below) HO.out) (by (try simp only [List.map_toArray, List.map_cons, List.map_nil]); first | done | rfl) ?_; rintro v_ W_ rfl HP HB_) | ((with_reducible refine gate_dst (N := 67) rfl ?_); (try (refine gate_guard (by rfl) ?_; dsimp only)); refine call_ev HS.out rfl rfl Tryd.func47 (by kernel_rfl) rfl (iK _ [7] _ (kd_eq _ [7] 7 7 (fun a => by simp)) (by decide) _ _ _ rfl _ (HT.out.below HS.out.below) HO.out) (by (try simp only [List.map_toArray, List.map_cons, List.map_nil]); first | done | rfl) ?_; rintro v_ W_ rfl HP HB_) | ((with_reducible refine gate_dst (N := 76) rfl ?_); (try (refine gate_guard (by rfl) ?_; dsimp only)); refine call_ev HS.out rfl rfl Tryd.func47 (by kernel_rfl) rfl (iK _ [8] _ (kd_eq _ [8] 8 8 (fun a => by simp)) (by decide) _ _ _ rfl _ (HT.out.below HS.out.below) HO.out) (by (try simp only [List.map_toArray, List.map_cons, List.map_nil]); first | done | rfl) ?_; rintro v_ W_ rfl HP HB_) | ((with_reducible first | refine gate_dst (N := 85) rfl ?_ | refine gate_dst (N := 105) rfl ?_ | refine gate_dst (N := 114) rfl ?_); (try (refine gate_guard (by rfl) ?_; dsimp only)); refine call_ev HS.out rfl rfl Tryd.func47 (by kernel_rfl) rfl (iK _ [9] _ (kd_eq _ [9] 9 9 (fun a => by simp)) (by decide) _ _ _ rfl _ (HT.out.below HS.out.below) HO.out) (by (try simp only [List.map_toArray, List.map_cons, List.map_nil]); first | done | rfl) ?_; rintro v_ W_ rfl HP HB_) | ((with_reducible first | refine gate_dst (N := 88) rfl ?_ | refine gate_dst (N := 117) rfl ?_); (try (refine gate_guard (by rfl) ?_; dsimp only)); refine call_ev HS.out rfl rfl Tryd.func49 (by kernel_rfl) rfl (iAW [y, z] (by simp) _ _ _ rfl _ (HT.out.below HS.out.below) (Kd.C_below hCr.out HS.out.below) hcr.out) (by (try simp only [List.map_toArray, List.map_cons, List.map_nil]); first | done | rfl) ?_; rintro v_ W_ rfl HP HB_) | ((with_reducible first | refine gate_dst (N := 94) rfl ?_ | refine gate_dst (N := 122) rfl ?_); (try (refine gate_guard (by rfl) ?_; dsimp only)); refine call_ev HS.out rfl rfl Tryd.func47 (by kernel_rfl) rfl (iK _ [10] _ (kd_eq _ [10] 10 10 (fun a => by simp)) (by decide) _ _ _ rfl _ (HT.out.below HS.out.below) HO.out) (by (try simp only [List.map_toArray, List.map_cons, List.map_nil]); first | done | rfl) ?_; rintro v_ W_ rfl HP HB_) | ((with_reducible refine gate_dst (N := 99) rfl ?_); (try (refine gate_guard (by rfl) ?_; dsimp only)); refine call_ev HS.out rfl rfl Tryd.func50 (by kernel_rfl) rfl (iW _ _ (HT.out.below HS.out.below)) (by (try simp only [List.map_toArray, List.map_cons, List.map_nil]); first | done | rfl) ?_; rintro v_ W_ rfl HP HB_) | ((with_reducible refine gate_dst (N := 110) rfl ?_); (try (refine gate_guard (by rfl) ?_; dsimp only)); refine call_ev HS.out rfl rfl Tryd.func56 (by kernel_rfl) rfl (iR _ _ (HT.out.below HS.out.below)) (by (try simp only [List.map_toArray, List.map_cons, List.map_nil]); first | done | rfl) ?_; rintro v_ W_ rfl HP HB_) | ((with_reducible refine gate_dst (N := 125) rfl ?_); (try (refine gate_guard (by rfl) ?_; dsimp only)); refine call_ev HS.out rfl rfl Tryd.func49 (by kernel_rfl) rfl (iAR [y, z] (by simp) _ _ _ rfl _ (HT.out.below HS.out.below) (Kd.C_below hCr.out HS.out.below) hcr.out) (by (try simp only [List.map_toArray, List.map_cons, List.map_nil]); first | done | rfl) ?_; rintro v_ W_ rfl HP HB_)); (try (clear HS; have HS := Aside0.mk HP; clear HP; have hy0_ := (HS.out.below.cell (World.block_lt_of_cell? w _ Hy0.out)).trans Hy0.out; have hy1_ := (HS.out.below.cell (World.block_lt_of_cell? w _ Hy1.out)).trans Hy1.out; have hy2_ := (HS.out.below.cell (World.block_lt_of_cell? w _ Hy2.out)).trans Hy2.out; have hy3_ := (HS.out.below.cell (World.block_lt_of_cell? w _ Hy3.out)).trans Hy3.out; (try clear HB_); (try simp only [List.set_cons_zero, List.set_cons_succ] at HS))); (try simp only [Act.put, List.setIfInBounds_toArray, List.set_cons_zero, List.set_cons_succ]); (try simp only [e0_]); (try simp only [e1_]); (try simp only [e2_]))
  go_ret
  exact ⟨by first | rfl | (simp [coil]; done) | (simp [coil, e0_]; done) | (simp [coil, e0_, e1_]; done) | (simp [coil, e0_, e1_, e2_]; done) | (simp [coil, reck]; done) | (simp [coil, reck, e0_]; done) | (simp [coil, reck, e0_, e1_]; done) | (simp [coil, reck, e0_, e1_, e2_]; done) | (simp only [coil, reck]; rw [e0_]; simp; done) | (simp only [coil, reck]; rw [e0_, e1_]; simp; done) | (simp only [coil, reck]; rw [e0_, e2_]; simp; done) | (simp only [coil, reck]; rw [e0_, e1_, e2_]; simp; done) | (simp [coil, reck, e0_, e2_]; done) | (simp only [coil]; simp [*]; done), HS.out.below⟩

end Go.Proofs.YtkmfdlcmdgdepaaDoor.U
