/- Functions of this seat as Lean functions, and that the Go code comes to their answers: laid by a program (the kit's printer over all laws of the seat at once, some walks turned by the session's own fix.py). -/
import Derived.Test.YtkmfdlcmdgdepaaDoorUzTab
import Derived.Test.YtkmfdlcmdgdepaaDoorUx0
import Derived.Test.YtkmfdlcmdgdepaaDoorUx15
namespace Go.Proofs.YtkmfdlcmdgdepaaDoor.U
open Go.RowKit Go.Proofs.YtkmfdlcmdgdepaaDoorW.PrintWords Go.Proofs.YtkmfdlcmdgdepaaDoorW.PrintLast Go.Proofs.YtkmfdlcmdgdepaaDoorW.PrintMore
attribute [local go_sem] max2_int min2_int max_two min_two max_three min_three max_four min_four   -- for this text's walks alone
set_option linter.unusedVariables false
set_option linter.unusedSimpArgs false

/-! ### impl_ElemIsCoil_1: function 55 -/
def impl_ElemIsCoil_1.f (k : Nat) (l0 : List (S55)) : Option (Bool) := if 0 < (l0.length : Int) then ((impl_DevArg_kindIs.f k ((rd_T55 l0 0).f0) ((rd_T55 l0 0).f1) ((rd_T55 l0 0).f2) (([11] : List Int))).bind fun t311 => (if t311 = true then (some (decide (((rd_T55 l0 0).f1) ≥ 0))) else (some false))) else (none)
set_option maxHeartbeats 8000000 in
set_option maxRecDepth 100000 in
theorem impl_ElemIsCoil_1.calls (k : Nat) (A0 : Option Addr) (c0 : Nat) (l0 : List (S55)) (r : Bool) (w : World) (ht : TB.Tab w) (gb : Nat) (hbx : w.cell? ⟨gb, 0, none⟩ = some (.slice A0 l0.length c0)) (hr0 : Kd.C k55 w A0 l0.length l0) (hc0 : l0.length ≤ c0) (h : impl_ElemIsCoil_1.f k l0 = some r) :
  Calls Tryd.prog 55 #[.pointer (some ⟨gb, 0, none⟩)] w fun e w' => e = .returned (.bool r) ∧ Below w.heap.size w w' := by
 have HT := Aside0.mk ht
 clear ht
 have HBX := Aside0.mk hbx
 have hu55 := Tryd.underlying55
 have HR0 := Aside0.mk hr0
 have HC0 := Aside0.mk hc0
 clear hr0 hc0
 have HB := Aside0.mk (Below.refl w.heap.size w)
 have H : (if 0 < (l0.length : Int) then ((impl_DevArg_kindIs.f k ((rd_T55 l0 0).f0) ((rd_T55 l0 0).f1) ((rd_T55 l0 0).f2) (([11] : List Int))).bind fun t311 => (if t311 = true then (some (decide (((rd_T55 l0 0).f1) ≥ 0))) else (some false))) else (none)) = some r := h
 clear h
 by_cases c2 : 0 < (l0.length : Int)
 ·rw [if_pos c2] at H
  have c2b0 : decide (0 < (l0.length : Int)) = true := decide_eq_true c2
  have c2b1 : decide (0 < l0.length) = true := decide_eq_true (by omega)
  clear c2
  obtain ⟨y308, hy308⟩ : ∃ y_ : List Int, y_ = (([11] : List Int)) := ⟨_, rfl⟩
  replace H : ((impl_DevArg_kindIs.f k ((rd_T55 l0 0).f0) ((rd_T55 l0 0).f1) ((rd_T55 l0 0).f2) y308).bind fun t311 => (if t311 = true then (some (decide (((rd_T55 l0 0).f1) ≥ 0))) else (some false))) = some r := by first | (rw [hy308]; with_reducible exact H) | (have H2_ := (Option.bind_some _ _).symm.trans H; rw [hy308]; with_reducible exact H2_) | (have H2_ := (Option.bind_some _ _).symm.trans H; with_reducible exact H2_) | with_reducible exact H | (rw [hy308]; exact H) | exact H
  have Ny308 := Aside0.mk hy308
  clear hy308
  replace H := Option.bind_eq_some_iff.mp H
  obtain ⟨t311, A30, H⟩ := H
  replace H : (if t311 = true then (some (decide (((rd_T55 l0 0).f1) ≥ 0))) else (some false)) = some r := H
  have A3 := Aside0.mk A30
  clear A30
  by_cases c4 : t311 = true
  ·subst c4
   have H1 : (some (decide (((rd_T55 l0 0).f1) ≥ 0))) = some r := by rw [if_pos rfl] at H; exact H
   clear H
   have H := H1
   clear H1
   obtain rfl := Option.some.inj H
   have p307 : 0 ≤ (0 : Int) := (by omega)
   have q307 : 0 < (l0.length : Int) := of_decide_eq_true (by first | (with_reducible assumption) | assumption)
   obtain ⟨ad307, e307, hx307_0, hx307_1, hx307_2⟩ := at_T55 HR0.out 0 p307 q307
   cases e307
   have qi307 : (0 < l0.length) = True := eq_true (by omega)
   (try rw [show ((0 : Int)).toNat = 0 from rfl] at hx307_0)
   (try rw [show 0 * 3 = 0 from rfl] at hx307_0)
   (try rw [Addr.add_zero'] at hx307_0)
   (try rw [show ((0 : Int)).toNat = 0 from rfl] at hx307_1)
   (try rw [show 0 * 3 = 0 from rfl] at hx307_1)
   (try rw [Addr.add_zero'] at hx307_1)
   (try rw [show ((0 : Int)).toNat = 0 from rfl] at hx307_2)
   (try rw [show 0 * 3 = 0 from rfl] at hx307_2)
   (try rw [Addr.add_zero'] at hx307_2)
   replace p307 := eq_true p307
   replace q307 := eq_true q307
   go_enter Tryd.func55, Tryd.ntmps55
   go_wp2_with (first | ((with_reducible refine gate_dst (N := 5) rfl ?_); refine Kd.R_lit (Kd.int .i64) _ 3 ?hg (N := 5) ?hd (xs := ([11] : List Int)) (inner := [.int .i64 11]) (ok := fun _ => True) (okp := fun _ => True) ?hr ?hp (fun _ hk => hk) trivial (Below.refl _ _) (Nat.le_refl _) (by simp) ?_; (case hd => rfl); (case hg => rfl); (case hr => first | (go_simp; done) | (go_simp; rfl)); (case hp => exact (Reps.one (show Kd.M (Kd.int .i64) _ _ _ 11 [.int .i64 11] from rfl) (Reps.none _ _))); intro v309 w5 ho6 hb hg_ hnew_; clear hg_ hnew_; (first | rw [← Ny308.out] at ho6 | (simp only [Int.reduceToNat] at ho6; rw [← Ny308.out] at ho6)); have n0_ := Aside0.mk (Kd.R_lower ho6 (below_size (by with_reducible repeat first | exact HB.out | apply bA | apply bN | apply bD))); have n1_ := Aside0.mk (below_step (by with_reducible repeat first | exact HB.out | apply bA | apply bN | apply bD) hb); clear HB; have HO310 := n0_; have HB := n1_; clear n0_ n1_; clear hb ho6; obtain ⟨Ao7, co7, eo7⟩ := Kd.R_slice HO310.out; subst eo7; (try have hbx2 := (HB.out.cell (World.block_lt_of_cell? w _ HBX.out)).trans HBX.out)) | ((with_reducible refine gate_callee (f := 47) rfl ?_); refine goesL_ (some 6) rfl rfl Tryd.func47 (by kernel_rfl) rfl #[.agg #[.int .i64 ((rd_T55 l0 0).f0), .int .i64 ((rd_T55 l0 0).f1), .int .i64 ((rd_T55 l0 0).f2)], .slice Ao7 y308.length co7] rfl (by (try simp only [List.map_toArray, List.map_cons, List.map_nil]); first | done | rfl | (simp only [List.length_drop, List.length_take]; rfl)) ?_; (with_reducible refine (impl_DevArg_kindIs.calls k ((rd_T55 l0 0).f0) ((rd_T55 l0 0).f1) ((rd_T55 l0 0).f2) _ _ y308 true _ ?sideT ?side1 ?side2 A3.out).mono ?_); (case sideT => exact TB.Tab.below HT.out (by with_reducible repeat first | exact HB.out | apply bA | apply bN | apply bD)); (case side1 => repeat (first | exact (Kd.R_reads' HO310.out).2.2 | (with_reducible refine Kd.C_alloc ?_ _) | (with_reducible refine Kd.C_drewN ?_ _) | (with_reducible refine Kd.C_drew ?_))); (case side2 => exact (Kd.R_reads' HO310.out).2.1); rintro e w8 ⟨rfl, hb⟩; refine ⟨_, rfl, ?_⟩; have n0_ := Aside0.mk (Kd.R_below (by (with_reducible repeat (first | apply Kd.R_alloc | apply Kd.R_drewN | apply Kd.R_drew)); exact HO310.out) hb); have n1_ := Aside0.mk (below_step (by with_reducible repeat first | exact HB.out | apply bA | apply bN | apply bD) hb); clear HO310; clear HB; have HO310 := n0_; have HB := n1_; clear n0_ n1_; (try clear hb); (try clear hb2); (try clear hk); (try clear hi); have p312 : 0 ≤ (0 : Int) := (by omega); have q312 : 0 < (l0.length : Int) := of_decide_eq_true (by first | (with_reducible assumption) | assumption); obtain ⟨ad312, e312, hx312_0, hx312_1, hx312_2⟩ := at_T55 HR0.out 0 p312 q312; obtain rfl : ad307 = ad312 := (by injection e312); have qi312 : (0 < l0.length) = True := eq_true (by omega); (try rw [show ((0 : Int)).toNat = 0 from rfl] at hx312_0); (try rw [show 0 * 3 = 0 from rfl] at hx312_0); (try rw [Addr.add_zero'] at hx312_0); (try rw [show ((0 : Int)).toNat = 0 from rfl] at hx312_1); (try rw [show 0 * 3 = 0 from rfl] at hx312_1); (try rw [Addr.add_zero'] at hx312_1); (try rw [show ((0 : Int)).toNat = 0 from rfl] at hx312_2); (try rw [show 0 * 3 = 0 from rfl] at hx312_2); (try rw [Addr.add_zero'] at hx312_2); replace hx312_0 := (HB.out.cell (World.block_lt_of_cell? w _ hx312_0)).trans hx312_0; replace hx312_1 := (HB.out.cell (World.block_lt_of_cell? w _ hx312_1)).trans hx312_1; replace hx312_2 := (HB.out.cell (World.block_lt_of_cell? w _ hx312_2)).trans hx312_2; replace p312 := eq_true p312; replace q312 := eq_true q312; (try have hbx2 := (HB.out.cell (World.block_lt_of_cell? w _ HBX.out)).trans HBX.out)))
   go_ret
   exact ⟨by first | rfl | (simp [errW_none, errW_some] <;> rfl) | (simp [*, errW_none, errW_some] <;> rfl), by repeat (first | (with_reducible first | exact HB.out | apply below_alloc | apply pw_below_drewN | apply below_drew1) | exact HB.out)⟩
  ·replace c4 := Bool.eq_false_iff.mpr c4
   subst c4
   have H1 : (some false) = some r := by rw [if_neg (show ¬ (false = true) by decide)] at H; exact H
   clear H
   have H := H1
   clear H1
   obtain rfl := Option.some.inj H
   have p307 : 0 ≤ (0 : Int) := (by omega)
   have q307 : 0 < (l0.length : Int) := of_decide_eq_true (by first | (with_reducible assumption) | assumption)
   obtain ⟨ad307, e307, hx307_0, hx307_1, hx307_2⟩ := at_T55 HR0.out 0 p307 q307
   cases e307
   have qi307 : (0 < l0.length) = True := eq_true (by omega)
   (try rw [show ((0 : Int)).toNat = 0 from rfl] at hx307_0)
   (try rw [show 0 * 3 = 0 from rfl] at hx307_0)
   (try rw [Addr.add_zero'] at hx307_0)
   (try rw [show ((0 : Int)).toNat = 0 from rfl] at hx307_1)
   (try rw [show 0 * 3 = 0 from rfl] at hx307_1)
   (try rw [Addr.add_zero'] at hx307_1)
   (try rw [show ((0 : Int)).toNat = 0 from rfl] at hx307_2)
   (try rw [show 0 * 3 = 0 from rfl] at hx307_2)
   (try rw [Addr.add_zero'] at hx307_2)
   replace p307 := eq_true p307
   replace q307 := eq_true q307
   go_enter Tryd.func55, Tryd.ntmps55
   go_wp2_with (first | ((with_reducible refine gate_dst (N := 5) rfl ?_); refine Kd.R_lit (Kd.int .i64) _ 3 ?hg (N := 5) ?hd (xs := ([11] : List Int)) (inner := [.int .i64 11]) (ok := fun _ => True) (okp := fun _ => True) ?hr ?hp (fun _ hk => hk) trivial (Below.refl _ _) (Nat.le_refl _) (by simp) ?_; (case hd => rfl); (case hg => rfl); (case hr => first | (go_simp; done) | (go_simp; rfl)); (case hp => exact (Reps.one (show Kd.M (Kd.int .i64) _ _ _ 11 [.int .i64 11] from rfl) (Reps.none _ _))); intro v309 w9 ho10 hb hg_ hnew_; clear hg_ hnew_; (first | rw [← Ny308.out] at ho10 | (simp only [Int.reduceToNat] at ho10; rw [← Ny308.out] at ho10)); have n0_ := Aside0.mk (Kd.R_lower ho10 (below_size (by with_reducible repeat first | exact HB.out | apply bA | apply bN | apply bD))); have n1_ := Aside0.mk (below_step (by with_reducible repeat first | exact HB.out | apply bA | apply bN | apply bD) hb); clear HB; have HO310 := n0_; have HB := n1_; clear n0_ n1_; clear hb ho10; obtain ⟨Ao11, co11, eo11⟩ := Kd.R_slice HO310.out; subst eo11; (try have hbx2 := (HB.out.cell (World.block_lt_of_cell? w _ HBX.out)).trans HBX.out)) | ((with_reducible refine gate_callee (f := 47) rfl ?_); refine goesL_ (some 6) rfl rfl Tryd.func47 (by kernel_rfl) rfl #[.agg #[.int .i64 ((rd_T55 l0 0).f0), .int .i64 ((rd_T55 l0 0).f1), .int .i64 ((rd_T55 l0 0).f2)], .slice Ao11 y308.length co11] rfl (by (try simp only [List.map_toArray, List.map_cons, List.map_nil]); first | done | rfl | (simp only [List.length_drop, List.length_take]; rfl)) ?_; (with_reducible refine (impl_DevArg_kindIs.calls k ((rd_T55 l0 0).f0) ((rd_T55 l0 0).f1) ((rd_T55 l0 0).f2) _ _ y308 false _ ?sideT ?side1 ?side2 A3.out).mono ?_); (case sideT => exact TB.Tab.below HT.out (by with_reducible repeat first | exact HB.out | apply bA | apply bN | apply bD)); (case side1 => repeat (first | exact (Kd.R_reads' HO310.out).2.2 | (with_reducible refine Kd.C_alloc ?_ _) | (with_reducible refine Kd.C_drewN ?_ _) | (with_reducible refine Kd.C_drew ?_))); (case side2 => exact (Kd.R_reads' HO310.out).2.1); rintro e w12 ⟨rfl, hb⟩; refine ⟨_, rfl, ?_⟩; have n0_ := Aside0.mk (Kd.R_below (by (with_reducible repeat (first | apply Kd.R_alloc | apply Kd.R_drewN | apply Kd.R_drew)); exact HO310.out) hb); have n1_ := Aside0.mk (below_step (by with_reducible repeat first | exact HB.out | apply bA | apply bN | apply bD) hb); clear HO310; clear HB; have HO310 := n0_; have HB := n1_; clear n0_ n1_; (try clear hb); (try clear hb2); (try clear hk); (try clear hi); (try have hbx2 := (HB.out.cell (World.block_lt_of_cell? w _ HBX.out)).trans HBX.out)))
   go_ret
   exact ⟨by first | rfl | (simp [errW_none, errW_some] <;> rfl) | (simp [*, errW_none, errW_some] <;> rfl), by repeat (first | (with_reducible first | exact HB.out | apply below_alloc | apply pw_below_drewN | apply below_drew1) | exact HB.out)⟩
 ·rw [if_neg c2] at H
  exact absurd H (by simp)

end Go.Proofs.YtkmfdlcmdgdepaaDoor.U
