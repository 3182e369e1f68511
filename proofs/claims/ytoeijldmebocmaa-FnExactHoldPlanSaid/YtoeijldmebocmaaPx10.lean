/- Functions of this seat as Lean functions, and that the Go code comes to their answers: laid by a program (the kit's printer over all laws of the seat at once, some walks turned by the session's own fix.py). -/
import Derived.Test.YtoeijldmebocmaaCcHoldPlan
import Derived.Test.YtoeijldmebocmaaPx0
import Derived.Test.YtoeijldmebocmaaPx1
import Derived.Test.YtoeijldmebocmaaPx2
import Derived.Test.YtoeijldmebocmaaPx3
import Derived.Test.YtoeijldmebocmaaPx4
import Derived.Test.YtoeijldmebocmaaPx6
import Derived.Test.YtoeijldmebocmaaPx8
import Derived.Test.YtoeijldmebocmaaPx9
namespace Go.Proofs.Ytoeijldmebocmaa.P
open Go.RowKit Go.Proofs.YtoeijldmebocmaaW.PrintWords Go.Proofs.YtoeijldmebocmaaW.PrintLast Go.Proofs.YtoeijldmebocmaaW.PrintMore
attribute [local go_sem] max2_int min2_int max_two min_two max_three min_three max_four min_four   -- for this text's walks alone
set_option linter.unusedVariables false
set_option linter.unusedSimpArgs false

/-! ### laws_FnExactHoldPlan: function 16 -/
mutual
def laws_FnExactHoldPlan.j0 : Nat → List Int → List (S104) → Bool → List Int → List (S104) → Bool → Bool → Int → Int → List Int → Int → Int → List Int → Int → Int → List Int → Int → Int → List Int → Option (Bool)
  | 0, _, _, _, _, _, _, _, _, _, _, _, _, _, _, _, _, _, _, _ => none
  | k + 1, x1, x6, x7, x9, x10, x11, x51, x204000, x204001, x204002, x204003, x204004, x204005, x233000, x233001, x233002, x233003, x233004, x233005 => if x51 = true then (some false) else ((laws_toHoldRom.f k x204000 x204001 x204002 x204003 x204004 x204005).bind fun bt241 => ((laws_eqHoldRom.f k x233000 x233001 x233002 x233003 x233004 x233005 bt241.1 bt241.2.1 bt241.2.2.1 bt241.2.2.2.1 bt241.2.2.2.2.1 bt241.2.2.2.2.2).bind fun t251 => (if t251 = true then ((laws_toByteS.f k x1).bind fun t252 => ((laws_eqByteS.f k x9 t252).bind fun t255 => (if t255 = true then ((laws_markHoldRom.f k x233000 x233001 x233002 x233003 x233004 x233005 1).bind fun bt256 => ((laws_markByteS.f k x9 bt256.1).bind fun bt259 => (if bt259.1 < 0 then (laws_FnExactHoldPlan.j1 k x1 x6 x7 x10 true x204000 x204001 x204002 x204003 x204004 x204005) else ((laws_eqHoldWriteS.f k x10 x6).bind fun t261 => (if t261 = true then (laws_FnExactHoldPlan.j1 k x1 x6 x7 x10 (x11 != x7) x204000 x204001 x204002 x204003 x204004 x204005) else (laws_FnExactHoldPlan.j1 k x1 x6 x7 x10 true x204000 x204001 x204002 x204003 x204004 x204005)))))) else (some false)))) else (some false))))
def laws_FnExactHoldPlan.j1 : Nat → List Int → List (S104) → Bool → List (S104) → Bool → Int → Int → List Int → Int → Int → List Int → Option (Bool)
  | 0, _, _, _, _, _, _, _, _, _, _, _ => none
  | k + 1, x1, x6, x7, x10, x80, x204000, x204001, x204002, x204003, x204004, x204005 => if x80 = true then (some false) else ((laws_markHoldWriteS.f k x10 1).bind fun bt262 => ((laws_heldHoldWriteS.f k bt262.2 1).bind fun t264 => (if t264 < 0 then (some false) else (if t264 = bt262.1 then ((laws_toHoldRom.f k x204000 x204001 x204002 x204003 x204004 x204005).bind fun bt265 => ((laws_toByteS.f k x1).bind fun t275 => ((impl_HoldPlan.f k bt265.1 bt265.2.1 bt265.2.2.1 bt265.2.2.2.1 bt265.2.2.2.2.1 bt265.2.2.2.2.2 t275).bind fun bt278 => ((laws_eqHoldWriteS.f k bt278.1 x6).bind fun t282 => (if t282 = true then (laws_FnExactHoldPlan.j2 k bt262.2 bt262.1 (bt278.2 != x7)) else (laws_FnExactHoldPlan.j2 k bt262.2 bt262.1 true)))))) else (some false)))))
def laws_FnExactHoldPlan.j2 : Nat → List (S104) → Int → Bool → Option (Bool)
  | 0, _, _, _ => none
  | k + 1, x10, x13, x108 => if x108 = true then (some false) else ((laws_heldHoldWriteS.f k x10 1).bind fun t283 => (if t283 < 0 then (some false) else (if t283 = x13 then (some true) else (some false))))
end
def laws_FnExactHoldPlan.f (k : Nat) (a0_0 : Int) (a0_1 : Int) (l0_2 : List Int) (a0_3 : Int) (a0_4 : Int) (l0_5 : List Int) (l1 : List Int) : Option (Bool) := if (l1.length : Int) > 1048576 then (some true) else ((laws_szHoldRom.f a0_0 a0_1 l0_2 a0_3 a0_4 l0_5 1048576).bind fun t204 => (if t204 < 0 then (some true) else ((laws_toHoldRom.f k a0_0 a0_1 l0_2 a0_3 a0_4 l0_5).bind fun bt205 => ((laws_toByteS.f k l1).bind fun t215 => ((spec_HoldPlan.f k bt205.1 bt205.2.1 bt205.2.2.1 bt205.2.2.2.1 bt205.2.2.2.2.1 bt205.2.2.2.2.2 t215).bind fun bt218 => ((laws_toHoldRom.f k a0_0 a0_1 l0_2 a0_3 a0_4 l0_5).bind fun bt222 => ((laws_toByteS.f k l1).bind fun t233 => ((impl_HoldPlan.f k bt222.1 bt222.2.1 bt222.2.2.1 bt222.2.2.2.1 bt222.2.2.2.2.1 bt222.2.2.2.2.2 t233).bind fun bt236 => ((laws_eqHoldWriteS.f k bt236.1 bt218.1).bind fun t240 => (if t240 = true then (laws_FnExactHoldPlan.j0 k l1 bt218.1 bt218.2 t233 bt236.1 bt236.2 (bt236.2 != bt218.2) a0_0 a0_1 l0_2 a0_3 a0_4 l0_5 bt222.1 bt222.2.1 bt222.2.2.1 bt222.2.2.2.1 bt222.2.2.2.2.1 bt222.2.2.2.2.2) else (laws_FnExactHoldPlan.j0 k l1 bt218.1 bt218.2 t233 bt236.1 bt236.2 true a0_0 a0_1 l0_2 a0_3 a0_4 l0_5 bt222.1 bt222.2.1 bt222.2.2.1 bt222.2.2.2.1 bt222.2.2.2.2.1 bt222.2.2.2.2.2)))))))))))
theorem laws_FnExactHoldPlan.mono_l : ∀ k, (∀ y0 y1 y2 y3 y4 y5 y6 y7 y8 y9 y10 y11 y12 y13 y14 y15 y16 y17 y18, LeO (laws_FnExactHoldPlan.j0 k y0 y1 y2 y3 y4 y5 y6 y7 y8 y9 y10 y11 y12 y13 y14 y15 y16 y17 y18) (laws_FnExactHoldPlan.j0 (k + 1) y0 y1 y2 y3 y4 y5 y6 y7 y8 y9 y10 y11 y12 y13 y14 y15 y16 y17 y18)) ∧ (∀ y0 y1 y2 y3 y4 y5 y6 y7 y8 y9 y10, LeO (laws_FnExactHoldPlan.j1 k y0 y1 y2 y3 y4 y5 y6 y7 y8 y9 y10) (laws_FnExactHoldPlan.j1 (k + 1) y0 y1 y2 y3 y4 y5 y6 y7 y8 y9 y10)) ∧ (∀ y0 y1 y2, LeO (laws_FnExactHoldPlan.j2 k y0 y1 y2) (laws_FnExactHoldPlan.j2 (k + 1) y0 y1 y2))
  | 0 => ⟨fun _ _ _ _ _ _ _ _ _ _ _ _ _ _ _ _ _ _ _ r h => by simp [laws_FnExactHoldPlan.j0] at h, fun _ _ _ _ _ _ _ _ _ _ _ r h => by simp [laws_FnExactHoldPlan.j1] at h, fun _ _ _ r h => by simp [laws_FnExactHoldPlan.j2] at h⟩
  | k + 1 => by
    obtain ⟨ih0, ih1, ih2⟩ := laws_FnExactHoldPlan.mono_l k
    refine ⟨?_, ?_, ?_⟩
    · intro y0 y1 y2 y3 y4 y5 y6 y7 y8 y9 y10 y11 y12 y13 y14 y15 y16 y17 y18
      unfold laws_FnExactHoldPlan.j0
      repeat' first
      | (with_reducible exact ih0 _ _ _ _ _ _ _ _ _ _ _ _ _ _ _ _ _ _ _)
      | (with_reducible exact ih1 _ _ _ _ _ _ _ _ _ _ _)
      | (with_reducible exact ih2 _ _ _)
      | (with_reducible exact impl_HoldPlan.mono _ _ _ _ _ _ _ _)
      | (with_reducible exact laws_eqByteS.mono _ _ _)
      | (with_reducible exact laws_eqHoldRom.mono _ _ _ _ _ _ _ _ _ _ _ _ _)
      | (with_reducible exact laws_eqHoldWriteS.mono _ _ _)
      | (with_reducible exact laws_heldHoldWriteS.mono _ _ _)
      | (with_reducible exact laws_markByteS.mono _ _ _)
      | (with_reducible exact laws_markHoldRom.mono _ _ _ _ _ _ _ _)
      | (with_reducible exact laws_markHoldWriteS.mono _ _ _)
      | (with_reducible exact laws_toByteS.mono _ _)
      | (with_reducible exact laws_toHoldRom.mono _ _ _ _ _ _ _)
      | (with_reducible exact spec_HoldPlan.mono _ _ _ _ _ _ _ _)
      | (with_reducible exact LeO.refl _)
      | (with_reducible exact LeO.none _)
      | (with_reducible refine LeO.ite ?_ ?_)
      | (with_reducible refine LeO.bind ?_ (fun _ => ?_))
      | exact ih0 _ _ _ _ _ _ _ _ _ _ _ _ _ _ _ _ _ _ _
      | exact ih1 _ _ _ _ _ _ _ _ _ _ _
      | exact ih2 _ _ _
      | exact impl_HoldPlan.mono _ _ _ _ _ _ _ _
      | exact laws_eqByteS.mono _ _ _
      | exact laws_eqHoldRom.mono _ _ _ _ _ _ _ _ _ _ _ _ _
      | exact laws_eqHoldWriteS.mono _ _ _
      | exact laws_heldHoldWriteS.mono _ _ _
      | exact laws_markByteS.mono _ _ _
      | exact laws_markHoldRom.mono _ _ _ _ _ _ _ _
      | exact laws_markHoldWriteS.mono _ _ _
      | exact laws_toByteS.mono _ _
      | exact laws_toHoldRom.mono _ _ _ _ _ _ _
      | exact spec_HoldPlan.mono _ _ _ _ _ _ _ _
      | exact LeO.none _
      | refine LeO.ite ?_ ?_
      | refine LeO.bind ?_ (fun _ => ?_)
    · intro y0 y1 y2 y3 y4 y5 y6 y7 y8 y9 y10
      unfold laws_FnExactHoldPlan.j1
      repeat' first
      | (with_reducible exact ih0 _ _ _ _ _ _ _ _ _ _ _ _ _ _ _ _ _ _ _)
      | (with_reducible exact ih1 _ _ _ _ _ _ _ _ _ _ _)
      | (with_reducible exact ih2 _ _ _)
      | (with_reducible exact impl_HoldPlan.mono _ _ _ _ _ _ _ _)
      | (with_reducible exact laws_eqByteS.mono _ _ _)
      | (with_reducible exact laws_eqHoldRom.mono _ _ _ _ _ _ _ _ _ _ _ _ _)
      | (with_reducible exact laws_eqHoldWriteS.mono _ _ _)
      | (with_reducible exact laws_heldHoldWriteS.mono _ _ _)
      | (with_reducible exact laws_markByteS.mono _ _ _)
      | (with_reducible exact laws_markHoldRom.mono _ _ _ _ _ _ _ _)
      | (with_reducible exact laws_markHoldWriteS.mono _ _ _)
      | (with_reducible exact laws_toByteS.mono _ _)
      | (with_reducible exact laws_toHoldRom.mono _ _ _ _ _ _ _)
      | (with_reducible exact spec_HoldPlan.mono _ _ _ _ _ _ _ _)
      | (with_reducible exact LeO.refl _)
      | (with_reducible exact LeO.none _)
      | (with_reducible refine LeO.ite ?_ ?_)
      | (with_reducible refine LeO.bind ?_ (fun _ => ?_))
      | exact ih0 _ _ _ _ _ _ _ _ _ _ _ _ _ _ _ _ _ _ _
      | exact ih1 _ _ _ _ _ _ _ _ _ _ _
      | exact ih2 _ _ _
      | exact impl_HoldPlan.mono _ _ _ _ _ _ _ _
      | exact laws_eqByteS.mono _ _ _
      | exact laws_eqHoldRom.mono _ _ _ _ _ _ _ _ _ _ _ _ _
      | exact laws_eqHoldWriteS.mono _ _ _
      | exact laws_heldHoldWriteS.mono _ _ _
      | exact laws_markByteS.mono _ _ _
      | exact laws_markHoldRom.mono _ _ _ _ _ _ _ _
      | exact laws_markHoldWriteS.mono _ _ _
      | exact laws_toByteS.mono _ _
      | exact laws_toHoldRom.mono _ _ _ _ _ _ _
      | exact spec_HoldPlan.mono _ _ _ _ _ _ _ _
      | exact LeO.none _
      | refine LeO.ite ?_ ?_
      | refine LeO.bind ?_ (fun _ => ?_)
    · intro y0 y1 y2
      unfold laws_FnExactHoldPlan.j2
      repeat' first
      | (with_reducible exact ih0 _ _ _ _ _ _ _ _ _ _ _ _ _ _ _ _ _ _ _)
      | (with_reducible exact ih1 _ _ _ _ _ _ _ _ _ _ _)
      | (with_reducible exact ih2 _ _ _)
      | (with_reducible exact impl_HoldPlan.mono _ _ _ _ _ _ _ _)
      | (with_reducible exact laws_eqByteS.mono _ _ _)
      | (with_reducible exact laws_eqHoldRom.mono _ _ _ _ _ _ _ _ _ _ _ _ _)
      | (with_reducible exact laws_eqHoldWriteS.mono _ _ _)
      | (with_reducible exact laws_heldHoldWriteS.mono _ _ _)
      | (with_reducible exact laws_markByteS.mono _ _ _)
      | (with_reducible exact laws_markHoldRom.mono _ _ _ _ _ _ _ _)
      | (with_reducible exact laws_markHoldWriteS.mono _ _ _)
      | (with_reducible exact laws_toByteS.mono _ _)
      | (with_reducible exact laws_toHoldRom.mono _ _ _ _ _ _ _)
      | (with_reducible exact spec_HoldPlan.mono _ _ _ _ _ _ _ _)
      | (with_reducible exact LeO.refl _)
      | (with_reducible exact LeO.none _)
      | (with_reducible refine LeO.ite ?_ ?_)
      | (with_reducible refine LeO.bind ?_ (fun _ => ?_))
      | exact ih0 _ _ _ _ _ _ _ _ _ _ _ _ _ _ _ _ _ _ _
      | exact ih1 _ _ _ _ _ _ _ _ _ _ _
      | exact ih2 _ _ _
      | exact impl_HoldPlan.mono _ _ _ _ _ _ _ _
      | exact laws_eqByteS.mono _ _ _
      | exact laws_eqHoldRom.mono _ _ _ _ _ _ _ _ _ _ _ _ _
      | exact laws_eqHoldWriteS.mono _ _ _
      | exact laws_heldHoldWriteS.mono _ _ _
      | exact laws_markByteS.mono _ _ _
      | exact laws_markHoldRom.mono _ _ _ _ _ _ _ _
      | exact laws_markHoldWriteS.mono _ _ _
      | exact laws_toByteS.mono _ _
      | exact laws_toHoldRom.mono _ _ _ _ _ _ _
      | exact spec_HoldPlan.mono _ _ _ _ _ _ _ _
      | exact LeO.none _
      | refine LeO.ite ?_ ?_
      | refine LeO.bind ?_ (fun _ => ?_)
theorem laws_FnExactHoldPlan.mono : ∀ a0 a1 a2 a3 a4 a5 a6 k, LeO (laws_FnExactHoldPlan.f k a0 a1 a2 a3 a4 a5 a6) (laws_FnExactHoldPlan.f (k + 1) a0 a1 a2 a3 a4 a5 a6) := by
  intro a0 a1 a2 a3 a4 a5 a6 k
  obtain ⟨ih0, ih1, ih2⟩ := laws_FnExactHoldPlan.mono_l k
  unfold laws_FnExactHoldPlan.f
  repeat' first
      | (with_reducible exact ih0 _ _ _ _ _ _ _ _ _ _ _ _ _ _ _ _ _ _ _)
      | (with_reducible exact ih1 _ _ _ _ _ _ _ _ _ _ _)
      | (with_reducible exact ih2 _ _ _)
      | (with_reducible exact impl_HoldPlan.mono _ _ _ _ _ _ _ _)
      | (with_reducible exact laws_eqByteS.mono _ _ _)
      | (with_reducible exact laws_eqHoldRom.mono _ _ _ _ _ _ _ _ _ _ _ _ _)
      | (with_reducible exact laws_eqHoldWriteS.mono _ _ _)
      | (with_reducible exact laws_heldHoldWriteS.mono _ _ _)
      | (with_reducible exact laws_markByteS.mono _ _ _)
      | (with_reducible exact laws_markHoldRom.mono _ _ _ _ _ _ _ _)
      | (with_reducible exact laws_markHoldWriteS.mono _ _ _)
      | (with_reducible exact laws_toByteS.mono _ _)
      | (with_reducible exact laws_toHoldRom.mono _ _ _ _ _ _ _)
      | (with_reducible exact spec_HoldPlan.mono _ _ _ _ _ _ _ _)
      | (with_reducible exact LeO.refl _)
      | (with_reducible exact LeO.none _)
      | (with_reducible refine LeO.ite ?_ ?_)
      | (with_reducible refine LeO.bind ?_ (fun _ => ?_))
      | exact ih0 _ _ _ _ _ _ _ _ _ _ _ _ _ _ _ _ _ _ _
      | exact ih1 _ _ _ _ _ _ _ _ _ _ _
      | exact ih2 _ _ _
      | exact impl_HoldPlan.mono _ _ _ _ _ _ _ _
      | exact laws_eqByteS.mono _ _ _
      | exact laws_eqHoldRom.mono _ _ _ _ _ _ _ _ _ _ _ _ _
      | exact laws_eqHoldWriteS.mono _ _ _
      | exact laws_heldHoldWriteS.mono _ _ _
      | exact laws_markByteS.mono _ _ _
      | exact laws_markHoldRom.mono _ _ _ _ _ _ _ _
      | exact laws_markHoldWriteS.mono _ _ _
      | exact laws_toByteS.mono _ _
      | exact laws_toHoldRom.mono _ _ _ _ _ _ _
      | exact spec_HoldPlan.mono _ _ _ _ _ _ _ _
      | exact LeO.none _
      | refine LeO.ite ?_ ?_
      | refine LeO.bind ?_ (fun _ => ?_)
set_option maxHeartbeats 8000000 in
set_option maxRecDepth 100000 in
theorem laws_FnExactHoldPlan.calls (k : Nat) (a0_0 : Int) (a0_1 : Int) (A0_2 : Option Addr) (c0_2 : Nat) (l0_2 : List Int) (a0_3 : Int) (a0_4 : Int) (A0_5 : Option Addr) (c0_5 : Nat) (l0_5 : List Int) (A1 : Option Addr) (c1 : Nat) (l1 : List Int) (r : Bool) (w : World) (hr0_2 : Kd.C (Kd.int .u8) w A0_2 l0_2.length l0_2) (hc0_2 : l0_2.length ≤ c0_2) (hr0_5 : Kd.C (Kd.int .u8) w A0_5 l0_5.length l0_5) (hc0_5 : l0_5.length ≤ c0_5) (hr1 : Kd.C (Kd.int .u8) w A1 l1.length l1) (hc1 : l1.length ≤ c1) (h : laws_FnExactHoldPlan.f k a0_0 a0_1 l0_2 a0_3 a0_4 l0_5 l1 = some r) :
    Calls Try.prog 16 #[.agg #[.int .u8 a0_0, .int .u8 a0_1, .slice A0_2 l0_2.length c0_2, .int .u8 a0_3, .int .u8 a0_4, .slice A0_5 l0_5.length c0_5], .slice A1 l1.length c1] w fun e w' => e = .returned (.bool r) ∧ Below w.heap.size w w' := by
  have hu47 := Try.underlying47
  have hu52 := Try.underlying52
  have HR0_2 := Aside0.mk hr0_2
  have HC0_2 := Aside0.mk hc0_2
  clear hr0_2 hc0_2
  have HR0_5 := Aside0.mk hr0_5
  have HC0_5 := Aside0.mk hc0_5
  clear hr0_5 hc0_5
  have HR1 := Aside0.mk hr1
  have HC1 := Aside0.mk hc1
  clear hr1 hc1
  have HB := Aside0.mk (Below.refl w.heap.size w)
  have H : (if (l1.length : Int) > 1048576 then (some true) else ((laws_szHoldRom.f a0_0 a0_1 l0_2 a0_3 a0_4 l0_5 1048576).bind fun t204 => (if t204 < 0 then (some true) else ((laws_toHoldRom.f k a0_0 a0_1 l0_2 a0_3 a0_4 l0_5).bind fun bt205 => ((laws_toByteS.f k l1).bind fun t215 => ((spec_HoldPlan.f k bt205.1 bt205.2.1 bt205.2.2.1 bt205.2.2.2.1 bt205.2.2.2.2.1 bt205.2.2.2.2.2 t215).bind fun bt218 => ((laws_toHoldRom.f k a0_0 a0_1 l0_2 a0_3 a0_4 l0_5).bind fun bt222 => ((laws_toByteS.f k l1).bind fun t233 => ((impl_HoldPlan.f k bt222.1 bt222.2.1 bt222.2.2.1 bt222.2.2.2.1 bt222.2.2.2.2.1 bt222.2.2.2.2.2 t233).bind fun bt236 => ((laws_eqHoldWriteS.f k bt236.1 bt218.1).bind fun t240 => (if t240 = true then (laws_FnExactHoldPlan.j0 k l1 bt218.1 bt218.2 t233 bt236.1 bt236.2 (bt236.2 != bt218.2) a0_0 a0_1 l0_2 a0_3 a0_4 l0_5 bt222.1 bt222.2.1 bt222.2.2.1 bt222.2.2.2.1 bt222.2.2.2.2.1 bt222.2.2.2.2.2) else (laws_FnExactHoldPlan.j0 k l1 bt218.1 bt218.2 t233 bt236.1 bt236.2 true a0_0 a0_1 l0_2 a0_3 a0_4 l0_5 bt222.1 bt222.2.1 bt222.2.2.1 bt222.2.2.2.1 bt222.2.2.2.2.1 bt222.2.2.2.2.2)))))))))))) = some r := h
  clear h
  by_cases c3 : (l1.length : Int) > 1048576
  · rw [if_pos c3] at H
    have c3b0 : decide (1048576 < (l1.length : Int)) = true := decide_eq_true c3
    have c3b1 : decide (1048576 < l1.length) = true := decide_eq_true (by omega)
    clear c3
    obtain rfl := Option.some.inj H
    go_enter Try.func16, Try.ntmps16
    go_wp2_with (first | ((with_reducible refine gate_dst (N := 2) rfl ?_); refine box_event ?hg (N := 2) ?hd (cs := #[.int .u8 a0_0, .int .u8 a0_1, .slice A0_2 l0_2.length c0_2, .int .u8 a0_3, .int .u8 a0_4, .slice A0_5 l0_5.length c0_5]) (t := 47) ?hr ?_; (case hd => rfl); (case hg => rfl); (case hr => first | (go_simp; done) | (go_simp; rfl)); intro gb203 hg w4 hbox hb; have n0_ := Aside0.mk (below_step (by repeat (first | (with_reducible first | exact HB.out | apply below_alloc | apply pw_below_drewN | apply below_drew1) | exact HB.out)) hb); have n1_ := Aside0.mk (hbox); have n2_ := Aside0.mk ((by rw [hg]; exact (below_size (by repeat (first | (with_reducible first | exact HB.out | apply below_alloc | apply pw_below_drewN | apply below_drew1) | exact HB.out))) : w.heap.size ≤ gb203)); have n3_ := Aside0.mk ((by rw [hg]; exact (below_size (by repeat (first | (with_reducible first | exact HB.out | apply below_alloc | apply pw_below_drewN | apply below_drew1) | exact HB.out))) : w.heap.size ≤ gb203)); clear HB; have HB := n0_; have BK203 := n1_; have GW203 := n2_; have GE203 := n3_; clear n0_ n1_ n2_ n3_; clear hb hbox hg))
    go_ret
    exact ⟨by first | rfl | (simp [errW_none, errW_some] <;> rfl) | (simp [*, errW_none, errW_some] <;> rfl), by repeat (first | (with_reducible first | exact HB.out | apply below_alloc | apply pw_below_drewN | apply below_drew1 | refine below_set ?_ GE203.out) | exact HB.out)⟩
  · rw [if_neg c3] at H
    have c3b0 : decide (1048576 < (l1.length : Int)) = false := decide_eq_false c3
    have c3b1 : decide (1048576 < l1.length) = false := decide_eq_false (by omega)
    clear c3
    replace H := Option.bind_eq_some_iff.mp H
    obtain ⟨t204, A50, H⟩ := H
    replace H : (if t204 < 0 then (some true) else ((laws_toHoldRom.f k a0_0 a0_1 l0_2 a0_3 a0_4 l0_5).bind fun bt205 => ((laws_toByteS.f k l1).bind fun t215 => ((spec_HoldPlan.f k bt205.1 bt205.2.1 bt205.2.2.1 bt205.2.2.2.1 bt205.2.2.2.2.1 bt205.2.2.2.2.2 t215).bind fun bt218 => ((laws_toHoldRom.f k a0_0 a0_1 l0_2 a0_3 a0_4 l0_5).bind fun bt222 => ((laws_toByteS.f k l1).bind fun t233 => ((impl_HoldPlan.f k bt222.1 bt222.2.1 bt222.2.2.1 bt222.2.2.2.1 bt222.2.2.2.2.1 bt222.2.2.2.2.2 t233).bind fun bt236 => ((laws_eqHoldWriteS.f k bt236.1 bt218.1).bind fun t240 => (if t240 = true then (laws_FnExactHoldPlan.j0 k l1 bt218.1 bt218.2 t233 bt236.1 bt236.2 (bt236.2 != bt218.2) a0_0 a0_1 l0_2 a0_3 a0_4 l0_5 bt222.1 bt222.2.1 bt222.2.2.1 bt222.2.2.2.1 bt222.2.2.2.2.1 bt222.2.2.2.2.2) else (laws_FnExactHoldPlan.j0 k l1 bt218.1 bt218.2 t233 bt236.1 bt236.2 true a0_0 a0_1 l0_2 a0_3 a0_4 l0_5 bt222.1 bt222.2.1 bt222.2.2.1 bt222.2.2.2.1 bt222.2.2.2.2.1 bt222.2.2.2.2.2)))))))))) = some r := H
    have A5 := Aside0.mk A50
    clear A50
    by_cases c6 : t204 < 0
    · rw [if_pos c6] at H
      have c6b0 : decide (t204 < 0) = true := decide_eq_true c6
      clear c6
      obtain rfl := Option.some.inj H
      go_enter Try.func16, Try.ntmps16
      go_wp2_with (first | ((with_reducible refine gate_dst (N := 2) rfl ?_); refine box_event ?hg (N := 2) ?hd (cs := #[.int .u8 a0_0, .int .u8 a0_1, .slice A0_2 l0_2.length c0_2, .int .u8 a0_3, .int .u8 a0_4, .slice A0_5 l0_5.length c0_5]) (t := 47) ?hr ?_; (case hd => rfl); (case hg => rfl); (case hr => first | (go_simp; done) | (go_simp; rfl)); intro gb203 hg w7 hbox hb; have n0_ := Aside0.mk (below_step (by repeat (first | (with_reducible first | exact HB.out | apply below_alloc | apply pw_below_drewN | apply below_drew1) | exact HB.out)) hb); have n1_ := Aside0.mk (hbox); have n2_ := Aside0.mk ((by rw [hg]; exact (below_size (by repeat (first | (with_reducible first | exact HB.out | apply below_alloc | apply pw_below_drewN | apply below_drew1) | exact HB.out))) : w.heap.size ≤ gb203)); have n3_ := Aside0.mk ((by rw [hg]; exact (below_size (by repeat (first | (with_reducible first | exact HB.out | apply below_alloc | apply pw_below_drewN | apply below_drew1) | exact HB.out))) : w.heap.size ≤ gb203)); clear HB; have HB := n0_; have BK203 := n1_; have GW203 := n2_; have GE203 := n3_; clear n0_ n1_ n2_ n3_; clear hb hbox hg; have hcz8_0 : w7.cell? ⟨gb203, 0, none⟩ = some (.int .u8 a0_0) := (blk_cell BK203.out 0).trans rfl; have hcz8_1 : w7.cell? ⟨gb203, 1, none⟩ = some (.int .u8 a0_1) := (blk_cell BK203.out 1).trans rfl; have hcz8_2 : w7.cell? ⟨gb203, 2, none⟩ = some (.slice A0_2 l0_2.length c0_2) := (blk_cell BK203.out 2).trans rfl; have hcz8_3 : w7.cell? ⟨gb203, 3, none⟩ = some (.int .u8 a0_3) := (blk_cell BK203.out 3).trans rfl; have hcz8_4 : w7.cell? ⟨gb203, 4, none⟩ = some (.int .u8 a0_4) := (blk_cell BK203.out 4).trans rfl; have hcz8_5 : w7.cell? ⟨gb203, 5, none⟩ = some (.slice A0_5 l0_5.length c0_5) := (blk_cell BK203.out 5).trans rfl; have hfz8_0 := blk_frozen BK203.out 0; have hfz8_1 := blk_frozen BK203.out 1; have hfz8_2 := blk_frozen BK203.out 2; have hfz8_3 := blk_frozen BK203.out 3; have hfz8_4 := blk_frozen BK203.out 4; have hfz8_5 := blk_frozen BK203.out 5) | ((with_reducible refine gate_callee (f := 38) rfl ?_); refine goesL_ (some 22) rfl rfl Try.func38 (by kernel_rfl) rfl #[.agg #[.int .u8 a0_0, .int .u8 a0_1, .slice A0_2 l0_2.length c0_2, .int .u8 a0_3, .int .u8 a0_4, .slice A0_5 l0_5.length c0_5], .int .i64 1048576] rfl (by (try simp only [List.map_toArray, List.map_cons, List.map_nil]); first | done | rfl | (simp only [List.length_drop, List.length_take]; rfl)) ?_; (with_reducible refine (laws_szHoldRom.calls a0_0 a0_1 _ _ l0_2 a0_3 a0_4 _ _ l0_5 1048576 t204 _ ?side1 ?side2 ?side3 ?side4 A5.out).mono ?_); (case side1 => repeat (first | exact (Kd.C_below HR0_2.out HB.out) | (with_reducible refine Kd.C_alloc ?_ _) | (with_reducible refine Kd.C_drewN ?_ _) | (with_reducible refine Kd.C_drew ?_))); (case side2 => exact HC0_2.out); (case side3 => repeat (first | exact (Kd.C_below HR0_5.out HB.out) | (with_reducible refine Kd.C_alloc ?_ _) | (with_reducible refine Kd.C_drewN ?_ _) | (with_reducible refine Kd.C_drew ?_))); (case side4 => exact HC0_5.out); rintro e w9 ⟨rfl, hb⟩; refine ⟨_, rfl, ?_⟩; have n0_ := Aside0.mk (blk_below (g := gb203) (o := .cells #[.int .u8 a0_0, .int .u8 a0_1, .slice A0_2 l0_2.length c0_2, .int .u8 a0_3, .int .u8 a0_4, .slice A0_5 l0_5.length c0_5] 47 (0, 0)) (by (with_reducible repeat (first | refine blk_drewN ?_ _ | refine blk_drew ?_ | refine blk_alloc ?_ _)); exact BK203.out) hb); have n1_ := Aside0.mk (below_step (by repeat (first | (with_reducible first | exact HB.out | apply below_alloc | apply pw_below_drewN | apply below_drew1 | refine below_set ?_ GE203.out) | exact HB.out)) hb); clear BK203; clear HB; have BK203 := n0_; have HB := n1_; clear n0_ n1_; (try clear hb); (try clear hb2); (try clear hk); (try clear hi)))
      go_ret
      exact ⟨by first | rfl | (simp [errW_none, errW_some] <;> rfl) | (simp [*, errW_none, errW_some] <;> rfl), by repeat (first | (with_reducible first | exact HB.out | apply below_alloc | apply pw_below_drewN | apply below_drew1 | refine below_set ?_ GE203.out) | exact HB.out)⟩
    · rw [if_neg c6] at H
      have c6b0 : decide (t204 < 0) = false := decide_eq_false c6
      clear c6
      replace H := Option.bind_eq_some_iff.mp H
      obtain ⟨⟨t205, t206, t207, t210, t211, t212⟩, A100, H⟩ := H
      replace H : ((laws_toByteS.f k l1).bind fun t215 => ((spec_HoldPlan.f k t205 t206 t207 t210 t211 t212 t215).bind fun bt218 => ((laws_toHoldRom.f k a0_0 a0_1 l0_2 a0_3 a0_4 l0_5).bind fun bt222 => ((laws_toByteS.f k l1).bind fun t233 => ((impl_HoldPlan.f k bt222.1 bt222.2.1 bt222.2.2.1 bt222.2.2.2.1 bt222.2.2.2.2.1 bt222.2.2.2.2.2 t233).bind fun bt236 => ((laws_eqHoldWriteS.f k bt236.1 bt218.1).bind fun t240 => (if t240 = true then (laws_FnExactHoldPlan.j0 k l1 bt218.1 bt218.2 t233 bt236.1 bt236.2 (bt236.2 != bt218.2) a0_0 a0_1 l0_2 a0_3 a0_4 l0_5 bt222.1 bt222.2.1 bt222.2.2.1 bt222.2.2.2.1 bt222.2.2.2.2.1 bt222.2.2.2.2.2) else (laws_FnExactHoldPlan.j0 k l1 bt218.1 bt218.2 t233 bt236.1 bt236.2 true a0_0 a0_1 l0_2 a0_3 a0_4 l0_5 bt222.1 bt222.2.1 bt222.2.2.1 bt222.2.2.2.1 bt222.2.2.2.2.1 bt222.2.2.2.2.2)))))))) = some r := H
      have A10 := Aside0.mk A100
      clear A100
      replace H := Option.bind_eq_some_iff.mp H
      obtain ⟨t215, A110, H⟩ := H
      replace H : ((spec_HoldPlan.f k t205 t206 t207 t210 t211 t212 t215).bind fun bt218 => ((laws_toHoldRom.f k a0_0 a0_1 l0_2 a0_3 a0_4 l0_5).bind fun bt222 => ((laws_toByteS.f k l1).bind fun t233 => ((impl_HoldPlan.f k bt222.1 bt222.2.1 bt222.2.2.1 bt222.2.2.2.1 bt222.2.2.2.2.1 bt222.2.2.2.2.2 t233).bind fun bt236 => ((laws_eqHoldWriteS.f k bt236.1 bt218.1).bind fun t240 => (if t240 = true then (laws_FnExactHoldPlan.j0 k l1 bt218.1 bt218.2 t233 bt236.1 bt236.2 (bt236.2 != bt218.2) a0_0 a0_1 l0_2 a0_3 a0_4 l0_5 bt222.1 bt222.2.1 bt222.2.2.1 bt222.2.2.2.1 bt222.2.2.2.2.1 bt222.2.2.2.2.2) else (laws_FnExactHoldPlan.j0 k l1 bt218.1 bt218.2 t233 bt236.1 bt236.2 true a0_0 a0_1 l0_2 a0_3 a0_4 l0_5 bt222.1 bt222.2.1 bt222.2.2.1 bt222.2.2.2.1 bt222.2.2.2.2.1 bt222.2.2.2.2.2))))))) = some r := H
      have A11 := Aside0.mk A110
      clear A110
      replace H := Option.bind_eq_some_iff.mp H
      obtain ⟨⟨t218, t221⟩, A120, H⟩ := H
      replace H : ((laws_toHoldRom.f k a0_0 a0_1 l0_2 a0_3 a0_4 l0_5).bind fun bt222 => ((laws_toByteS.f k l1).bind fun t233 => ((impl_HoldPlan.f k bt222.1 bt222.2.1 bt222.2.2.1 bt222.2.2.2.1 bt222.2.2.2.2.1 bt222.2.2.2.2.2 t233).bind fun bt236 => ((laws_eqHoldWriteS.f k bt236.1 t218).bind fun t240 => (if t240 = true then (laws_FnExactHoldPlan.j0 k l1 t218 t221 t233 bt236.1 bt236.2 (bt236.2 != t221) a0_0 a0_1 l0_2 a0_3 a0_4 l0_5 bt222.1 bt222.2.1 bt222.2.2.1 bt222.2.2.2.1 bt222.2.2.2.2.1 bt222.2.2.2.2.2) else (laws_FnExactHoldPlan.j0 k l1 t218 t221 t233 bt236.1 bt236.2 true a0_0 a0_1 l0_2 a0_3 a0_4 l0_5 bt222.1 bt222.2.1 bt222.2.2.1 bt222.2.2.2.1 bt222.2.2.2.2.1 bt222.2.2.2.2.2)))))) = some r := H
      have A12 := Aside0.mk A120
      clear A120
      replace H := Option.bind_eq_some_iff.mp H
      obtain ⟨⟨t222, t223, t224, t227, t228, t229⟩, A130, H⟩ := H
      replace H : ((laws_toByteS.f k l1).bind fun t233 => ((impl_HoldPlan.f k t222 t223 t224 t227 t228 t229 t233).bind fun bt236 => ((laws_eqHoldWriteS.f k bt236.1 t218).bind fun t240 => (if t240 = true then (laws_FnExactHoldPlan.j0 k l1 t218 t221 t233 bt236.1 bt236.2 (bt236.2 != t221) a0_0 a0_1 l0_2 a0_3 a0_4 l0_5 t222 t223 t224 t227 t228 t229) else (laws_FnExactHoldPlan.j0 k l1 t218 t221 t233 bt236.1 bt236.2 true a0_0 a0_1 l0_2 a0_3 a0_4 l0_5 t222 t223 t224 t227 t228 t229))))) = some r := H
      have A13 := Aside0.mk A130
      clear A130
      replace H := Option.bind_eq_some_iff.mp H
      obtain ⟨t233, A140, H⟩ := H
      replace H : ((impl_HoldPlan.f k t222 t223 t224 t227 t228 t229 t233).bind fun bt236 => ((laws_eqHoldWriteS.f k bt236.1 t218).bind fun t240 => (if t240 = true then (laws_FnExactHoldPlan.j0 k l1 t218 t221 t233 bt236.1 bt236.2 (bt236.2 != t221) a0_0 a0_1 l0_2 a0_3 a0_4 l0_5 t222 t223 t224 t227 t228 t229) else (laws_FnExactHoldPlan.j0 k l1 t218 t221 t233 bt236.1 bt236.2 true a0_0 a0_1 l0_2 a0_3 a0_4 l0_5 t222 t223 t224 t227 t228 t229)))) = some r := H
      have A14 := Aside0.mk A140
      clear A140
      replace H := Option.bind_eq_some_iff.mp H
      obtain ⟨⟨t236, t239⟩, A150, H⟩ := H
      replace H : ((laws_eqHoldWriteS.f k t236 t218).bind fun t240 => (if t240 = true then (laws_FnExactHoldPlan.j0 k l1 t218 t221 t233 t236 t239 (t239 != t221) a0_0 a0_1 l0_2 a0_3 a0_4 l0_5 t222 t223 t224 t227 t228 t229) else (laws_FnExactHoldPlan.j0 k l1 t218 t221 t233 t236 t239 true a0_0 a0_1 l0_2 a0_3 a0_4 l0_5 t222 t223 t224 t227 t228 t229))) = some r := H
      have A15 := Aside0.mk A150
      clear A150
      have HC16 := Aside0.mk H
      clear H
      go_enter Try.func16, Try.ntmps16
      go_upto_region 11 with (first | ((with_reducible refine gate_dst (N := 2) rfl ?_); refine box_event ?hg (N := 2) ?hd (cs := #[.int .u8 a0_0, .int .u8 a0_1, .slice A0_2 l0_2.length c0_2, .int .u8 a0_3, .int .u8 a0_4, .slice A0_5 l0_5.length c0_5]) (t := 47) ?hr ?_; (case hd => rfl); (case hg => rfl); (case hr => first | (go_simp; done) | (go_simp; rfl)); intro gb203 hg w17 hbox hb; have n0_ := Aside0.mk (below_step (by repeat (first | (with_reducible first | exact HB.out | apply below_alloc | apply pw_below_drewN | apply below_drew1) | exact HB.out)) hb); have n1_ := Aside0.mk (hbox); have n2_ := Aside0.mk ((by rw [hg]; exact (below_size (by repeat (first | (with_reducible first | exact HB.out | apply below_alloc | apply pw_below_drewN | apply below_drew1) | exact HB.out))) : w.heap.size ≤ gb203)); have n3_ := Aside0.mk ((by rw [hg]; exact (below_size (by repeat (first | (with_reducible first | exact HB.out | apply below_alloc | apply pw_below_drewN | apply below_drew1) | exact HB.out))) : w.heap.size ≤ gb203)); clear HB; have HB := n0_; have BK203 := n1_; have GW203 := n2_; have GE203 := n3_; clear n0_ n1_ n2_ n3_; clear hb hbox hg; have hcz18_0 : w17.cell? ⟨gb203, 0, none⟩ = some (.int .u8 a0_0) := (blk_cell BK203.out 0).trans rfl; have hcz18_1 : w17.cell? ⟨gb203, 1, none⟩ = some (.int .u8 a0_1) := (blk_cell BK203.out 1).trans rfl; have hcz18_2 : w17.cell? ⟨gb203, 2, none⟩ = some (.slice A0_2 l0_2.length c0_2) := (blk_cell BK203.out 2).trans rfl; have hcz18_3 : w17.cell? ⟨gb203, 3, none⟩ = some (.int .u8 a0_3) := (blk_cell BK203.out 3).trans rfl; have hcz18_4 : w17.cell? ⟨gb203, 4, none⟩ = some (.int .u8 a0_4) := (blk_cell BK203.out 4).trans rfl; have hcz18_5 : w17.cell? ⟨gb203, 5, none⟩ = some (.slice A0_5 l0_5.length c0_5) := (blk_cell BK203.out 5).trans rfl; have hfz18_0 := blk_frozen BK203.out 0; have hfz18_1 := blk_frozen BK203.out 1; have hfz18_2 := blk_frozen BK203.out 2; have hfz18_3 := blk_frozen BK203.out 3; have hfz18_4 := blk_frozen BK203.out 4; have hfz18_5 := blk_frozen BK203.out 5) | ((with_reducible refine gate_callee (f := 38) rfl ?_); refine goesL_ (some 22) rfl rfl Try.func38 (by kernel_rfl) rfl #[.agg #[.int .u8 a0_0, .int .u8 a0_1, .slice A0_2 l0_2.length c0_2, .int .u8 a0_3, .int .u8 a0_4, .slice A0_5 l0_5.length c0_5], .int .i64 1048576] rfl (by (try simp only [List.map_toArray, List.map_cons, List.map_nil]); first | done | rfl | (simp only [List.length_drop, List.length_take]; rfl)) ?_; (with_reducible refine (laws_szHoldRom.calls a0_0 a0_1 _ _ l0_2 a0_3 a0_4 _ _ l0_5 1048576 t204 _ ?side1 ?side2 ?side3 ?side4 A5.out).mono ?_); (case side1 => repeat (first | exact (Kd.C_below HR0_2.out HB.out) | (with_reducible refine Kd.C_alloc ?_ _) | (with_reducible refine Kd.C_drewN ?_ _) | (with_reducible refine Kd.C_drew ?_))); (case side2 => exact HC0_2.out); (case side3 => repeat (first | exact (Kd.C_below HR0_5.out HB.out) | (with_reducible refine Kd.C_alloc ?_ _) | (with_reducible refine Kd.C_drewN ?_ _) | (with_reducible refine Kd.C_drew ?_))); (case side4 => exact HC0_5.out); rintro e w19 ⟨rfl, hb⟩; refine ⟨_, rfl, ?_⟩; have n0_ := Aside0.mk (blk_below (g := gb203) (o := .cells #[.int .u8 a0_0, .int .u8 a0_1, .slice A0_2 l0_2.length c0_2, .int .u8 a0_3, .int .u8 a0_4, .slice A0_5 l0_5.length c0_5] 47 (0, 0)) (by (with_reducible repeat (first | refine blk_drewN ?_ _ | refine blk_drew ?_ | refine blk_alloc ?_ _)); exact BK203.out) hb); have n1_ := Aside0.mk (below_step (by repeat (first | (with_reducible first | exact HB.out | apply below_alloc | apply pw_below_drewN | apply below_drew1 | refine below_set ?_ GE203.out) | exact HB.out)) hb); clear BK203; clear HB; have BK203 := n0_; have HB := n1_; clear n0_ n1_; (try clear hb); (try clear hb2); (try clear hk); (try clear hi); have hcz20_0 : w19.cell? ⟨gb203, 0, none⟩ = some (.int .u8 a0_0) := (blk_cell BK203.out 0).trans rfl; have hcz20_1 : w19.cell? ⟨gb203, 1, none⟩ = some (.int .u8 a0_1) := (blk_cell BK203.out 1).trans rfl; have hcz20_2 : w19.cell? ⟨gb203, 2, none⟩ = some (.slice A0_2 l0_2.length c0_2) := (blk_cell BK203.out 2).trans rfl; have hcz20_3 : w19.cell? ⟨gb203, 3, none⟩ = some (.int .u8 a0_3) := (blk_cell BK203.out 3).trans rfl; have hcz20_4 : w19.cell? ⟨gb203, 4, none⟩ = some (.int .u8 a0_4) := (blk_cell BK203.out 4).trans rfl; have hcz20_5 : w19.cell? ⟨gb203, 5, none⟩ = some (.slice A0_5 l0_5.length c0_5) := (blk_cell BK203.out 5).trans rfl; have hfz20_0 := blk_frozen BK203.out 0; have hfz20_1 := blk_frozen BK203.out 1; have hfz20_2 := blk_frozen BK203.out 2; have hfz20_3 := blk_frozen BK203.out 3; have hfz20_4 := blk_frozen BK203.out 4; have hfz20_5 := blk_frozen BK203.out 5) | ((with_reducible refine gate_callee (f := 40) rfl ?_); refine goesL_ (some 27) rfl rfl Try.func40 (by kernel_rfl) rfl #[.agg #[.int .u8 a0_0, .int .u8 a0_1, .slice A0_2 l0_2.length c0_2, .int .u8 a0_3, .int .u8 a0_4, .slice A0_5 l0_5.length c0_5]] rfl (by (try simp only [List.map_toArray, List.map_cons, List.map_nil]); first | done | rfl | (simp only [List.length_drop, List.length_take]; rfl)) ?_; (with_reducible refine (laws_toHoldRom.callsC k a0_0 a0_1 _ _ l0_2 a0_3 a0_4 _ _ l0_5 t205 t206 t207 t210 t211 t212 _ ?side1 ?side2 ?side3 ?side4 A10.out).mono ?_); (case side1 => repeat (first | exact (Kd.C_below HR0_2.out HB.out) | (with_reducible refine Kd.C_alloc ?_ _) | (with_reducible refine Kd.C_drewN ?_ _) | (with_reducible refine Kd.C_drew ?_))); (case side2 => exact HC0_2.out); (case side3 => repeat (first | exact (Kd.C_below HR0_5.out HB.out) | (with_reducible refine Kd.C_alloc ?_ _) | (with_reducible refine Kd.C_drewN ?_ _) | (with_reducible refine Kd.C_drew ?_))); (case side4 => exact HC0_5.out); rintro e w21 ⟨v208, v213, rfl, ho0, ho1, hb⟩; refine ⟨_, rfl, ?_⟩; have n0_ := Aside0.mk (Kd.Rc_lower ho0 (below_size (by repeat (first | (with_reducible first | exact HB.out | apply below_alloc | apply pw_below_drewN | apply below_drew1 | refine below_set ?_ GE203.out) | exact HB.out)))); have n1_ := Aside0.mk (Kd.Rc_lower ho1 (below_size (by repeat (first | (with_reducible first | exact HB.out | apply below_alloc | apply pw_below_drewN | apply below_drew1 | refine below_set ?_ GE203.out) | exact HB.out)))); have n2_ := Aside0.mk (blk_below (g := gb203) (o := .cells #[.int .u8 a0_0, .int .u8 a0_1, .slice A0_2 l0_2.length c0_2, .int .u8 a0_3, .int .u8 a0_4, .slice A0_5 l0_5.length c0_5] 47 (0, 0)) (by (with_reducible repeat (first | refine blk_drewN ?_ _ | refine blk_drew ?_ | refine blk_alloc ?_ _)); exact BK203.out) hb); have n3_ := Aside0.mk (below_step (by repeat (first | (with_reducible first | exact HB.out | apply below_alloc | apply pw_below_drewN | apply below_drew1 | refine below_set ?_ GE203.out) | exact HB.out)) hb); clear BK203; clear HB; have HO209 := n0_; have HO214 := n1_; have BK203 := n2_; have HB := n3_; clear n0_ n1_ n2_ n3_; (try clear hb); (try clear hb2); (try clear hk); (try clear hi); (try clear ho0); (try clear ho1)) | ((with_reducible refine gate_callee (f := 18) rfl ?_); refine goesL_ (some 29) rfl rfl Try.func18 (by kernel_rfl) rfl #[.slice A1 l1.length c1] rfl (by (try simp only [List.map_toArray, List.map_cons, List.map_nil]); first | done | rfl | (simp only [List.length_drop, List.length_take]; rfl)) ?_; (with_reducible refine (laws_toByteS.callsC k _ _ l1 t215 _ ?side1 ?side2 A11.out).mono ?_); (case side1 => repeat (first | exact (Kd.C_below HR1.out HB.out) | (with_reducible refine Kd.C_alloc ?_ _) | (with_reducible refine Kd.C_drewN ?_ _) | (with_reducible refine Kd.C_drew ?_))); (case side2 => exact HC1.out); rintro e w22 ⟨v216, rfl, ho0, hb⟩; refine ⟨_, rfl, ?_⟩; have n0_ := Aside0.mk (Kd.Rc_elder' (by (with_reducible repeat (first | apply Kd.Rc_alloc | apply Kd.Rc_drewN | apply Kd.Rc_drew)); exact HO209.out) (Kd.Rc_base ho0) hb); have n1_ := Aside0.mk (Kd.Rc_elder' (by (with_reducible repeat (first | apply Kd.Rc_alloc | apply Kd.Rc_drewN | apply Kd.Rc_drew)); exact HO214.out) (Kd.Rc_base ho0) hb); have n2_ := Aside0.mk (Kd.Rc_lower (Kd.Rc_new' (Kd.Rc_new' ho0 (Kd.Rc_lt (by (with_reducible repeat (first | apply Kd.Rc_alloc | apply Kd.Rc_drewN | apply Kd.Rc_drew)); exact HO209.out))) (Kd.Rc_lt (by (with_reducible repeat (first | apply Kd.Rc_alloc | apply Kd.Rc_drewN | apply Kd.Rc_drew)); exact HO214.out))) (below_size (by repeat (first | (with_reducible first | exact HB.out | apply below_alloc | apply pw_below_drewN | apply below_drew1 | refine below_set ?_ GE203.out) | exact HB.out)))); have n3_ := Aside0.mk (blk_below (g := gb203) (o := .cells #[.int .u8 a0_0, .int .u8 a0_1, .slice A0_2 l0_2.length c0_2, .int .u8 a0_3, .int .u8 a0_4, .slice A0_5 l0_5.length c0_5] 47 (0, 0)) (by (with_reducible repeat (first | refine blk_drewN ?_ _ | refine blk_drew ?_ | refine blk_alloc ?_ _)); exact BK203.out) hb); have n4_ := Aside0.mk (below_step (by repeat (first | (with_reducible first | exact HB.out | apply below_alloc | apply pw_below_drewN | apply below_drew1 | refine below_set ?_ GE203.out) | exact HB.out)) hb); clear HO209; clear HO214; clear BK203; clear HB; have HO209 := n0_; have HO214 := n1_; have HO217 := n2_; have BK203 := n3_; have HB := n4_; clear n0_ n1_ n2_ n3_ n4_; (try clear hb); (try clear hb2); (try clear hk); (try clear hi); (try clear ho0); obtain ⟨Ao23, co23, eo23⟩ := Kd.Rc_slice HO209.out; subst eo23; obtain ⟨Ao24, co24, eo24⟩ := Kd.Rc_slice HO214.out; subst eo24; obtain ⟨Ao25, co25, eo25⟩ := Kd.Rc_slice HO217.out; subst eo25) | ((with_reducible refine gate_callee (f := 57) rfl ?_); refine goesL_ (some 30) rfl rfl Try.func57 (by kernel_rfl) rfl #[.agg #[.int .u8 t205, .int .u8 t206, .slice Ao23 t207.length co23, .int .u8 t210, .int .u8 t211, .slice Ao24 t212.length co24], .slice Ao25 t215.length co25] rfl (by (try simp only [List.map_toArray, List.map_cons, List.map_nil]); first | done | rfl | (simp only [List.length_drop, List.length_take]; rfl)) ?_; (with_reducible refine (spec_HoldPlan.callsC k t205 t206 _ _ t207 t210 t211 _ _ t212 _ _ t215 t218 t221 _ ?side1 ?side2 ?side3 ?side4 ?side5 ?side6 A12.out).mono ?_); (case side1 => repeat (first | exact (Kd.Rc_reads' HO209.out).2.2 | (with_reducible refine Kd.C_alloc ?_ _) | (with_reducible refine Kd.C_drewN ?_ _) | (with_reducible refine Kd.C_drew ?_))); (case side2 => exact (Kd.Rc_reads' HO209.out).2.1); (case side3 => repeat (first | exact (Kd.Rc_reads' HO214.out).2.2 | (with_reducible refine Kd.C_alloc ?_ _) | (with_reducible refine Kd.C_drewN ?_ _) | (with_reducible refine Kd.C_drew ?_))); (case side4 => exact (Kd.Rc_reads' HO214.out).2.1); (case side5 => repeat (first | exact (Kd.Rc_reads' HO217.out).2.2 | (with_reducible refine Kd.C_alloc ?_ _) | (with_reducible refine Kd.C_drewN ?_ _) | (with_reducible refine Kd.C_drew ?_))); (case side6 => exact (Kd.Rc_reads' HO217.out).2.1); rintro e w26 ⟨v219, rfl, ho0, hb⟩; refine ⟨_, rfl, ?_⟩; have n0_ := Aside0.mk (Kd.Rc_below (by (with_reducible repeat (first | apply Kd.Rc_alloc | apply Kd.Rc_drewN | apply Kd.Rc_drew)); exact HO209.out) hb); have n1_ := Aside0.mk (Kd.Rc_below (by (with_reducible repeat (first | apply Kd.Rc_alloc | apply Kd.Rc_drewN | apply Kd.Rc_drew)); exact HO214.out) hb); have n2_ := Aside0.mk (Kd.Rc_below (by (with_reducible repeat (first | apply Kd.Rc_alloc | apply Kd.Rc_drewN | apply Kd.Rc_drew)); exact HO217.out) hb); have n3_ := Aside0.mk (Kd.Rc_lower ho0 (below_size (by repeat (first | (with_reducible first | exact HB.out | apply below_alloc | apply pw_below_drewN | apply below_drew1 | refine below_set ?_ GE203.out) | exact HB.out)))); have n4_ := Aside0.mk (blk_below (g := gb203) (o := .cells #[.int .u8 a0_0, .int .u8 a0_1, .slice A0_2 l0_2.length c0_2, .int .u8 a0_3, .int .u8 a0_4, .slice A0_5 l0_5.length c0_5] 47 (0, 0)) (by (with_reducible repeat (first | refine blk_drewN ?_ _ | refine blk_drew ?_ | refine blk_alloc ?_ _)); exact BK203.out) hb); have n5_ := Aside0.mk (below_step (by repeat (first | (with_reducible first | exact HB.out | apply below_alloc | apply pw_below_drewN | apply below_drew1 | refine below_set ?_ GE203.out) | exact HB.out)) hb); clear HO209; clear HO214; clear HO217; clear BK203; clear HB; have HO209 := n0_; have HO214 := n1_; have HO217 := n2_; have HO220 := n3_; have BK203 := n4_; have HB := n5_; clear n0_ n1_ n2_ n3_ n4_ n5_; (try clear hb); (try clear hb2); (try clear hk); (try clear hi); (try clear ho0); have hcz27_0 : w26.cell? ⟨gb203, 0, none⟩ = some (.int .u8 a0_0) := (blk_cell BK203.out 0).trans rfl; have hcz27_1 : w26.cell? ⟨gb203, 1, none⟩ = some (.int .u8 a0_1) := (blk_cell BK203.out 1).trans rfl; have hcz27_2 : w26.cell? ⟨gb203, 2, none⟩ = some (.slice A0_2 l0_2.length c0_2) := (blk_cell BK203.out 2).trans rfl; have hcz27_3 : w26.cell? ⟨gb203, 3, none⟩ = some (.int .u8 a0_3) := (blk_cell BK203.out 3).trans rfl; have hcz27_4 : w26.cell? ⟨gb203, 4, none⟩ = some (.int .u8 a0_4) := (blk_cell BK203.out 4).trans rfl; have hcz27_5 : w26.cell? ⟨gb203, 5, none⟩ = some (.slice A0_5 l0_5.length c0_5) := (blk_cell BK203.out 5).trans rfl; have hfz27_0 := blk_frozen BK203.out 0; have hfz27_1 := blk_frozen BK203.out 1; have hfz27_2 := blk_frozen BK203.out 2; have hfz27_3 := blk_frozen BK203.out 3; have hfz27_4 := blk_frozen BK203.out 4; have hfz27_5 := blk_frozen BK203.out 5) | ((with_reducible refine gate_callee (f := 40) rfl ?_); refine goesL_ (some 34) rfl rfl Try.func40 (by kernel_rfl) rfl #[.agg #[.int .u8 a0_0, .int .u8 a0_1, .slice A0_2 l0_2.length c0_2, .int .u8 a0_3, .int .u8 a0_4, .slice A0_5 l0_5.length c0_5]] rfl (by (try simp only [List.map_toArray, List.map_cons, List.map_nil]); first | done | rfl | (simp only [List.length_drop, List.length_take]; rfl)) ?_; (with_reducible refine (laws_toHoldRom.callsC k a0_0 a0_1 _ _ l0_2 a0_3 a0_4 _ _ l0_5 t222 t223 t224 t227 t228 t229 _ ?side1 ?side2 ?side3 ?side4 A13.out).mono ?_); (case side1 => repeat (first | exact (Kd.C_below HR0_2.out HB.out) | (with_reducible refine Kd.C_alloc ?_ _) | (with_reducible refine Kd.C_drewN ?_ _) | (with_reducible refine Kd.C_drew ?_))); (case side2 => exact HC0_2.out); (case side3 => repeat (first | exact (Kd.C_below HR0_5.out HB.out) | (with_reducible refine Kd.C_alloc ?_ _) | (with_reducible refine Kd.C_drewN ?_ _) | (with_reducible refine Kd.C_drew ?_))); (case side4 => exact HC0_5.out); rintro e w28 ⟨v225, v230, rfl, ho0, ho1, hb⟩; refine ⟨_, rfl, ?_⟩; have n0_ := Aside0.mk (Kd.Rc_mono (Kd.Rc_told (Kd.Rc_told (Kd.Rc_old (by (with_reducible repeat (first | apply Kd.Rc_alloc | apply Kd.Rc_drewN | apply Kd.Rc_drew)); exact HO209.out) hb) (Kd.Rc_base ho0)) (Kd.Rc_base ho1)) (fun _ h_ => h_.1)); have n1_ := Aside0.mk (Kd.Rc_mono (Kd.Rc_told (Kd.Rc_told (Kd.Rc_old (by (with_reducible repeat (first | apply Kd.Rc_alloc | apply Kd.Rc_drewN | apply Kd.Rc_drew)); exact HO214.out) hb) (Kd.Rc_base ho0)) (Kd.Rc_base ho1)) (fun _ h_ => h_.1)); have n2_ := Aside0.mk (Kd.Rc_mono (Kd.Rc_told (Kd.Rc_told (Kd.Rc_old (by (with_reducible repeat (first | apply Kd.Rc_alloc | apply Kd.Rc_drewN | apply Kd.Rc_drew)); exact HO217.out) hb) (Kd.Rc_base ho0)) (Kd.Rc_base ho1)) (fun _ h_ => h_.1)); have n3_ := Aside0.mk (Kd.Rc_below (by (with_reducible repeat (first | apply Kd.Rc_alloc | apply Kd.Rc_drewN | apply Kd.Rc_drew)); exact HO220.out) hb); have n4_ := Aside0.mk (Kd.Rc_lower (Kd.Rc_new' (Kd.Rc_new' (Kd.Rc_new' ho0 (Kd.Rc_lt (by (with_reducible repeat (first | apply Kd.Rc_alloc | apply Kd.Rc_drewN | apply Kd.Rc_drew)); exact HO209.out))) (Kd.Rc_lt (by (with_reducible repeat (first | apply Kd.Rc_alloc | apply Kd.Rc_drewN | apply Kd.Rc_drew)); exact HO214.out))) (Kd.Rc_lt (by (with_reducible repeat (first | apply Kd.Rc_alloc | apply Kd.Rc_drewN | apply Kd.Rc_drew)); exact HO217.out))) (below_size (by repeat (first | (with_reducible first | exact HB.out | apply below_alloc | apply pw_below_drewN | apply below_drew1 | refine below_set ?_ GE203.out) | exact HB.out)))); have n5_ := Aside0.mk (Kd.Rc_lower (Kd.Rc_new' (Kd.Rc_new' (Kd.Rc_new' ho1 (Kd.Rc_lt (by (with_reducible repeat (first | apply Kd.Rc_alloc | apply Kd.Rc_drewN | apply Kd.Rc_drew)); exact HO209.out))) (Kd.Rc_lt (by (with_reducible repeat (first | apply Kd.Rc_alloc | apply Kd.Rc_drewN | apply Kd.Rc_drew)); exact HO214.out))) (Kd.Rc_lt (by (with_reducible repeat (first | apply Kd.Rc_alloc | apply Kd.Rc_drewN | apply Kd.Rc_drew)); exact HO217.out))) (below_size (by repeat (first | (with_reducible first | exact HB.out | apply below_alloc | apply pw_below_drewN | apply below_drew1 | refine below_set ?_ GE203.out) | exact HB.out)))); have n6_ := Aside0.mk (blk_below (g := gb203) (o := .cells #[.int .u8 a0_0, .int .u8 a0_1, .slice A0_2 l0_2.length c0_2, .int .u8 a0_3, .int .u8 a0_4, .slice A0_5 l0_5.length c0_5] 47 (0, 0)) (by (with_reducible repeat (first | refine blk_drewN ?_ _ | refine blk_drew ?_ | refine blk_alloc ?_ _)); exact BK203.out) hb); have n7_ := Aside0.mk (below_step (by repeat (first | (with_reducible first | exact HB.out | apply below_alloc | apply pw_below_drewN | apply below_drew1 | refine below_set ?_ GE203.out) | exact HB.out)) hb); clear HO209; clear HO214; clear HO217; clear HO220; clear BK203; clear HB; have HO209 := n0_; have HO214 := n1_; have HO217 := n2_; have HO220 := n3_; have HO226 := n4_; have HO231 := n5_; have BK203 := n6_; have HB := n7_; clear n0_ n1_ n2_ n3_ n4_ n5_ n6_ n7_; (try clear hb); (try clear hb2); (try clear hk); (try clear hi); (try clear ho0); (try clear ho1)) | ((with_reducible refine gate_dst (N := 8) rfl ?_); refine box_event ?hg (N := 8) ?hd (cs := #[.int .u8 0, .int .u8 0, .slice none 0 0, .int .u8 0, .int .u8 0, .slice none 0 0]) (t := 52) ?hr ?_; (case hd => rfl); (case hg => rfl); (case hr => first | (go_simp; done) | (go_simp; rfl)); intro gb232 hg w29 hbox hb; have n0_ := Aside0.mk (Kd.Rc_below (by (with_reducible repeat (first | apply Kd.Rc_alloc | apply Kd.Rc_drewN | apply Kd.Rc_drew)); exact HO209.out) hb); have n1_ := Aside0.mk (Kd.Rc_below (by (with_reducible repeat (first | apply Kd.Rc_alloc | apply Kd.Rc_drewN | apply Kd.Rc_drew)); exact HO214.out) hb); have n2_ := Aside0.mk (Kd.Rc_below (by (with_reducible repeat (first | apply Kd.Rc_alloc | apply Kd.Rc_drewN | apply Kd.Rc_drew)); exact HO217.out) hb); have n3_ := Aside0.mk (Kd.Rc_below (by (with_reducible repeat (first | apply Kd.Rc_alloc | apply Kd.Rc_drewN | apply Kd.Rc_drew)); exact HO220.out) hb); have n4_ := Aside0.mk (Kd.Rc_below (by (with_reducible repeat (first | apply Kd.Rc_alloc | apply Kd.Rc_drewN | apply Kd.Rc_drew)); exact HO226.out) hb); have n5_ := Aside0.mk (Kd.Rc_below (by (with_reducible repeat (first | apply Kd.Rc_alloc | apply Kd.Rc_drewN | apply Kd.Rc_drew)); exact HO231.out) hb); have n6_ := Aside0.mk (blk_below (g := gb203) (o := .cells #[.int .u8 a0_0, .int .u8 a0_1, .slice A0_2 l0_2.length c0_2, .int .u8 a0_3, .int .u8 a0_4, .slice A0_5 l0_5.length c0_5] 47 (0, 0)) (by (with_reducible repeat (first | refine blk_drewN ?_ _ | refine blk_drew ?_ | refine blk_alloc ?_ _)); exact BK203.out) hb); have n7_ := Aside0.mk (below_step (by repeat (first | (with_reducible first | exact HB.out | apply below_alloc | apply pw_below_drewN | apply below_drew1 | refine below_set ?_ GE203.out) | exact HB.out)) hb); have n8_ := Aside0.mk (hbox); have n9_ := Aside0.mk ((by rw [hg]; exact (below_size (by repeat (first | (with_reducible first | exact HB.out | apply below_alloc | apply pw_below_drewN | apply below_drew1 | refine below_set ?_ GE203.out) | exact HB.out))) : w.heap.size ≤ gb232)); have n10_ := Aside0.mk ((by rw [hg]; exact (below_size (by repeat (first | (with_reducible first | exact HB.out | apply below_alloc | apply pw_below_drewN | apply below_drew1 | refine below_set ?_ GE203.out) | exact HB.out))) : w.heap.size ≤ gb232)); have n11_ := Aside0.mk ((by rw [hg]; exact Nat.ne_of_lt (blk_lt (g := gb203) (o := .cells #[.int .u8 a0_0, .int .u8 a0_1, .slice A0_2 l0_2.length c0_2, .int .u8 a0_3, .int .u8 a0_4, .slice A0_5 l0_5.length c0_5] 47 (0, 0)) (by (with_reducible repeat (first | refine blk_drewN ?_ _ | refine blk_drew ?_ | refine blk_alloc ?_ _)); exact BK203.out)) : gb203 ≠ gb232)); have n12_ := Aside0.mk ((by rw [hg]; exact Nat.ne_of_gt (blk_lt (g := gb203) (o := .cells #[.int .u8 a0_0, .int .u8 a0_1, .slice A0_2 l0_2.length c0_2, .int .u8 a0_3, .int .u8 a0_4, .slice A0_5 l0_5.length c0_5] 47 (0, 0)) (by (with_reducible repeat (first | refine blk_drewN ?_ _ | refine blk_drew ?_ | refine blk_alloc ?_ _)); exact BK203.out)) : gb232 ≠ gb203)); clear HO209; clear HO214; clear HO217; clear HO220; clear HO226; clear HO231; clear BK203; clear HB; have HO209 := n0_; have HO214 := n1_; have HO217 := n2_; have HO220 := n3_; have HO226 := n4_; have HO231 := n5_; have BK203 := n6_; have HB := n7_; have BK232 := n8_; have GW232 := n9_; have GE232 := n10_; have NB203_232 := n11_; have NB232_203 := n12_; clear n0_ n1_ n2_ n3_ n4_ n5_ n6_ n7_ n8_ n9_ n10_ n11_ n12_; clear hb hbox hg; have hnb30 := NB232_203.out; have hnc30 := NB203_232.out; have hcz31_0 : w29.cell? ⟨gb232, 0, none⟩ = some (.int .u8 0) := (blk_cell BK232.out 0).trans rfl; have hcz31_1 : w29.cell? ⟨gb232, 1, none⟩ = some (.int .u8 0) := (blk_cell BK232.out 1).trans rfl; have hcz31_2 : w29.cell? ⟨gb232, 2, none⟩ = some (.slice none 0 0) := (blk_cell BK232.out 2).trans rfl; have hcz31_3 : w29.cell? ⟨gb232, 3, none⟩ = some (.int .u8 0) := (blk_cell BK232.out 3).trans rfl; have hcz31_4 : w29.cell? ⟨gb232, 4, none⟩ = some (.int .u8 0) := (blk_cell BK232.out 4).trans rfl; have hcz31_5 : w29.cell? ⟨gb232, 5, none⟩ = some (.slice none 0 0) := (blk_cell BK232.out 5).trans rfl; have hfz31_0 := blk_frozen BK232.out 0; have hfz31_1 := blk_frozen BK232.out 1; have hfz31_2 := blk_frozen BK232.out 2; have hfz31_3 := blk_frozen BK232.out 3; have hfz31_4 := blk_frozen BK232.out 4; have hfz31_5 := blk_frozen BK232.out 5; obtain ⟨Ao32, co32, eo32⟩ := Kd.Rc_slice HO226.out; subst eo32; obtain ⟨Ao33, co33, eo33⟩ := Kd.Rc_slice HO231.out; subst eo33) | ((with_reducible refine gate_callee (f := 18) rfl ?_); refine goesL_ (some 36) rfl rfl Try.func18 (by kernel_rfl) rfl #[.slice A1 l1.length c1] rfl (by (try simp only [List.map_toArray, List.map_cons, List.map_nil]); first | done | rfl | (simp only [List.length_drop, List.length_take]; rfl)) ?_; (with_reducible refine (laws_toByteS.callsC k _ _ l1 t233 _ ?side1 ?side2 A14.out).mono ?_); (case side1 => exact Kd.C_below HR1.out (by repeat (first | (with_reducible first | exact HB.out | apply below_alloc | apply pw_below_drewN | apply below_drew1 | refine below_set ?_ GE203.out | refine below_set ?_ GE232.out) | exact HB.out))); (case side2 => exact HC1.out); rintro e w34 ⟨v234, rfl, ho0, hb⟩; refine ⟨_, rfl, ?_⟩; have n0_ := Aside0.mk (Kd.Rc_elder' (by (with_reducible repeat (first | apply Kd.Rc_alloc | apply Kd.Rc_drewN | apply Kd.Rc_drew)); exact (Kd.Rc_mono (Kd.Rc_far (p := ⟨gb232, 5, none⟩) (Kd.Rc_far (p := ⟨gb232, 4, none⟩) (Kd.Rc_far (p := ⟨gb232, 3, none⟩) (Kd.Rc_far (p := ⟨gb232, 2, none⟩) (Kd.Rc_far (p := ⟨gb232, 1, none⟩) (Kd.Rc_far (p := ⟨gb232, 0, none⟩) (Kd.Rc_types HO209.out BK232.out (by decide)) (fun _ hk => hk.2) (.int .u8 t222)) (fun _ hk => hk.2) (.int .u8 t223)) (fun _ hk => hk.2) (.slice Ao32 t224.length co32)) (fun _ hk => hk.2) (.int .u8 t227)) (fun _ hk => hk.2) (.int .u8 t228)) (fun _ hk => hk.2) (.slice Ao33 t229.length co33)) (fun _ h_ => h_.1))) (Kd.Rc_base ho0) hb); have n1_ := Aside0.mk (Kd.Rc_elder' (by (with_reducible repeat (first | apply Kd.Rc_alloc | apply Kd.Rc_drewN | apply Kd.Rc_drew)); exact (Kd.Rc_mono (Kd.Rc_far (p := ⟨gb232, 5, none⟩) (Kd.Rc_far (p := ⟨gb232, 4, none⟩) (Kd.Rc_far (p := ⟨gb232, 3, none⟩) (Kd.Rc_far (p := ⟨gb232, 2, none⟩) (Kd.Rc_far (p := ⟨gb232, 1, none⟩) (Kd.Rc_far (p := ⟨gb232, 0, none⟩) (Kd.Rc_types HO214.out BK232.out (by decide)) (fun _ hk => hk.2) (.int .u8 t222)) (fun _ hk => hk.2) (.int .u8 t223)) (fun _ hk => hk.2) (.slice Ao32 t224.length co32)) (fun _ hk => hk.2) (.int .u8 t227)) (fun _ hk => hk.2) (.int .u8 t228)) (fun _ hk => hk.2) (.slice Ao33 t229.length co33)) (fun _ h_ => h_.1))) (Kd.Rc_base ho0) hb); have n2_ := Aside0.mk (Kd.Rc_elder' (by (with_reducible repeat (first | apply Kd.Rc_alloc | apply Kd.Rc_drewN | apply Kd.Rc_drew)); exact (Kd.Rc_mono (Kd.Rc_far (p := ⟨gb232, 5, none⟩) (Kd.Rc_far (p := ⟨gb232, 4, none⟩) (Kd.Rc_far (p := ⟨gb232, 3, none⟩) (Kd.Rc_far (p := ⟨gb232, 2, none⟩) (Kd.Rc_far (p := ⟨gb232, 1, none⟩) (Kd.Rc_far (p := ⟨gb232, 0, none⟩) (Kd.Rc_types HO217.out BK232.out (by decide)) (fun _ hk => hk.2) (.int .u8 t222)) (fun _ hk => hk.2) (.int .u8 t223)) (fun _ hk => hk.2) (.slice Ao32 t224.length co32)) (fun _ hk => hk.2) (.int .u8 t227)) (fun _ hk => hk.2) (.int .u8 t228)) (fun _ hk => hk.2) (.slice Ao33 t229.length co33)) (fun _ h_ => h_.1))) (Kd.Rc_base ho0) hb); have n3_ := Aside0.mk (Kd.Rc_below (by (with_reducible repeat (first | apply Kd.Rc_alloc | apply Kd.Rc_drewN | apply Kd.Rc_drew)); exact (Kd.Rc_mono (Kd.Rc_far (p := ⟨gb232, 5, none⟩) (Kd.Rc_far (p := ⟨gb232, 4, none⟩) (Kd.Rc_far (p := ⟨gb232, 3, none⟩) (Kd.Rc_far (p := ⟨gb232, 2, none⟩) (Kd.Rc_far (p := ⟨gb232, 1, none⟩) (Kd.Rc_far (p := ⟨gb232, 0, none⟩) (Kd.Rc_types HO220.out BK232.out (by decide)) (fun _ hk => hk.2) (.int .u8 t222)) (fun _ hk => hk.2) (.int .u8 t223)) (fun _ hk => hk.2) (.slice Ao32 t224.length co32)) (fun _ hk => hk.2) (.int .u8 t227)) (fun _ hk => hk.2) (.int .u8 t228)) (fun _ hk => hk.2) (.slice Ao33 t229.length co33)) (fun _ h_ => h_.1))) hb); have n4_ := Aside0.mk (Kd.Rc_elder' (by (with_reducible repeat (first | apply Kd.Rc_alloc | apply Kd.Rc_drewN | apply Kd.Rc_drew)); exact (Kd.Rc_mono (Kd.Rc_far (p := ⟨gb232, 5, none⟩) (Kd.Rc_far (p := ⟨gb232, 4, none⟩) (Kd.Rc_far (p := ⟨gb232, 3, none⟩) (Kd.Rc_far (p := ⟨gb232, 2, none⟩) (Kd.Rc_far (p := ⟨gb232, 1, none⟩) (Kd.Rc_far (p := ⟨gb232, 0, none⟩) (Kd.Rc_types HO226.out BK232.out (by decide)) (fun _ hk => hk.2) (.int .u8 t222)) (fun _ hk => hk.2) (.int .u8 t223)) (fun _ hk => hk.2) (.slice Ao32 t224.length co32)) (fun _ hk => hk.2) (.int .u8 t227)) (fun _ hk => hk.2) (.int .u8 t228)) (fun _ hk => hk.2) (.slice Ao33 t229.length co33)) (fun _ h_ => h_.1))) (Kd.Rc_base ho0) hb); have n5_ := Aside0.mk (Kd.Rc_elder' (by (with_reducible repeat (first | apply Kd.Rc_alloc | apply Kd.Rc_drewN | apply Kd.Rc_drew)); exact (Kd.Rc_mono (Kd.Rc_far (p := ⟨gb232, 5, none⟩) (Kd.Rc_far (p := ⟨gb232, 4, none⟩) (Kd.Rc_far (p := ⟨gb232, 3, none⟩) (Kd.Rc_far (p := ⟨gb232, 2, none⟩) (Kd.Rc_far (p := ⟨gb232, 1, none⟩) (Kd.Rc_far (p := ⟨gb232, 0, none⟩) (Kd.Rc_types HO231.out BK232.out (by decide)) (fun _ hk => hk.2) (.int .u8 t222)) (fun _ hk => hk.2) (.int .u8 t223)) (fun _ hk => hk.2) (.slice Ao32 t224.length co32)) (fun _ hk => hk.2) (.int .u8 t227)) (fun _ hk => hk.2) (.int .u8 t228)) (fun _ hk => hk.2) (.slice Ao33 t229.length co33)) (fun _ h_ => h_.1))) (Kd.Rc_base ho0) hb); have n6_ := Aside0.mk (Kd.Rc_lower (Kd.Rc_new' (Kd.Rc_new' (Kd.Rc_new' (Kd.Rc_new' (Kd.Rc_new' ho0 (Kd.Rc_lt (by (with_reducible repeat (first | apply Kd.Rc_alloc | apply Kd.Rc_drewN | apply Kd.Rc_drew)); exact (Kd.Rc_mono (Kd.Rc_far (p := ⟨gb232, 5, none⟩) (Kd.Rc_far (p := ⟨gb232, 4, none⟩) (Kd.Rc_far (p := ⟨gb232, 3, none⟩) (Kd.Rc_far (p := ⟨gb232, 2, none⟩) (Kd.Rc_far (p := ⟨gb232, 1, none⟩) (Kd.Rc_far (p := ⟨gb232, 0, none⟩) (Kd.Rc_types HO209.out BK232.out (by decide)) (fun _ hk => hk.2) (.int .u8 t222)) (fun _ hk => hk.2) (.int .u8 t223)) (fun _ hk => hk.2) (.slice Ao32 t224.length co32)) (fun _ hk => hk.2) (.int .u8 t227)) (fun _ hk => hk.2) (.int .u8 t228)) (fun _ hk => hk.2) (.slice Ao33 t229.length co33)) (fun _ h_ => h_.1))))) (Kd.Rc_lt (by (with_reducible repeat (first | apply Kd.Rc_alloc | apply Kd.Rc_drewN | apply Kd.Rc_drew)); exact (Kd.Rc_mono (Kd.Rc_far (p := ⟨gb232, 5, none⟩) (Kd.Rc_far (p := ⟨gb232, 4, none⟩) (Kd.Rc_far (p := ⟨gb232, 3, none⟩) (Kd.Rc_far (p := ⟨gb232, 2, none⟩) (Kd.Rc_far (p := ⟨gb232, 1, none⟩) (Kd.Rc_far (p := ⟨gb232, 0, none⟩) (Kd.Rc_types HO214.out BK232.out (by decide)) (fun _ hk => hk.2) (.int .u8 t222)) (fun _ hk => hk.2) (.int .u8 t223)) (fun _ hk => hk.2) (.slice Ao32 t224.length co32)) (fun _ hk => hk.2) (.int .u8 t227)) (fun _ hk => hk.2) (.int .u8 t228)) (fun _ hk => hk.2) (.slice Ao33 t229.length co33)) (fun _ h_ => h_.1))))) (Kd.Rc_lt (by (with_reducible repeat (first | apply Kd.Rc_alloc | apply Kd.Rc_drewN | apply Kd.Rc_drew)); exact (Kd.Rc_mono (Kd.Rc_far (p := ⟨gb232, 5, none⟩) (Kd.Rc_far (p := ⟨gb232, 4, none⟩) (Kd.Rc_far (p := ⟨gb232, 3, none⟩) (Kd.Rc_far (p := ⟨gb232, 2, none⟩) (Kd.Rc_far (p := ⟨gb232, 1, none⟩) (Kd.Rc_far (p := ⟨gb232, 0, none⟩) (Kd.Rc_types HO217.out BK232.out (by decide)) (fun _ hk => hk.2) (.int .u8 t222)) (fun _ hk => hk.2) (.int .u8 t223)) (fun _ hk => hk.2) (.slice Ao32 t224.length co32)) (fun _ hk => hk.2) (.int .u8 t227)) (fun _ hk => hk.2) (.int .u8 t228)) (fun _ hk => hk.2) (.slice Ao33 t229.length co33)) (fun _ h_ => h_.1))))) (Kd.Rc_lt (by (with_reducible repeat (first | apply Kd.Rc_alloc | apply Kd.Rc_drewN | apply Kd.Rc_drew)); exact (Kd.Rc_mono (Kd.Rc_far (p := ⟨gb232, 5, none⟩) (Kd.Rc_far (p := ⟨gb232, 4, none⟩) (Kd.Rc_far (p := ⟨gb232, 3, none⟩) (Kd.Rc_far (p := ⟨gb232, 2, none⟩) (Kd.Rc_far (p := ⟨gb232, 1, none⟩) (Kd.Rc_far (p := ⟨gb232, 0, none⟩) (Kd.Rc_types HO226.out BK232.out (by decide)) (fun _ hk => hk.2) (.int .u8 t222)) (fun _ hk => hk.2) (.int .u8 t223)) (fun _ hk => hk.2) (.slice Ao32 t224.length co32)) (fun _ hk => hk.2) (.int .u8 t227)) (fun _ hk => hk.2) (.int .u8 t228)) (fun _ hk => hk.2) (.slice Ao33 t229.length co33)) (fun _ h_ => h_.1))))) (Kd.Rc_lt (by (with_reducible repeat (first | apply Kd.Rc_alloc | apply Kd.Rc_drewN | apply Kd.Rc_drew)); exact (Kd.Rc_mono (Kd.Rc_far (p := ⟨gb232, 5, none⟩) (Kd.Rc_far (p := ⟨gb232, 4, none⟩) (Kd.Rc_far (p := ⟨gb232, 3, none⟩) (Kd.Rc_far (p := ⟨gb232, 2, none⟩) (Kd.Rc_far (p := ⟨gb232, 1, none⟩) (Kd.Rc_far (p := ⟨gb232, 0, none⟩) (Kd.Rc_types HO231.out BK232.out (by decide)) (fun _ hk => hk.2) (.int .u8 t222)) (fun _ hk => hk.2) (.int .u8 t223)) (fun _ hk => hk.2) (.slice Ao32 t224.length co32)) (fun _ hk => hk.2) (.int .u8 t227)) (fun _ hk => hk.2) (.int .u8 t228)) (fun _ hk => hk.2) (.slice Ao33 t229.length co33)) (fun _ h_ => h_.1))))) (below_size (by repeat (first | (with_reducible first | exact HB.out | apply below_alloc | apply pw_below_drewN | apply below_drew1 | refine below_set ?_ GE203.out | refine below_set ?_ GE232.out) | exact HB.out)))); have n7_ := Aside0.mk (blk_below (g := gb203) (o := .cells #[.int .u8 a0_0, .int .u8 a0_1, .slice A0_2 l0_2.length c0_2, .int .u8 a0_3, .int .u8 a0_4, .slice A0_5 l0_5.length c0_5] 47 (0, 0)) (by (with_reducible repeat (first | refine blk_drewN ?_ _ | refine blk_drew ?_ | refine blk_alloc ?_ _)); refine blk_far ?_ NB203_232.out _; (with_reducible repeat (first | refine blk_drewN ?_ _ | refine blk_drew ?_ | refine blk_alloc ?_ _)); refine blk_far ?_ NB203_232.out _; (with_reducible repeat (first | refine blk_drewN ?_ _ | refine blk_drew ?_ | refine blk_alloc ?_ _)); refine blk_far ?_ NB203_232.out _; (with_reducible repeat (first | refine blk_drewN ?_ _ | refine blk_drew ?_ | refine blk_alloc ?_ _)); refine blk_far ?_ NB203_232.out _; (with_reducible repeat (first | refine blk_drewN ?_ _ | refine blk_drew ?_ | refine blk_alloc ?_ _)); refine blk_far ?_ NB203_232.out _; (with_reducible repeat (first | refine blk_drewN ?_ _ | refine blk_drew ?_ | refine blk_alloc ?_ _)); refine blk_far ?_ NB203_232.out _; (with_reducible repeat (first | refine blk_drewN ?_ _ | refine blk_drew ?_ | refine blk_alloc ?_ _)); exact BK203.out) hb); have n8_ := Aside0.mk (blk_below (g := gb232) (o := .cells #[.int .u8 t222, .int .u8 t223, .slice Ao32 t224.length co32, .int .u8 t227, .int .u8 t228, .slice Ao33 t229.length co33] 52 (0, 0)) (by (with_reducible repeat (first | refine blk_drewN ?_ _ | refine blk_drew ?_ | refine blk_alloc ?_ _)); refine blk_put (cs := #[.int .u8 t222, .int .u8 t223, .slice Ao32 t224.length co32, .int .u8 t227, .int .u8 t228, .slice none 0 0]) ?_ 5 _ rfl; (with_reducible repeat (first | refine blk_drewN ?_ _ | refine blk_drew ?_ | refine blk_alloc ?_ _)); refine blk_put (cs := #[.int .u8 t222, .int .u8 t223, .slice Ao32 t224.length co32, .int .u8 t227, .int .u8 0, .slice none 0 0]) ?_ 4 _ rfl; (with_reducible repeat (first | refine blk_drewN ?_ _ | refine blk_drew ?_ | refine blk_alloc ?_ _)); refine blk_put (cs := #[.int .u8 t222, .int .u8 t223, .slice Ao32 t224.length co32, .int .u8 0, .int .u8 0, .slice none 0 0]) ?_ 3 _ rfl; (with_reducible repeat (first | refine blk_drewN ?_ _ | refine blk_drew ?_ | refine blk_alloc ?_ _)); refine blk_put (cs := #[.int .u8 t222, .int .u8 t223, .slice none 0 0, .int .u8 0, .int .u8 0, .slice none 0 0]) ?_ 2 _ rfl; (with_reducible repeat (first | refine blk_drewN ?_ _ | refine blk_drew ?_ | refine blk_alloc ?_ _)); refine blk_put (cs := #[.int .u8 t222, .int .u8 0, .slice none 0 0, .int .u8 0, .int .u8 0, .slice none 0 0]) ?_ 1 _ rfl; (with_reducible repeat (first | refine blk_drewN ?_ _ | refine blk_drew ?_ | refine blk_alloc ?_ _)); refine blk_put (cs := #[.int .u8 0, .int .u8 0, .slice none 0 0, .int .u8 0, .int .u8 0, .slice none 0 0]) ?_ 0 _ rfl; (with_reducible repeat (first | refine blk_drewN ?_ _ | refine blk_drew ?_ | refine blk_alloc ?_ _)); exact BK232.out) hb); have n9_ := Aside0.mk (below_step (by repeat (first | (with_reducible first | exact HB.out | apply below_alloc | apply pw_below_drewN | apply below_drew1 | refine below_set ?_ GE203.out | refine below_set ?_ GE232.out) | exact HB.out)) hb); clear HO209; clear HO214; clear HO217; clear HO220; clear HO226; clear HO231; clear BK203; clear BK232; clear HB; have HO209 := n0_; have HO214 := n1_; have HO217 := n2_; have HO220 := n3_; have HO226 := n4_; have HO231 := n5_; have HO235 := n6_; have BK203 := n7_; have BK232 := n8_; have HB := n9_; clear n0_ n1_ n2_ n3_ n4_ n5_ n6_ n7_ n8_ n9_; (try clear hb); (try clear hb2); (try clear hk); (try clear hi); (try clear ho0); have hcz35_0 : w34.cell? ⟨gb232, 0, none⟩ = some (.int .u8 t222) := (blk_cell BK232.out 0).trans rfl; have hcz35_1 : w34.cell? ⟨gb232, 1, none⟩ = some (.int .u8 t223) := (blk_cell BK232.out 1).trans rfl; have hcz35_2 : w34.cell? ⟨gb232, 2, none⟩ = some (.slice Ao32 t224.length co32) := (blk_cell BK232.out 2).trans rfl; have hcz35_3 : w34.cell? ⟨gb232, 3, none⟩ = some (.int .u8 t227) := (blk_cell BK232.out 3).trans rfl; have hcz35_4 : w34.cell? ⟨gb232, 4, none⟩ = some (.int .u8 t228) := (blk_cell BK232.out 4).trans rfl; have hcz35_5 : w34.cell? ⟨gb232, 5, none⟩ = some (.slice Ao33 t229.length co33) := (blk_cell BK232.out 5).trans rfl; have hfz35_0 := blk_frozen BK232.out 0; have hfz35_1 := blk_frozen BK232.out 1; have hfz35_2 := blk_frozen BK232.out 2; have hfz35_3 := blk_frozen BK232.out 3; have hfz35_4 := blk_frozen BK232.out 4; have hfz35_5 := blk_frozen BK232.out 5; obtain ⟨Ao36, co36, eo36⟩ := Kd.Rc_slice HO235.out; subst eo36) | ((with_reducible refine gate_callee (f := 58) rfl ?_); refine goesL_ (some 40) rfl rfl Try.func58 (by kernel_rfl) rfl #[.agg #[.int .u8 t222, .int .u8 t223, .slice Ao32 t224.length co32, .int .u8 t227, .int .u8 t228, .slice Ao33 t229.length co33], .slice Ao36 t233.length co36] rfl (by (try simp only [List.map_toArray, List.map_cons, List.map_nil]); first | done | rfl | (simp only [List.length_drop, List.length_take]; rfl)) ?_; (with_reducible refine (impl_HoldPlan.calls k t222 t223 _ _ t224 t227 t228 _ _ t229 _ _ t233 t236 t239 _ ?side1 ?side2 ?side3 ?side4 ?side5 ?side6 A15.out).mono ?_); (case side1 => repeat (first | exact (Kd.Rc_reads' HO226.out).2.2 | (with_reducible refine Kd.C_alloc ?_ _) | (with_reducible refine Kd.C_drewN ?_ _) | (with_reducible refine Kd.C_drew ?_))); (case side2 => exact (Kd.Rc_reads' HO226.out).2.1); (case side3 => repeat (first | exact (Kd.Rc_reads' HO231.out).2.2 | (with_reducible refine Kd.C_alloc ?_ _) | (with_reducible refine Kd.C_drewN ?_ _) | (with_reducible refine Kd.C_drew ?_))); (case side4 => exact (Kd.Rc_reads' HO231.out).2.1); (case side5 => repeat (first | exact (Kd.Rc_reads' HO235.out).2.2 | (with_reducible refine Kd.C_alloc ?_ _) | (with_reducible refine Kd.C_drewN ?_ _) | (with_reducible refine Kd.C_drew ?_))); (case side6 => exact (Kd.Rc_reads' HO235.out).2.1); rintro e w37 ⟨v237, rfl, ho0, hb⟩; refine ⟨_, rfl, ?_⟩; have n0_ := Aside0.mk (Kd.Rc_below (by (with_reducible repeat (first | apply Kd.Rc_alloc | apply Kd.Rc_drewN | apply Kd.Rc_drew)); exact HO209.out) hb); have n1_ := Aside0.mk (Kd.Rc_below (by (with_reducible repeat (first | apply Kd.Rc_alloc | apply Kd.Rc_drewN | apply Kd.Rc_drew)); exact HO214.out) hb); have n2_ := Aside0.mk (Kd.Rc_below (by (with_reducible repeat (first | apply Kd.Rc_alloc | apply Kd.Rc_drewN | apply Kd.Rc_drew)); exact HO217.out) hb); have n3_ := Aside0.mk (Kd.Rc_elder' (by (with_reducible repeat (first | apply Kd.Rc_alloc | apply Kd.Rc_drewN | apply Kd.Rc_drew)); exact HO220.out) (Kd.Rc_base ho0) hb); have n4_ := Aside0.mk (Kd.Rc_below (by (with_reducible repeat (first | apply Kd.Rc_alloc | apply Kd.Rc_drewN | apply Kd.Rc_drew)); exact HO226.out) hb); have n5_ := Aside0.mk (Kd.Rc_below (by (with_reducible repeat (first | apply Kd.Rc_alloc | apply Kd.Rc_drewN | apply Kd.Rc_drew)); exact HO231.out) hb); have n6_ := Aside0.mk (Kd.Rc_below (by (with_reducible repeat (first | apply Kd.Rc_alloc | apply Kd.Rc_drewN | apply Kd.Rc_drew)); exact HO235.out) hb); have n7_ := Aside0.mk (Kd.Rc_lower (Kd.Rc_new' ho0 (Kd.Rc_lt (by (with_reducible repeat (first | apply Kd.Rc_alloc | apply Kd.Rc_drewN | apply Kd.Rc_drew)); exact HO220.out))) (below_size (by repeat (first | (with_reducible first | exact HB.out | apply below_alloc | apply pw_below_drewN | apply below_drew1 | refine below_set ?_ GE203.out | refine below_set ?_ GE232.out) | exact HB.out)))); have n8_ := Aside0.mk (blk_below (g := gb203) (o := .cells #[.int .u8 a0_0, .int .u8 a0_1, .slice A0_2 l0_2.length c0_2, .int .u8 a0_3, .int .u8 a0_4, .slice A0_5 l0_5.length c0_5] 47 (0, 0)) (by (with_reducible repeat (first | refine blk_drewN ?_ _ | refine blk_drew ?_ | refine blk_alloc ?_ _)); exact BK203.out) hb); have n9_ := Aside0.mk (blk_below (g := gb232) (o := .cells #[.int .u8 t222, .int .u8 t223, .slice Ao32 t224.length co32, .int .u8 t227, .int .u8 t228, .slice Ao33 t229.length co33] 52 (0, 0)) (by (with_reducible repeat (first | refine blk_drewN ?_ _ | refine blk_drew ?_ | refine blk_alloc ?_ _)); exact BK232.out) hb); have n10_ := Aside0.mk (below_step (by repeat (first | (with_reducible first | exact HB.out | apply below_alloc | apply pw_below_drewN | apply below_drew1 | refine below_set ?_ GE203.out | refine below_set ?_ GE232.out) | exact HB.out)) hb); clear HO209; clear HO214; clear HO217; clear HO220; clear HO226; clear HO231; clear HO235; clear BK203; clear BK232; clear HB; have HO209 := n0_; have HO214 := n1_; have HO217 := n2_; have HO220 := n3_; have HO226 := n4_; have HO231 := n5_; have HO235 := n6_; have HO238 := n7_; have BK203 := n8_; have BK232 := n9_; have HB := n10_; clear n0_ n1_ n2_ n3_ n4_ n5_ n6_ n7_ n8_ n9_ n10_; (try clear hb); (try clear hb2); (try clear hk); (try clear hi); (try clear ho0)))
      (try simp only [Act.put, List.setIfInBounds_toArray, List.set_cons_zero, List.set_cons_succ])
      go_cut [51] (fun v51 wc => ∃ (kq : Nat) (x51_15 : Bool), v51 = .bool x51_15 ∧ Aside0 (laws_FnExactHoldPlan.j0 kq l1 t218 t221 t233 t236 t239 x51_15 a0_0 a0_1 l0_2 a0_3 a0_4 l0_5 t222 t223 t224 t227 t228 t229 = some r) ∧ Aside0 (kq ≤ k) ∧ Aside0 (Kd.Rc k104 104 wc w.heap.size (fun k_ => some k_ ≠ (v237 : Value).ownBlock) v219 t218) ∧ Aside0 (Kd.Rc (Kd.int .u8) 5 wc w.heap.size (fun k_ => some k_ ≠ ((.slice Ao32 t224.length co32) : Value).ownBlock ∧ some k_ ≠ ((.slice Ao33 t229.length co33) : Value).ownBlock) (.slice Ao36 t233.length co36) t233) ∧ Aside0 (Kd.Rc k104 104 wc w.heap.size (fun k_ => some k_ ≠ (v219 : Value).ownBlock) v237 t236) ∧ Aside0 (Kd.Rc (Kd.int .u8) 5 wc w.heap.size (fun k_ => some k_ ≠ ((.slice Ao36 t233.length co36) : Value).ownBlock ∧ some k_ ≠ ((.slice Ao33 t229.length co33) : Value).ownBlock) (.slice Ao32 t224.length co32) t224) ∧ Aside0 (Kd.Rc (Kd.int .u8) 5 wc w.heap.size (fun k_ => some k_ ≠ ((.slice Ao36 t233.length co36) : Value).ownBlock ∧ some k_ ≠ ((.slice Ao32 t224.length co32) : Value).ownBlock) (.slice Ao33 t229.length co33) t229) ∧ Aside0 (wc.heap[gb203]? = some (.cells #[.int .u8 a0_0, .int .u8 a0_1, (.slice A0_2 l0_2.length c0_2), .int .u8 a0_3, .int .u8 a0_4, (.slice A0_5 l0_5.length c0_5)] 47 (0, 0))) ∧ Aside0 (wc.heap[gb232]? = some (.cells #[.int .u8 t222, .int .u8 t223, (.slice Ao32 t224.length co32), .int .u8 t227, .int .u8 t228, (.slice Ao33 t229.length co33)] 52 (0, 0))) ∧ Aside0 (Below w.heap.size w wc))
      case first =>
        have H := HC16.out
        clear HC16
        replace H := Option.bind_eq_some_iff.mp H
        obtain ⟨t240, A380, H⟩ := H
        replace H : (if t240 = true then (laws_FnExactHoldPlan.j0 k l1 t218 t221 t233 t236 t239 (t239 != t221) a0_0 a0_1 l0_2 a0_3 a0_4 l0_5 t222 t223 t224 t227 t228 t229) else (laws_FnExactHoldPlan.j0 k l1 t218 t221 t233 t236 t239 true a0_0 a0_1 l0_2 a0_3 a0_4 l0_5 t222 t223 t224 t227 t228 t229)) = some r := H
        have A38 := Aside0.mk A380
        clear A380
        by_cases c39 : t240 = true
        · subst c39
          have H1 : (laws_FnExactHoldPlan.j0 k l1 t218 t221 t233 t236 t239 (t239 != t221) a0_0 a0_1 l0_2 a0_3 a0_4 l0_5 t222 t223 t224 t227 t228 t229) = some r := by rw [if_pos rfl] at H; exact H
          clear H
          have H := H1
          clear H1
          have H' := Aside0.mk H
          clear H
          obtain ⟨Ao40, co40, eo40⟩ := Kd.Rc_slice HO238.out
          subst eo40
          obtain ⟨Ao41, co41, eo41⟩ := Kd.Rc_slice HO220.out
          subst eo41
          go_wp2_with (first | ((with_reducible refine gate_callee (f := 59) rfl ?_); refine goesL_ (some 45) rfl rfl Try.func59 (by kernel_rfl) rfl #[.slice Ao40 t236.length co40, .slice Ao41 t218.length co41] rfl (by (try simp only [List.map_toArray, List.map_cons, List.map_nil]); first | done | rfl | (simp only [List.length_drop, List.length_take]; rfl)) ?_; (with_reducible refine (laws_eqHoldWriteS.calls k _ _ t236 _ _ t218 true _ ?side1 ?side2 ?side3 ?side4 A38.out).mono ?_); (case side1 => repeat (first | exact (Kd.Rc_reads' HO238.out).2.2 | (with_reducible refine Kd.C_alloc ?_ _) | (with_reducible refine Kd.C_drewN ?_ _) | (with_reducible refine Kd.C_drew ?_))); (case side2 => exact (Kd.Rc_reads' HO238.out).2.1); (case side3 => repeat (first | exact (Kd.Rc_reads' HO220.out).2.2 | (with_reducible refine Kd.C_alloc ?_ _) | (with_reducible refine Kd.C_drewN ?_ _) | (with_reducible refine Kd.C_drew ?_))); (case side4 => exact (Kd.Rc_reads' HO220.out).2.1); rintro e w42 ⟨rfl, hb⟩; refine ⟨_, rfl, ?_⟩; have n0_ := Aside0.mk (Kd.Rc_below (by (with_reducible repeat (first | apply Kd.Rc_alloc | apply Kd.Rc_drewN | apply Kd.Rc_drew)); exact HO209.out) hb); have n1_ := Aside0.mk (Kd.Rc_below (by (with_reducible repeat (first | apply Kd.Rc_alloc | apply Kd.Rc_drewN | apply Kd.Rc_drew)); exact HO214.out) hb); have n2_ := Aside0.mk (Kd.Rc_below (by (with_reducible repeat (first | apply Kd.Rc_alloc | apply Kd.Rc_drewN | apply Kd.Rc_drew)); exact HO217.out) hb); have n3_ := Aside0.mk (Kd.Rc_below (by (with_reducible repeat (first | apply Kd.Rc_alloc | apply Kd.Rc_drewN | apply Kd.Rc_drew)); exact HO220.out) hb); have n4_ := Aside0.mk (Kd.Rc_below (by (with_reducible repeat (first | apply Kd.Rc_alloc | apply Kd.Rc_drewN | apply Kd.Rc_drew)); exact HO226.out) hb); have n5_ := Aside0.mk (Kd.Rc_below (by (with_reducible repeat (first | apply Kd.Rc_alloc | apply Kd.Rc_drewN | apply Kd.Rc_drew)); exact HO231.out) hb); have n6_ := Aside0.mk (Kd.Rc_below (by (with_reducible repeat (first | apply Kd.Rc_alloc | apply Kd.Rc_drewN | apply Kd.Rc_drew)); exact HO235.out) hb); have n7_ := Aside0.mk (Kd.Rc_below (by (with_reducible repeat (first | apply Kd.Rc_alloc | apply Kd.Rc_drewN | apply Kd.Rc_drew)); exact HO238.out) hb); have n8_ := Aside0.mk (blk_below (g := gb203) (o := .cells #[.int .u8 a0_0, .int .u8 a0_1, .slice A0_2 l0_2.length c0_2, .int .u8 a0_3, .int .u8 a0_4, .slice A0_5 l0_5.length c0_5] 47 (0, 0)) (by (with_reducible repeat (first | refine blk_drewN ?_ _ | refine blk_drew ?_ | refine blk_alloc ?_ _)); exact BK203.out) hb); have n9_ := Aside0.mk (blk_below (g := gb232) (o := .cells #[.int .u8 t222, .int .u8 t223, .slice Ao32 t224.length co32, .int .u8 t227, .int .u8 t228, .slice Ao33 t229.length co33] 52 (0, 0)) (by (with_reducible repeat (first | refine blk_drewN ?_ _ | refine blk_drew ?_ | refine blk_alloc ?_ _)); exact BK232.out) hb); have n10_ := Aside0.mk (below_step (by repeat (first | (with_reducible first | exact HB.out | apply below_alloc | apply pw_below_drewN | apply below_drew1 | refine below_set ?_ GE203.out | refine below_set ?_ GE232.out) | exact HB.out)) hb); clear HO209; clear HO214; clear HO217; clear HO220; clear HO226; clear HO231; clear HO235; clear HO238; clear BK203; clear BK232; clear HB; have HO209 := n0_; have HO214 := n1_; have HO217 := n2_; have HO220 := n3_; have HO226 := n4_; have HO231 := n5_; have HO235 := n6_; have HO238 := n7_; have BK203 := n8_; have BK232 := n9_; have HB := n10_; clear n0_ n1_ n2_ n3_ n4_ n5_ n6_ n7_ n8_ n9_ n10_; (try clear hb); (try clear hb2); (try clear hk); (try clear hi)))
          go_meet
          case rel => exact ⟨_, ((t239 != t221)), (by first | rfl | (simp; done) | (simp [*]; done)), H', ⟨by first | omega | exact Nat.le_refl _⟩, ⟨by (with_reducible repeat (first | apply Kd.Rc_alloc | apply Kd.Rc_drewN | apply Kd.Rc_drew)); exact Kd.Rc_mono HO220.out (fun _ hk => hk.2)⟩, ⟨by (with_reducible repeat (first | apply Kd.Rc_alloc | apply Kd.Rc_drewN | apply Kd.Rc_drew)); exact Kd.Rc_mono HO235.out (fun _ hk => ⟨hk.1.2, hk.2⟩)⟩, ⟨by (with_reducible repeat (first | apply Kd.Rc_alloc | apply Kd.Rc_drewN | apply Kd.Rc_drew)); exact Kd.Rc_mono HO238.out (fun _ hk => hk.2)⟩, ⟨by (with_reducible repeat (first | apply Kd.Rc_alloc | apply Kd.Rc_drewN | apply Kd.Rc_drew)); exact Kd.Rc_mono HO226.out (fun _ hk => ⟨hk.2, hk.1.1.1.1⟩)⟩, ⟨by (with_reducible repeat (first | apply Kd.Rc_alloc | apply Kd.Rc_drewN | apply Kd.Rc_drew)); exact Kd.Rc_mono HO231.out (fun _ hk => ⟨hk.2, hk.1.1.1.1⟩)⟩, ⟨by (with_reducible repeat (first | refine blk_drewN ?_ _ | refine blk_drew ?_ | refine blk_alloc ?_ _)); exact BK203.out⟩, ⟨by (with_reducible repeat (first | refine blk_drewN ?_ _ | refine blk_drew ?_ | refine blk_alloc ?_ _)); exact BK232.out⟩, ⟨by repeat (first | (with_reducible first | exact HB.out | apply below_alloc | apply pw_below_drewN | apply below_drew1 | refine below_set ?_ GE203.out | refine below_set ?_ GE232.out) | exact HB.out)⟩⟩
        · replace c39 := Bool.eq_false_iff.mpr c39
          subst c39
          have H1 : (laws_FnExactHoldPlan.j0 k l1 t218 t221 t233 t236 t239 true a0_0 a0_1 l0_2 a0_3 a0_4 l0_5 t222 t223 t224 t227 t228 t229) = some r := by rw [if_neg (show ¬ (false = true) by decide)] at H; exact H
          clear H
          have H := H1
          clear H1
          have H' := Aside0.mk H
          clear H
          obtain ⟨Ao43, co43, eo43⟩ := Kd.Rc_slice HO238.out
          subst eo43
          obtain ⟨Ao44, co44, eo44⟩ := Kd.Rc_slice HO220.out
          subst eo44
          go_wp2_with (first | ((with_reducible refine gate_callee (f := 59) rfl ?_); refine goesL_ (some 45) rfl rfl Try.func59 (by kernel_rfl) rfl #[.slice Ao43 t236.length co43, .slice Ao44 t218.length co44] rfl (by (try simp only [List.map_toArray, List.map_cons, List.map_nil]); first | done | rfl | (simp only [List.length_drop, List.length_take]; rfl)) ?_; (with_reducible refine (laws_eqHoldWriteS.calls k _ _ t236 _ _ t218 false _ ?side1 ?side2 ?side3 ?side4 A38.out).mono ?_); (case side1 => repeat (first | exact (Kd.Rc_reads' HO238.out).2.2 | (with_reducible refine Kd.C_alloc ?_ _) | (with_reducible refine Kd.C_drewN ?_ _) | (with_reducible refine Kd.C_drew ?_))); (case side2 => exact (Kd.Rc_reads' HO238.out).2.1); (case side3 => repeat (first | exact (Kd.Rc_reads' HO220.out).2.2 | (with_reducible refine Kd.C_alloc ?_ _) | (with_reducible refine Kd.C_drewN ?_ _) | (with_reducible refine Kd.C_drew ?_))); (case side4 => exact (Kd.Rc_reads' HO220.out).2.1); rintro e w45 ⟨rfl, hb⟩; refine ⟨_, rfl, ?_⟩; have n0_ := Aside0.mk (Kd.Rc_below (by (with_reducible repeat (first | apply Kd.Rc_alloc | apply Kd.Rc_drewN | apply Kd.Rc_drew)); exact HO209.out) hb); have n1_ := Aside0.mk (Kd.Rc_below (by (with_reducible repeat (first | apply Kd.Rc_alloc | apply Kd.Rc_drewN | apply Kd.Rc_drew)); exact HO214.out) hb); have n2_ := Aside0.mk (Kd.Rc_below (by (with_reducible repeat (first | apply Kd.Rc_alloc | apply Kd.Rc_drewN | apply Kd.Rc_drew)); exact HO217.out) hb); have n3_ := Aside0.mk (Kd.Rc_below (by (with_reducible repeat (first | apply Kd.Rc_alloc | apply Kd.Rc_drewN | apply Kd.Rc_drew)); exact HO220.out) hb); have n4_ := Aside0.mk (Kd.Rc_below (by (with_reducible repeat (first | apply Kd.Rc_alloc | apply Kd.Rc_drewN | apply Kd.Rc_drew)); exact HO226.out) hb); have n5_ := Aside0.mk (Kd.Rc_below (by (with_reducible repeat (first | apply Kd.Rc_alloc | apply Kd.Rc_drewN | apply Kd.Rc_drew)); exact HO231.out) hb); have n6_ := Aside0.mk (Kd.Rc_below (by (with_reducible repeat (first | apply Kd.Rc_alloc | apply Kd.Rc_drewN | apply Kd.Rc_drew)); exact HO235.out) hb); have n7_ := Aside0.mk (Kd.Rc_below (by (with_reducible repeat (first | apply Kd.Rc_alloc | apply Kd.Rc_drewN | apply Kd.Rc_drew)); exact HO238.out) hb); have n8_ := Aside0.mk (blk_below (g := gb203) (o := .cells #[.int .u8 a0_0, .int .u8 a0_1, .slice A0_2 l0_2.length c0_2, .int .u8 a0_3, .int .u8 a0_4, .slice A0_5 l0_5.length c0_5] 47 (0, 0)) (by (with_reducible repeat (first | refine blk_drewN ?_ _ | refine blk_drew ?_ | refine blk_alloc ?_ _)); exact BK203.out) hb); have n9_ := Aside0.mk (blk_below (g := gb232) (o := .cells #[.int .u8 t222, .int .u8 t223, .slice Ao32 t224.length co32, .int .u8 t227, .int .u8 t228, .slice Ao33 t229.length co33] 52 (0, 0)) (by (with_reducible repeat (first | refine blk_drewN ?_ _ | refine blk_drew ?_ | refine blk_alloc ?_ _)); exact BK232.out) hb); have n10_ := Aside0.mk (below_step (by repeat (first | (with_reducible first | exact HB.out | apply below_alloc | apply pw_below_drewN | apply below_drew1 | refine below_set ?_ GE203.out | refine below_set ?_ GE232.out) | exact HB.out)) hb); clear HO209; clear HO214; clear HO217; clear HO220; clear HO226; clear HO231; clear HO235; clear HO238; clear BK203; clear BK232; clear HB; have HO209 := n0_; have HO214 := n1_; have HO217 := n2_; have HO220 := n3_; have HO226 := n4_; have HO231 := n5_; have HO235 := n6_; have HO238 := n7_; have BK203 := n8_; have BK232 := n9_; have HB := n10_; clear n0_ n1_ n2_ n3_ n4_ n5_ n6_ n7_ n8_ n9_ n10_; (try clear hb); (try clear hb2); (try clear hk); (try clear hi)))
          go_meet
          case rel => exact ⟨_, (true), (by first | rfl | (simp; done) | (simp [*]; done)), H', ⟨by first | omega | exact Nat.le_refl _⟩, ⟨by (with_reducible repeat (first | apply Kd.Rc_alloc | apply Kd.Rc_drewN | apply Kd.Rc_drew)); exact Kd.Rc_mono HO220.out (fun _ hk => hk.2)⟩, ⟨by (with_reducible repeat (first | apply Kd.Rc_alloc | apply Kd.Rc_drewN | apply Kd.Rc_drew)); exact Kd.Rc_mono HO235.out (fun _ hk => ⟨hk.1.2, hk.2⟩)⟩, ⟨by (with_reducible repeat (first | apply Kd.Rc_alloc | apply Kd.Rc_drewN | apply Kd.Rc_drew)); exact Kd.Rc_mono HO238.out (fun _ hk => hk.2)⟩, ⟨by (with_reducible repeat (first | apply Kd.Rc_alloc | apply Kd.Rc_drewN | apply Kd.Rc_drew)); exact Kd.Rc_mono HO226.out (fun _ hk => ⟨hk.2, hk.1.1.1.1⟩)⟩, ⟨by (with_reducible repeat (first | apply Kd.Rc_alloc | apply Kd.Rc_drewN | apply Kd.Rc_drew)); exact Kd.Rc_mono HO231.out (fun _ hk => ⟨hk.2, hk.1.1.1.1⟩)⟩, ⟨by (with_reducible repeat (first | refine blk_drewN ?_ _ | refine blk_drew ?_ | refine blk_alloc ?_ _)); exact BK203.out⟩, ⟨by (with_reducible repeat (first | refine blk_drewN ?_ _ | refine blk_drew ?_ | refine blk_alloc ?_ _)); exact BK232.out⟩, ⟨by repeat (first | (with_reducible first | exact HB.out | apply below_alloc | apply pw_below_drewN | apply below_drew1 | refine below_set ?_ GE203.out | refine below_set ?_ GE232.out) | exact HB.out)⟩⟩
      case rest =>
        clear HC16
        try clear c1
        try clear p2
        try clear c3
        try clear c3b0
        try clear c3b1
        try clear c4
        try clear c5
        try clear c6
        try clear c6b0
        try clear c16
        try clear c18
        try clear c30
        try clear c38
        try clear c39
        try clear c40
        try clear hcz18_0
        try clear hcz18_1
        try clear hcz18_2
        try clear hcz18_3
        try clear hcz18_4
        try clear hcz18_5
        try clear hcz20_0
        try clear hcz20_1
        try clear hcz20_2
        try clear hcz20_3
        try clear hcz20_4
        try clear hcz20_5
        try clear hcz27_0
        try clear hcz27_1
        try clear hcz27_2
        try clear hcz27_3
        try clear hcz27_4
        try clear hcz27_5
        try clear hcz31_0
        try clear hcz31_1
        try clear hcz31_2
        try clear hcz31_3
        try clear hcz31_4
        try clear hcz31_5
        try clear hcz35_0
        try clear hcz35_1
        try clear hcz35_2
        try clear hcz35_3
        try clear hcz35_4
        try clear hcz35_5
        try clear hcz8_0
        try clear hcz8_1
        try clear hcz8_2
        try clear hcz8_3
        try clear hcz8_4
        try clear hcz8_5
        try clear hfz18_0
        try clear hfz18_1
        try clear hfz18_2
        try clear hfz18_3
        try clear hfz18_4
        try clear hfz18_5
        try clear hfz20_0
        try clear hfz20_1
        try clear hfz20_2
        try clear hfz20_3
        try clear hfz20_4
        try clear hfz20_5
        try clear hfz27_0
        try clear hfz27_1
        try clear hfz27_2
        try clear hfz27_3
        try clear hfz27_4
        try clear hfz27_5
        try clear hfz31_0
        try clear hfz31_1
        try clear hfz31_2
        try clear hfz31_3
        try clear hfz31_4
        try clear hfz31_5
        try clear hfz35_0
        try clear hfz35_1
        try clear hfz35_2
        try clear hfz35_3
        try clear hfz35_4
        try clear hfz35_5
        try clear hfz8_0
        try clear hfz8_1
        try clear hfz8_2
        try clear hfz8_3
        try clear hfz8_4
        try clear hfz8_5
        obtain ⟨kq, x51_15, rfl, HA, HJ15, HO_6, HO_9, HO_10, HO_233002, HO_233005, BK203, BK232, HB⟩ := hcut
        cases kq with
        | zero => exact absurd HA.out (by simp [laws_FnExactHoldPlan.j0])
        | succ kj15 =>
          have H := HA.out
          clear HA
          simp only [laws_FnExactHoldPlan.j0] at H
          by_cases c46 : x51_15 = true
          · subst c46
            have H1 : (some false) = some r := by rw [if_pos rfl] at H; exact H
            clear H
            have H := H1
            clear H1
            obtain rfl := Option.some.inj H
            go_wp2
            go_ret
            exact ⟨by first | rfl | (simp [errW_none, errW_some] <;> rfl) | (simp [*, errW_none, errW_some] <;> rfl), by repeat (first | (with_reducible first | exact HB.out | apply below_alloc | apply pw_below_drewN | apply below_drew1 | refine below_set ?_ GE203.out | refine below_set ?_ GE232.out) | exact HB.out)⟩
          · replace c46 := Bool.eq_false_iff.mpr c46
            subst c46
            have H1 : ((laws_toHoldRom.f kj15 a0_0 a0_1 l0_2 a0_3 a0_4 l0_5).bind fun bt241 => ((laws_eqHoldRom.f kj15 t222 t223 t224 t227 t228 t229 bt241.1 bt241.2.1 bt241.2.2.1 bt241.2.2.2.1 bt241.2.2.2.2.1 bt241.2.2.2.2.2).bind fun t251 => (if t251 = true then ((laws_toByteS.f kj15 l1).bind fun t252 => ((laws_eqByteS.f kj15 t233 t252).bind fun t255 => (if t255 = true then ((laws_markHoldRom.f kj15 t222 t223 t224 t227 t228 t229 1).bind fun bt256 => ((laws_markByteS.f kj15 t233 bt256.1).bind fun bt259 => (if bt259.1 < 0 then (laws_FnExactHoldPlan.j1 kj15 l1 t218 t221 t236 true a0_0 a0_1 l0_2 a0_3 a0_4 l0_5) else ((laws_eqHoldWriteS.f kj15 t236 t218).bind fun t261 => (if t261 = true then (laws_FnExactHoldPlan.j1 kj15 l1 t218 t221 t236 (t239 != t221) a0_0 a0_1 l0_2 a0_3 a0_4 l0_5) else (laws_FnExactHoldPlan.j1 kj15 l1 t218 t221 t236 true a0_0 a0_1 l0_2 a0_3 a0_4 l0_5)))))) else (some false)))) else (some false)))) = some r := by rw [if_neg (show ¬ (false = true) by decide)] at H; exact H
            clear H
            have H := H1
            clear H1
            replace H := Option.bind_eq_some_iff.mp H
            obtain ⟨⟨t241, t242, t243, t246, t247, t248⟩, A470, H⟩ := H
            replace H : ((laws_eqHoldRom.f kj15 t222 t223 t224 t227 t228 t229 t241 t242 t243 t246 t247 t248).bind fun t251 => (if t251 = true then ((laws_toByteS.f kj15 l1).bind fun t252 => ((laws_eqByteS.f kj15 t233 t252).bind fun t255 => (if t255 = true then ((laws_markHoldRom.f kj15 t222 t223 t224 t227 t228 t229 1).bind fun bt256 => ((laws_markByteS.f kj15 t233 bt256.1).bind fun bt259 => (if bt259.1 < 0 then (laws_FnExactHoldPlan.j1 kj15 l1 t218 t221 t236 true a0_0 a0_1 l0_2 a0_3 a0_4 l0_5) else ((laws_eqHoldWriteS.f kj15 t236 t218).bind fun t261 => (if t261 = true then (laws_FnExactHoldPlan.j1 kj15 l1 t218 t221 t236 (t239 != t221) a0_0 a0_1 l0_2 a0_3 a0_4 l0_5) else (laws_FnExactHoldPlan.j1 kj15 l1 t218 t221 t236 true a0_0 a0_1 l0_2 a0_3 a0_4 l0_5)))))) else (some false)))) else (some false))) = some r := H
            have A47 := Aside0.mk A470
            clear A470
            replace H := Option.bind_eq_some_iff.mp H
            obtain ⟨t251, A480, H⟩ := H
            replace H : (if t251 = true then ((laws_toByteS.f kj15 l1).bind fun t252 => ((laws_eqByteS.f kj15 t233 t252).bind fun t255 => (if t255 = true then ((laws_markHoldRom.f kj15 t222 t223 t224 t227 t228 t229 1).bind fun bt256 => ((laws_markByteS.f kj15 t233 bt256.1).bind fun bt259 => (if bt259.1 < 0 then (laws_FnExactHoldPlan.j1 kj15 l1 t218 t221 t236 true a0_0 a0_1 l0_2 a0_3 a0_4 l0_5) else ((laws_eqHoldWriteS.f kj15 t236 t218).bind fun t261 => (if t261 = true then (laws_FnExactHoldPlan.j1 kj15 l1 t218 t221 t236 (t239 != t221) a0_0 a0_1 l0_2 a0_3 a0_4 l0_5) else (laws_FnExactHoldPlan.j1 kj15 l1 t218 t221 t236 true a0_0 a0_1 l0_2 a0_3 a0_4 l0_5)))))) else (some false)))) else (some false)) = some r := H
            have A48 := Aside0.mk A480
            clear A480
            by_cases c49 : t251 = true
            · subst c49
              have H1 : ((laws_toByteS.f kj15 l1).bind fun t252 => ((laws_eqByteS.f kj15 t233 t252).bind fun t255 => (if t255 = true then ((laws_markHoldRom.f kj15 t222 t223 t224 t227 t228 t229 1).bind fun bt256 => ((laws_markByteS.f kj15 t233 bt256.1).bind fun bt259 => (if bt259.1 < 0 then (laws_FnExactHoldPlan.j1 kj15 l1 t218 t221 t236 true a0_0 a0_1 l0_2 a0_3 a0_4 l0_5) else ((laws_eqHoldWriteS.f kj15 t236 t218).bind fun t261 => (if t261 = true then (laws_FnExactHoldPlan.j1 kj15 l1 t218 t221 t236 (t239 != t221) a0_0 a0_1 l0_2 a0_3 a0_4 l0_5) else (laws_FnExactHoldPlan.j1 kj15 l1 t218 t221 t236 true a0_0 a0_1 l0_2 a0_3 a0_4 l0_5)))))) else (some false)))) = some r := by rw [if_pos rfl] at H; exact H
              clear H
              have H := H1
              clear H1
              replace H := Option.bind_eq_some_iff.mp H
              obtain ⟨t252, A500, H⟩ := H
              replace H : ((laws_eqByteS.f kj15 t233 t252).bind fun t255 => (if t255 = true then ((laws_markHoldRom.f kj15 t222 t223 t224 t227 t228 t229 1).bind fun bt256 => ((laws_markByteS.f kj15 t233 bt256.1).bind fun bt259 => (if bt259.1 < 0 then (laws_FnExactHoldPlan.j1 kj15 l1 t218 t221 t236 true a0_0 a0_1 l0_2 a0_3 a0_4 l0_5) else ((laws_eqHoldWriteS.f kj15 t236 t218).bind fun t261 => (if t261 = true then (laws_FnExactHoldPlan.j1 kj15 l1 t218 t221 t236 (t239 != t221) a0_0 a0_1 l0_2 a0_3 a0_4 l0_5) else (laws_FnExactHoldPlan.j1 kj15 l1 t218 t221 t236 true a0_0 a0_1 l0_2 a0_3 a0_4 l0_5)))))) else (some false))) = some r := H
              have A50 := Aside0.mk A500
              clear A500
              replace H := Option.bind_eq_some_iff.mp H
              obtain ⟨t255, A510, H⟩ := H
              replace H : (if t255 = true then ((laws_markHoldRom.f kj15 t222 t223 t224 t227 t228 t229 1).bind fun bt256 => ((laws_markByteS.f kj15 t233 bt256.1).bind fun bt259 => (if bt259.1 < 0 then (laws_FnExactHoldPlan.j1 kj15 l1 t218 t221 t236 true a0_0 a0_1 l0_2 a0_3 a0_4 l0_5) else ((laws_eqHoldWriteS.f kj15 t236 t218).bind fun t261 => (if t261 = true then (laws_FnExactHoldPlan.j1 kj15 l1 t218 t221 t236 (t239 != t221) a0_0 a0_1 l0_2 a0_3 a0_4 l0_5) else (laws_FnExactHoldPlan.j1 kj15 l1 t218 t221 t236 true a0_0 a0_1 l0_2 a0_3 a0_4 l0_5)))))) else (some false)) = some r := H
              have A51 := Aside0.mk A510
              clear A510
              by_cases c52 : t255 = true
              · subst c52
                have H1 : ((laws_markHoldRom.f kj15 t222 t223 t224 t227 t228 t229 1).bind fun bt256 => ((laws_markByteS.f kj15 t233 bt256.1).bind fun bt259 => (if bt259.1 < 0 then (laws_FnExactHoldPlan.j1 kj15 l1 t218 t221 t236 true a0_0 a0_1 l0_2 a0_3 a0_4 l0_5) else ((laws_eqHoldWriteS.f kj15 t236 t218).bind fun t261 => (if t261 = true then (laws_FnExactHoldPlan.j1 kj15 l1 t218 t221 t236 (t239 != t221) a0_0 a0_1 l0_2 a0_3 a0_4 l0_5) else (laws_FnExactHoldPlan.j1 kj15 l1 t218 t221 t236 true a0_0 a0_1 l0_2 a0_3 a0_4 l0_5)))))) = some r := by rw [if_pos rfl] at H; exact H
                clear H
                have H := H1
                clear H1
                replace H := Option.bind_eq_some_iff.mp H
                obtain ⟨⟨t256, t257, t258⟩, A530, H⟩ := H
                replace H : ((laws_markByteS.f kj15 t233 t256).bind fun bt259 => (if bt259.1 < 0 then (laws_FnExactHoldPlan.j1 kj15 l1 t218 t221 t236 true a0_0 a0_1 l0_2 a0_3 a0_4 l0_5) else ((laws_eqHoldWriteS.f kj15 t236 t218).bind fun t261 => (if t261 = true then (laws_FnExactHoldPlan.j1 kj15 l1 t218 t221 t236 (t239 != t221) a0_0 a0_1 l0_2 a0_3 a0_4 l0_5) else (laws_FnExactHoldPlan.j1 kj15 l1 t218 t221 t236 true a0_0 a0_1 l0_2 a0_3 a0_4 l0_5))))) = some r := H
                have A53 := Aside0.mk A530
                clear A530
                replace H := Option.bind_eq_some_iff.mp H
                obtain ⟨⟨t259, t260⟩, A540, H⟩ := H
                replace H : (if t259 < 0 then (laws_FnExactHoldPlan.j1 kj15 l1 t218 t221 t236 true a0_0 a0_1 l0_2 a0_3 a0_4 l0_5) else ((laws_eqHoldWriteS.f kj15 t236 t218).bind fun t261 => (if t261 = true then (laws_FnExactHoldPlan.j1 kj15 l1 t218 t221 t236 (t239 != t221) a0_0 a0_1 l0_2 a0_3 a0_4 l0_5) else (laws_FnExactHoldPlan.j1 kj15 l1 t218 t221 t236 true a0_0 a0_1 l0_2 a0_3 a0_4 l0_5)))) = some r := H
                have A54 := Aside0.mk A540
                clear A540
                have HC55 := Aside0.mk H
                clear H
                try go_wp2
                have n0_ := Aside0.mk (Kd.Rc_drew HO_6.out)
                have n1_ := Aside0.mk (Kd.Rc_drew HO_9.out)
                have n2_ := Aside0.mk (Kd.Rc_drew HO_10.out)
                have n3_ := Aside0.mk (Kd.Rc_drew HO_233002.out)
                have n4_ := Aside0.mk (Kd.Rc_drew HO_233005.out)
                have n5_ := Aside0.mk (blk_drew BK203.out)
                have n6_ := Aside0.mk (blk_drew BK232.out)
                have n7_ := Aside0.mk (below_drew1 HB.out)
                clear HO_6
                clear HO_9
                clear HO_10
                clear HO_233002
                clear HO_233005
                clear BK203
                clear BK232
                clear HB
                have HO_6 := n0_
                have HO_9 := n1_
                have HO_10 := n2_
                have HO_233002 := n3_
                have HO_233005 := n4_
                have BK203 := n5_
                have BK232 := n6_
                have HB := n7_
                clear n0_ n1_ n2_ n3_ n4_ n5_ n6_ n7_
                refine start_ (n := 5) (S := fun w' => w'.cell? ⟨gb232, 0, none⟩ = some (.int .u8 t222) ∧ w'.cell? ⟨gb232, 1, none⟩ = some (.int .u8 t223) ∧ w'.cell? ⟨gb232, 2, none⟩ = some (.slice Ao32 t224.length co32) ∧ w'.cell? ⟨gb232, 3, none⟩ = some (.int .u8 t227) ∧ w'.cell? ⟨gb232, 4, none⟩ = some (.int .u8 t228) ∧ w'.cell? ⟨gb232, 5, none⟩ = some (.slice Ao33 t229.length co33) ∧ w'.cell? ⟨gb203, 0, none⟩ = some (.int .u8 a0_0) ∧ w'.cell? ⟨gb203, 1, none⟩ = some (.int .u8 a0_1) ∧ w'.cell? ⟨gb203, 2, none⟩ = some (.slice A0_2 l0_2.length c0_2) ∧ w'.cell? ⟨gb203, 3, none⟩ = some (.int .u8 a0_3) ∧ w'.cell? ⟨gb203, 4, none⟩ = some (.int .u8 a0_4) ∧ w'.cell? ⟨gb203, 5, none⟩ = some (.slice A0_5 l0_5.length c0_5)) (ds := []) #[false, false, false, false, false] (by kernel_rfl) rfl rfl ⟨(blk_cell BK232.out 0).trans rfl, (blk_cell BK232.out 1).trans rfl, (blk_cell BK232.out 2).trans rfl, (blk_cell BK232.out 3).trans rfl, (blk_cell BK232.out 4).trans rfl, (blk_cell BK232.out 5).trans rfl, (blk_cell BK203.out 0).trans rfl, (blk_cell BK203.out 1).trans rfl, (blk_cell BK203.out 2).trans rfl, (blk_cell BK203.out 3).trans rfl, (blk_cell BK203.out 4).trans rfl, (blk_cell BK203.out 5).trans rfl⟩ (fun hHeld => ?_)
                generalize wc.drew = w56 at HO_6 HO_9 HO_10 HO_233002 HO_233005 BK203 BK232 HB hHeld ⊢
                refine take_ (i := 0) (N := some 52) (v := ?_) (a' := ?_) #[true, false, false, false, false] rfl rfl (by kernel_rfl) (fun _ _ _ h => h) (Or.inl ⟨by rfl, ?_⟩) hHeld ?_ ?_
                rotate_left
                · rintro w' ⟨s0, s1, s2, s3, s4, s5, s6, s7, s8, s9, s10, s11⟩
                  go_simp
                  with_reducible rfl
                rotate_left
                · simp only [Act.put, List.setIfInBounds_toArray, List.set_cons_zero, List.set_cons_succ, i64_w, i32_w]
                  rfl
                refine take_ (i := 1) (N := some 53) (v := ?_) (a' := ?_) #[true, true, false, false, false] rfl rfl (by kernel_rfl) (fun _ _ _ h => h) (Or.inl ⟨by rfl, ?_⟩) hHeld ?_ ?_
                rotate_left
                · rintro w' ⟨s0, s1, s2, s3, s4, s5, s6, s7, s8, s9, s10, s11⟩
                  go_simp
                  with_reducible rfl
                rotate_left
                · simp only [Act.put, List.setIfInBounds_toArray, List.set_cons_zero, List.set_cons_succ, i64_w, i32_w]
                  rfl
                refine one_ (i := 2) (N := some 54) #[true, true, true, false, false] rfl rfl (by kernel_rfl) (by decide) (fun K hK => ?_)
                refine goes_ Try.func40 (by kernel_rfl) rfl #[.agg #[.int .u8 a0_0, .int .u8 a0_1, .slice A0_2 l0_2.length c0_2, .int .u8 a0_3, .int .u8 a0_4, .slice A0_5 l0_5.length c0_5]] (by rfl) rfl rfl (by (try simp only [List.map_toArray, List.map_cons, List.map_nil]); first | done | rfl | (simp only [List.length_drop, List.length_take]; rfl)) ?_
                with_reducible refine (laws_toHoldRom.callsC kj15 a0_0 a0_1 _ _ l0_2 a0_3 a0_4 _ _ l0_5 t241 t242 t243 t246 t247 t248 _ ?side1 ?side2 ?side3 ?side4 A47.out).mono ?_
                (case side1 => repeat (first | exact (Kd.C_below HR0_2.out HB.out) | (with_reducible refine Kd.C_alloc ?_ _) | (with_reducible refine Kd.C_drewN ?_ _) | (with_reducible refine Kd.C_drew ?_)))
                (case side2 => exact HC0_2.out)
                (case side3 => repeat (first | exact (Kd.C_below HR0_5.out HB.out) | (with_reducible refine Kd.C_alloc ?_ _) | (with_reducible refine Kd.C_drewN ?_ _) | (with_reducible refine Kd.C_drew ?_)))
                (case side4 => exact HC0_5.out)
                rintro e w57 ⟨v244, v249, rfl, ho0, ho1, hb⟩
                refine ⟨_, rfl, ?_⟩
                have n0_ := Aside0.mk (Kd.Rc_below (by (with_reducible repeat (first | apply Kd.Rc_alloc | apply Kd.Rc_drewN | apply Kd.Rc_drew)); exact HO_6.out) hb)
                have n1_ := Aside0.mk (Kd.Rc_mono (Kd.Rc_told (Kd.Rc_told (Kd.Rc_old (by (with_reducible repeat (first | apply Kd.Rc_alloc | apply Kd.Rc_drewN | apply Kd.Rc_drew)); exact HO_9.out) hb) (Kd.Rc_base ho0)) (Kd.Rc_base ho1)) (fun _ h_ => h_.1))
                have n2_ := Aside0.mk (Kd.Rc_below (by (with_reducible repeat (first | apply Kd.Rc_alloc | apply Kd.Rc_drewN | apply Kd.Rc_drew)); exact HO_10.out) hb)
                have n3_ := Aside0.mk (Kd.Rc_mono (Kd.Rc_told (Kd.Rc_told (Kd.Rc_old (by (with_reducible repeat (first | apply Kd.Rc_alloc | apply Kd.Rc_drewN | apply Kd.Rc_drew)); exact HO_233002.out) hb) (Kd.Rc_base ho0)) (Kd.Rc_base ho1)) (fun _ h_ => h_.1))
                have n4_ := Aside0.mk (Kd.Rc_mono (Kd.Rc_told (Kd.Rc_told (Kd.Rc_old (by (with_reducible repeat (first | apply Kd.Rc_alloc | apply Kd.Rc_drewN | apply Kd.Rc_drew)); exact HO_233005.out) hb) (Kd.Rc_base ho0)) (Kd.Rc_base ho1)) (fun _ h_ => h_.1))
                have n5_ := Aside0.mk (Kd.Rc_lower (Kd.Rc_new' (Kd.Rc_new' (Kd.Rc_new' ho0 (Kd.Rc_lt (by (with_reducible repeat (first | apply Kd.Rc_alloc | apply Kd.Rc_drewN | apply Kd.Rc_drew)); exact HO_9.out))) (Kd.Rc_lt (by (with_reducible repeat (first | apply Kd.Rc_alloc | apply Kd.Rc_drewN | apply Kd.Rc_drew)); exact HO_233002.out))) (Kd.Rc_lt (by (with_reducible repeat (first | apply Kd.Rc_alloc | apply Kd.Rc_drewN | apply Kd.Rc_drew)); exact HO_233005.out))) (below_size (by repeat (first | (with_reducible first | exact HB.out | apply below_alloc | apply pw_below_drewN | apply below_drew1 | refine below_set ?_ GE203.out | refine below_set ?_ GE232.out) | exact HB.out))))
                have n6_ := Aside0.mk (Kd.Rc_lower (Kd.Rc_new' (Kd.Rc_new' (Kd.Rc_new' ho1 (Kd.Rc_lt (by (with_reducible repeat (first | apply Kd.Rc_alloc | apply Kd.Rc_drewN | apply Kd.Rc_drew)); exact HO_9.out))) (Kd.Rc_lt (by (with_reducible repeat (first | apply Kd.Rc_alloc | apply Kd.Rc_drewN | apply Kd.Rc_drew)); exact HO_233002.out))) (Kd.Rc_lt (by (with_reducible repeat (first | apply Kd.Rc_alloc | apply Kd.Rc_drewN | apply Kd.Rc_drew)); exact HO_233005.out))) (below_size (by repeat (first | (with_reducible first | exact HB.out | apply below_alloc | apply pw_below_drewN | apply below_drew1 | refine below_set ?_ GE203.out | refine below_set ?_ GE232.out) | exact HB.out))))
                have n7_ := Aside0.mk (blk_below (g := gb203) (o := .cells #[.int .u8 a0_0, .int .u8 a0_1, .slice A0_2 l0_2.length c0_2, .int .u8 a0_3, .int .u8 a0_4, .slice A0_5 l0_5.length c0_5] 47 (0, 0)) (by (with_reducible repeat (first | refine blk_drewN ?_ _ | refine blk_drew ?_ | refine blk_alloc ?_ _)); exact BK203.out) hb)
                have n8_ := Aside0.mk (blk_below (g := gb232) (o := .cells #[.int .u8 t222, .int .u8 t223, .slice Ao32 t224.length co32, .int .u8 t227, .int .u8 t228, .slice Ao33 t229.length co33] 52 (0, 0)) (by (with_reducible repeat (first | refine blk_drewN ?_ _ | refine blk_drew ?_ | refine blk_alloc ?_ _)); exact BK232.out) hb)
                have n9_ := Aside0.mk (below_step (by repeat (first | (with_reducible first | exact HB.out | apply below_alloc | apply pw_below_drewN | apply below_drew1 | refine below_set ?_ GE203.out | refine below_set ?_ GE232.out) | exact HB.out)) hb)
                clear HO_6
                clear HO_9
                clear HO_10
                clear HO_233002
                clear HO_233005
                clear BK203
                clear BK232
                clear HB
                have HO_6 := n0_
                have HO_9 := n1_
                have HO_10 := n2_
                have HO_233002 := n3_
                have HO_233005 := n4_
                have HO245 := n5_
                have HO250 := n6_
                have BK203 := n7_
                have BK232 := n8_
                have HB := n9_
                clear n0_ n1_ n2_ n3_ n4_ n5_ n6_ n7_ n8_ n9_
                (try clear hb)
                (try clear hb2)
                (try clear hk)
                (try clear hi)
                (try clear ho0)
                (try clear ho1)
                obtain ⟨Ao58, co58, eo58⟩ := Kd.Rc_slice HO245.out
                (first | subst eo58 | (injection eo58 with f1_ f2_ f3_; have f4_ := f1_.symm; have f5_ := f3_.symm; clear f1_ f2_ f3_; subst f4_; subst f5_))
                obtain ⟨Ao59, co59, eo59⟩ := Kd.Rc_slice HO250.out
                (first | subst eo59 | (injection eo59 with f1_ f2_ f3_; have f4_ := f1_.symm; have f5_ := f3_.symm; clear f1_ f2_ f3_; subst f4_; subst f5_))
                refine hK.out _ _ ⟨(blk_cell BK232.out 0).trans rfl, (blk_cell BK232.out 1).trans rfl, (blk_cell BK232.out 2).trans rfl, (blk_cell BK232.out 3).trans rfl, (blk_cell BK232.out 4).trans rfl, (blk_cell BK232.out 5).trans rfl, (blk_cell BK203.out 0).trans rfl, (blk_cell BK203.out 1).trans rfl, (blk_cell BK203.out 2).trans rfl, (blk_cell BK203.out 3).trans rfl, (blk_cell BK203.out 4).trans rfl, (blk_cell BK203.out 5).trans rfl⟩ (fun hHeld => ?_)
                clear hK K
                refine norm_ (a' := ?_) ?_ ?_
                rotate_left
                · show Act.put _ (some 54) _ = _
                  simp only [Act.put, List.setIfInBounds_toArray, List.set_cons_zero, List.set_cons_succ, i64_w, i32_w]
                  rfl
                refine one_ (i := 3) (N := some 55) #[true, true, true, true, false] rfl rfl (by kernel_rfl) (by decide) (fun K hK => ?_)
                refine goes_ Try.func42 (by kernel_rfl) rfl #[.agg #[.int .u8 t222, .int .u8 t223, .slice Ao32 t224.length co32, .int .u8 t227, .int .u8 t228, .slice Ao33 t229.length co33], .agg #[.int .u8 t241, .int .u8 t242, .slice Ao58 t243.length co58, .int .u8 t246, .int .u8 t247, .slice Ao59 t248.length co59]] (by rfl) rfl rfl (by (try simp only [List.map_toArray, List.map_cons, List.map_nil]); first | done | rfl | (simp only [List.length_drop, List.length_take]; rfl)) ?_
                with_reducible refine (laws_eqHoldRom.calls kj15 t222 t223 _ _ t224 t227 t228 _ _ t229 t241 t242 _ _ t243 t246 t247 _ _ t248 true _ ?side1 ?side2 ?side3 ?side4 ?side5 ?side6 ?side7 ?side8 A48.out).mono ?_
                (case side1 => repeat (first | exact (Kd.Rc_reads' HO_233002.out).2.2 | (with_reducible refine Kd.C_alloc ?_ _) | (with_reducible refine Kd.C_drewN ?_ _) | (with_reducible refine Kd.C_drew ?_)))
                (case side2 => exact (Kd.Rc_reads' HO_233002.out).2.1)
                (case side3 => repeat (first | exact (Kd.Rc_reads' HO_233005.out).2.2 | (with_reducible refine Kd.C_alloc ?_ _) | (with_reducible refine Kd.C_drewN ?_ _) | (with_reducible refine Kd.C_drew ?_)))
                (case side4 => exact (Kd.Rc_reads' HO_233005.out).2.1)
                (case side5 => repeat (first | exact (Kd.Rc_reads' HO245.out).2.2 | (with_reducible refine Kd.C_alloc ?_ _) | (with_reducible refine Kd.C_drewN ?_ _) | (with_reducible refine Kd.C_drew ?_)))
                (case side6 => exact (Kd.Rc_reads' HO245.out).2.1)
                (case side7 => repeat (first | exact (Kd.Rc_reads' HO250.out).2.2 | (with_reducible refine Kd.C_alloc ?_ _) | (with_reducible refine Kd.C_drewN ?_ _) | (with_reducible refine Kd.C_drew ?_)))
                (case side8 => exact (Kd.Rc_reads' HO250.out).2.1)
                rintro e w60 ⟨rfl, hb⟩
                refine ⟨_, rfl, ?_⟩
                have n0_ := Aside0.mk (Kd.Rc_below (by (with_reducible repeat (first | apply Kd.Rc_alloc | apply Kd.Rc_drewN | apply Kd.Rc_drew)); exact HO_6.out) hb)
                have n1_ := Aside0.mk (Kd.Rc_below (by (with_reducible repeat (first | apply Kd.Rc_alloc | apply Kd.Rc_drewN | apply Kd.Rc_drew)); exact HO_9.out) hb)
                have n2_ := Aside0.mk (Kd.Rc_below (by (with_reducible repeat (first | apply Kd.Rc_alloc | apply Kd.Rc_drewN | apply Kd.Rc_drew)); exact HO_10.out) hb)
                have n3_ := Aside0.mk (Kd.Rc_below (by (with_reducible repeat (first | apply Kd.Rc_alloc | apply Kd.Rc_drewN | apply Kd.Rc_drew)); exact HO_233002.out) hb)
                have n4_ := Aside0.mk (Kd.Rc_below (by (with_reducible repeat (first | apply Kd.Rc_alloc | apply Kd.Rc_drewN | apply Kd.Rc_drew)); exact HO_233005.out) hb)
                have n5_ := Aside0.mk (Kd.Rc_below (by (with_reducible repeat (first | apply Kd.Rc_alloc | apply Kd.Rc_drewN | apply Kd.Rc_drew)); exact HO245.out) hb)
                have n6_ := Aside0.mk (Kd.Rc_below (by (with_reducible repeat (first | apply Kd.Rc_alloc | apply Kd.Rc_drewN | apply Kd.Rc_drew)); exact HO250.out) hb)
                have n7_ := Aside0.mk (blk_below (g := gb203) (o := .cells #[.int .u8 a0_0, .int .u8 a0_1, .slice A0_2 l0_2.length c0_2, .int .u8 a0_3, .int .u8 a0_4, .slice A0_5 l0_5.length c0_5] 47 (0, 0)) (by (with_reducible repeat (first | refine blk_drewN ?_ _ | refine blk_drew ?_ | refine blk_alloc ?_ _)); exact BK203.out) hb)
                have n8_ := Aside0.mk (blk_below (g := gb232) (o := .cells #[.int .u8 t222, .int .u8 t223, .slice Ao32 t224.length co32, .int .u8 t227, .int .u8 t228, .slice Ao33 t229.length co33] 52 (0, 0)) (by (with_reducible repeat (first | refine blk_drewN ?_ _ | refine blk_drew ?_ | refine blk_alloc ?_ _)); exact BK232.out) hb)
                have n9_ := Aside0.mk (below_step (by repeat (first | (with_reducible first | exact HB.out | apply below_alloc | apply pw_below_drewN | apply below_drew1 | refine below_set ?_ GE203.out | refine below_set ?_ GE232.out) | exact HB.out)) hb)
                clear HO_6
                clear HO_9
                clear HO_10
                clear HO_233002
                clear HO_233005
                clear HO245
                clear HO250
                clear BK203
                clear BK232
                clear HB
                have HO_6 := n0_
                have HO_9 := n1_
                have HO_10 := n2_
                have HO_233002 := n3_
                have HO_233005 := n4_
                have HO245 := n5_
                have HO250 := n6_
                have BK203 := n7_
                have BK232 := n8_
                have HB := n9_
                clear n0_ n1_ n2_ n3_ n4_ n5_ n6_ n7_ n8_ n9_
                (try clear hb)
                (try clear hb2)
                (try clear hk)
                (try clear hi)
                refine hK.out _ _ ⟨(blk_cell BK232.out 0).trans rfl, (blk_cell BK232.out 1).trans rfl, (blk_cell BK232.out 2).trans rfl, (blk_cell BK232.out 3).trans rfl, (blk_cell BK232.out 4).trans rfl, (blk_cell BK232.out 5).trans rfl, (blk_cell BK203.out 0).trans rfl, (blk_cell BK203.out 1).trans rfl, (blk_cell BK203.out 2).trans rfl, (blk_cell BK203.out 3).trans rfl, (blk_cell BK203.out 4).trans rfl, (blk_cell BK203.out 5).trans rfl⟩ (fun hHeld => ?_)
                clear hK K
                refine norm_ (a' := ?_) ?_ ?_
                rotate_left
                · show Act.put _ (some 55) _ = _
                  simp only [Act.put, List.setIfInBounds_toArray, List.set_cons_zero, List.set_cons_succ, i64_w, i32_w]
                  rfl
                refine pure_ (i := 4) (N := some 56) (v := ?_) (a' := ?_) #[true, true, true, true, true] rfl rfl (by kernel_rfl) (fun _ _ _ h => h) (Or.inl ⟨by rfl, ?_⟩) ?_ ?_
                rotate_left
                · intro w'
                  go_simp
                  with_reducible rfl
                rotate_left
                · simp only [Act.put, List.setIfInBounds_toArray, List.set_cons_zero, List.set_cons_succ, i64_w, i32_w]
                  rfl
                refine done_ (by kernel_rfl) ?_
                go_upto_region 20 with (first | ((with_reducible refine gate_callee (f := 18) rfl ?_); refine goesL_ (some 59) rfl rfl Try.func18 (by kernel_rfl) rfl #[.slice A1 l1.length c1] rfl (by (try simp only [List.map_toArray, List.map_cons, List.map_nil]); first | done | rfl | (simp only [List.length_drop, List.length_take]; rfl)) ?_; (with_reducible refine (laws_toByteS.callsC kj15 _ _ l1 t252 _ ?side1 ?side2 A50.out).mono ?_); (case side1 => repeat (first | exact (Kd.C_below HR1.out HB.out) | (with_reducible refine Kd.C_alloc ?_ _) | (with_reducible refine Kd.C_drewN ?_ _) | (with_reducible refine Kd.C_drew ?_))); (case side2 => exact HC1.out); rintro e w61 ⟨v253, rfl, ho0, hb⟩; refine ⟨_, rfl, ?_⟩; have n0_ := Aside0.mk (Kd.Rc_below (by (with_reducible repeat (first | apply Kd.Rc_alloc | apply Kd.Rc_drewN | apply Kd.Rc_drew)); exact HO_6.out) hb); have n1_ := Aside0.mk (Kd.Rc_elder' (by (with_reducible repeat (first | apply Kd.Rc_alloc | apply Kd.Rc_drewN | apply Kd.Rc_drew)); exact HO_9.out) (Kd.Rc_base ho0) hb); have n2_ := Aside0.mk (Kd.Rc_below (by (with_reducible repeat (first | apply Kd.Rc_alloc | apply Kd.Rc_drewN | apply Kd.Rc_drew)); exact HO_10.out) hb); have n3_ := Aside0.mk (Kd.Rc_elder' (by (with_reducible repeat (first | apply Kd.Rc_alloc | apply Kd.Rc_drewN | apply Kd.Rc_drew)); exact HO_233002.out) (Kd.Rc_base ho0) hb); have n4_ := Aside0.mk (Kd.Rc_elder' (by (with_reducible repeat (first | apply Kd.Rc_alloc | apply Kd.Rc_drewN | apply Kd.Rc_drew)); exact HO_233005.out) (Kd.Rc_base ho0) hb); have n5_ := Aside0.mk (Kd.Rc_elder' (by (with_reducible repeat (first | apply Kd.Rc_alloc | apply Kd.Rc_drewN | apply Kd.Rc_drew)); exact HO245.out) (Kd.Rc_base ho0) hb); have n6_ := Aside0.mk (Kd.Rc_elder' (by (with_reducible repeat (first | apply Kd.Rc_alloc | apply Kd.Rc_drewN | apply Kd.Rc_drew)); exact HO250.out) (Kd.Rc_base ho0) hb); have n7_ := Aside0.mk (Kd.Rc_lower (Kd.Rc_new' (Kd.Rc_new' (Kd.Rc_new' (Kd.Rc_new' (Kd.Rc_new' ho0 (Kd.Rc_lt (by (with_reducible repeat (first | apply Kd.Rc_alloc | apply Kd.Rc_drewN | apply Kd.Rc_drew)); exact HO_9.out))) (Kd.Rc_lt (by (with_reducible repeat (first | apply Kd.Rc_alloc | apply Kd.Rc_drewN | apply Kd.Rc_drew)); exact HO_233002.out))) (Kd.Rc_lt (by (with_reducible repeat (first | apply Kd.Rc_alloc | apply Kd.Rc_drewN | apply Kd.Rc_drew)); exact HO_233005.out))) (Kd.Rc_lt (by (with_reducible repeat (first | apply Kd.Rc_alloc | apply Kd.Rc_drewN | apply Kd.Rc_drew)); exact HO245.out))) (Kd.Rc_lt (by (with_reducible repeat (first | apply Kd.Rc_alloc | apply Kd.Rc_drewN | apply Kd.Rc_drew)); exact HO250.out))) (below_size (by repeat (first | (with_reducible first | exact HB.out | apply below_alloc | apply pw_below_drewN | apply below_drew1 | refine below_set ?_ GE203.out | refine below_set ?_ GE232.out) | exact HB.out)))); have n8_ := Aside0.mk (blk_below (g := gb203) (o := .cells #[.int .u8 a0_0, .int .u8 a0_1, .slice A0_2 l0_2.length c0_2, .int .u8 a0_3, .int .u8 a0_4, .slice A0_5 l0_5.length c0_5] 47 (0, 0)) (by (with_reducible repeat (first | refine blk_drewN ?_ _ | refine blk_drew ?_ | refine blk_alloc ?_ _)); exact BK203.out) hb); have n9_ := Aside0.mk (blk_below (g := gb232) (o := .cells #[.int .u8 t222, .int .u8 t223, .slice Ao32 t224.length co32, .int .u8 t227, .int .u8 t228, .slice Ao33 t229.length co33] 52 (0, 0)) (by (with_reducible repeat (first | refine blk_drewN ?_ _ | refine blk_drew ?_ | refine blk_alloc ?_ _)); exact BK232.out) hb); have n10_ := Aside0.mk (below_step (by repeat (first | (with_reducible first | exact HB.out | apply below_alloc | apply pw_below_drewN | apply below_drew1 | refine below_set ?_ GE203.out | refine below_set ?_ GE232.out) | exact HB.out)) hb); clear HO_6; clear HO_9; clear HO_10; clear HO_233002; clear HO_233005; clear HO245; clear HO250; clear BK203; clear BK232; clear HB; have HO_6 := n0_; have HO_9 := n1_; have HO_10 := n2_; have HO_233002 := n3_; have HO_233005 := n4_; have HO245 := n5_; have HO250 := n6_; have HO254 := n7_; have BK203 := n8_; have BK232 := n9_; have HB := n10_; clear n0_ n1_ n2_ n3_ n4_ n5_ n6_ n7_ n8_ n9_ n10_; (try clear hb); (try clear hb2); (try clear hk); (try clear hi); (try clear ho0); obtain ⟨Ao62, co62, eo62⟩ := Kd.Rc_slice HO254.out; subst eo62) | ((with_reducible refine gate_callee (f := 20) rfl ?_); refine goesL_ (some 60) rfl rfl Try.func20 (by kernel_rfl) rfl #[.slice Ao36 t233.length co36, .slice Ao62 t252.length co62] rfl (by (try simp only [List.map_toArray, List.map_cons, List.map_nil]); first | done | rfl | (simp only [List.length_drop, List.length_take]; rfl)) ?_; (with_reducible refine (laws_eqByteS.calls kj15 _ _ t233 _ _ t252 true _ ?side1 ?side2 ?side3 ?side4 A51.out).mono ?_); (case side1 => repeat (first | exact (Kd.Rc_reads' HO_9.out).2.2 | (with_reducible refine Kd.C_alloc ?_ _) | (with_reducible refine Kd.C_drewN ?_ _) | (with_reducible refine Kd.C_drew ?_))); (case side2 => exact (Kd.Rc_reads' HO_9.out).2.1); (case side3 => repeat (first | exact (Kd.Rc_reads' HO254.out).2.2 | (with_reducible refine Kd.C_alloc ?_ _) | (with_reducible refine Kd.C_drewN ?_ _) | (with_reducible refine Kd.C_drew ?_))); (case side4 => exact (Kd.Rc_reads' HO254.out).2.1); rintro e w' ⟨rfl, ⟨nd, rfl⟩⟩; refine ⟨_, rfl, ?_⟩; have hnb63 := NB232_203.out; have hnc63 := NB203_232.out; have hcz64_0 : w61.cell? ⟨gb232, 0, none⟩ = some (.int .u8 t222) := (blk_cell BK232.out 0).trans rfl; have hcz64_1 : w61.cell? ⟨gb232, 1, none⟩ = some (.int .u8 t223) := (blk_cell BK232.out 1).trans rfl; have hcz64_2 : w61.cell? ⟨gb232, 2, none⟩ = some (.slice Ao32 t224.length co32) := (blk_cell BK232.out 2).trans rfl; have hcz64_3 : w61.cell? ⟨gb232, 3, none⟩ = some (.int .u8 t227) := (blk_cell BK232.out 3).trans rfl; have hcz64_4 : w61.cell? ⟨gb232, 4, none⟩ = some (.int .u8 t228) := (blk_cell BK232.out 4).trans rfl; have hcz64_5 : w61.cell? ⟨gb232, 5, none⟩ = some (.slice Ao33 t229.length co33) := (blk_cell BK232.out 5).trans rfl; have hfz64_0 := blk_frozen BK232.out 0; have hfz64_1 := blk_frozen BK232.out 1; have hfz64_2 := blk_frozen BK232.out 2; have hfz64_3 := blk_frozen BK232.out 3; have hfz64_4 := blk_frozen BK232.out 4; have hfz64_5 := blk_frozen BK232.out 5) | ((with_reducible refine gate_callee (f := 49) rfl ?_); refine goesL_ (some 64) rfl rfl Try.func49 (by kernel_rfl) rfl #[.agg #[.int .u8 t222, .int .u8 t223, .slice Ao32 t224.length co32, .int .u8 t227, .int .u8 t228, .slice Ao33 t229.length co33], .int .i64 1] rfl (by (try simp only [List.map_toArray, List.map_cons, List.map_nil]); first | done | rfl | (simp only [List.length_drop, List.length_take]; rfl)) ?_; (with_reducible refine (laws_markHoldRom.callsC kj15 t222 t223 (fun k_ => some k_ = (.slice Ao32 t224.length co32 : Value).ownBlock) (.slice Ao32 t224.length co32) t224 t227 t228 (fun k_ => some k_ = (.slice Ao33 t229.length co33 : Value).ownBlock) (.slice Ao33 t229.length co33) t229 1 t256 t257 t258 w _ ?side1 ?side2 ?side3 ?side4 ?side5 A53.out).mono ?_); (case side1 => repeat (first | (with_reducible first | exact HB.out | apply below_alloc | apply pw_below_drewN | apply below_drew1 | refine below_set ?_ GE203.out | refine below_set ?_ GE232.out) | exact HB.out)); (case side2 => exact Kd.Rc_tight rfl HO_233002.out); (case side3 => exact fun k_ e_ => (HO_233002.out.1 k_ e_.symm).1.1.1.2); (case side4 => exact Kd.Rc_tight rfl HO_233005.out); (case side5 => exact fun k_ e_ => (HO_233005.out.1 k_ e_.symm).1.1.1.2); rintro e w65 ⟨rfl, hy0, hy1, hb, hkp⟩; refine ⟨_, rfl, ?_⟩; have n0_ := Aside0.mk (Kd.Rc_mono (ok' := fun k_ => some k_ ≠ (v237 : Value).ownBlock) (Kd.Rc_keptB ((Kd.Rc_apart' (Kd.Rc_apart' HO_6.out (Kd.Rc_typed HO_233002.out) (by decide)) (Kd.Rc_typed HO_233005.out) (by decide))) hkp (fun k_ hk_ hs_ => Or.elim hs_ (fun e_ => (hk_.1.2) e_) (fun e_ => (hk_.2) e_))) (fun k_ hk_ => hk_.1.1.1)); have n1_ := Aside0.mk (Kd.Rc_mono (ok' := fun k_ => some k_ ≠ (.slice Ao32 t224.length co32 : Value).ownBlock ∧ some k_ ≠ (.slice Ao33 t229.length co33 : Value).ownBlock ∧ some k_ ≠ (.slice Ao58 t243.length co58 : Value).ownBlock ∧ some k_ ≠ (.slice Ao59 t248.length co59 : Value).ownBlock ∧ some k_ ≠ (.slice Ao62 t252.length co62 : Value).ownBlock) (Kd.Rc_keptB (HO_9.out) hkp (fun k_ hk_ hs_ => Or.elim hs_ (fun e_ => (hk_.1.1.1.1) e_) (fun e_ => (hk_.1.1.1.2) e_))) (fun k_ hk_ => ⟨hk_.1.1.1.1.1, hk_.1.1.1.1.2, hk_.1.1.1.2, hk_.1.1.2, hk_.1.2⟩)); have n2_ := Aside0.mk (Kd.Rc_mono (ok' := fun k_ => some k_ ≠ (v219 : Value).ownBlock) (Kd.Rc_keptB ((Kd.Rc_apart' (Kd.Rc_apart' HO_10.out (Kd.Rc_typed HO_233002.out) (by decide)) (Kd.Rc_typed HO_233005.out) (by decide))) hkp (fun k_ hk_ hs_ => Or.elim hs_ (fun e_ => (hk_.1.2) e_) (fun e_ => (hk_.2) e_))) (fun k_ hk_ => hk_.1.1.1)); have n3_ := Aside0.mk (Kd.Rc_reok rfl hy0 (fun k_ e_ => HO_233002.out.1 k_ e_)); have n4_ := Aside0.mk (Kd.Rc_reok rfl hy1 (fun k_ e_ => HO_233005.out.1 k_ e_)); have n5_ := Aside0.mk (blk_kept (by (with_reducible repeat (first | refine blk_drewN ?_ _ | refine blk_drew ?_ | refine blk_alloc ?_ _)); exact BK203.out) hkp (fun hs_ => Or.elim hs_ (fun e_ => (fun e_ => (Kd.Rc_ne HO_233002.out BK203.out (by decide)) e_) e_) (fun e_ => (fun e_ => (Kd.Rc_ne HO_233005.out BK203.out (by decide)) e_) e_))); have n6_ := Aside0.mk (blk_kept (by (with_reducible repeat (first | refine blk_drewN ?_ _ | refine blk_drew ?_ | refine blk_alloc ?_ _)); exact BK232.out) hkp (fun hs_ => Or.elim hs_ (fun e_ => (fun e_ => (Kd.Rc_ne HO_233002.out BK232.out (by decide)) e_) e_) (fun e_ => (fun e_ => (Kd.Rc_ne HO_233005.out BK232.out (by decide)) e_) e_))); have n7_ := Aside0.mk (Kd.Rc_mono (ok' := fun k_ => some k_ ≠ (.slice Ao36 t233.length co36 : Value).ownBlock ∧ some k_ ≠ (.slice Ao32 t224.length co32 : Value).ownBlock ∧ some k_ ≠ (.slice Ao33 t229.length co33 : Value).ownBlock ∧ some k_ ≠ (.slice Ao59 t248.length co59 : Value).ownBlock ∧ some k_ ≠ (.slice Ao62 t252.length co62 : Value).ownBlock) (Kd.Rc_keptB (HO245.out) hkp (fun k_ hk_ hs_ => Or.elim hs_ (fun e_ => (hk_.1.1.2) e_) (fun e_ => (hk_.1.2) e_))) (fun k_ hk_ => ⟨hk_.1.1.1.1.2, hk_.1.1.1.2, hk_.1.1.2, hk_.1.1.1.1.1, hk_.1.2⟩)); have n8_ := Aside0.mk (Kd.Rc_mono (ok' := fun k_ => some k_ ≠ (.slice Ao36 t233.length co36 : Value).ownBlock ∧ some k_ ≠ (.slice Ao32 t224.length co32 : Value).ownBlock ∧ some k_ ≠ (.slice Ao33 t229.length co33 : Value).ownBlock ∧ some k_ ≠ (.slice Ao58 t243.length co58 : Value).ownBlock ∧ some k_ ≠ (.slice Ao62 t252.length co62 : Value).ownBlock) (Kd.Rc_keptB (HO250.out) hkp (fun k_ hk_ hs_ => Or.elim hs_ (fun e_ => (hk_.1.1.2) e_) (fun e_ => (hk_.1.2) e_))) (fun k_ hk_ => ⟨hk_.1.1.1.1.2, hk_.1.1.1.2, hk_.1.1.2, hk_.1.1.1.1.1, hk_.1.2⟩)); have n9_ := Aside0.mk (Kd.Rc_mono (ok' := fun k_ => some k_ ≠ (.slice Ao36 t233.length co36 : Value).ownBlock ∧ some k_ ≠ (.slice Ao32 t224.length co32 : Value).ownBlock ∧ some k_ ≠ (.slice Ao33 t229.length co33 : Value).ownBlock ∧ some k_ ≠ (.slice Ao58 t243.length co58 : Value).ownBlock ∧ some k_ ≠ (.slice Ao59 t248.length co59 : Value).ownBlock) (Kd.Rc_keptB (HO254.out) hkp (fun k_ hk_ hs_ => Or.elim hs_ (fun e_ => (hk_.1.1.1.2) e_) (fun e_ => (hk_.1.1.2) e_))) (fun k_ hk_ => ⟨hk_.1.1.1.1.1.2, hk_.1.1.1.1.2, hk_.1.1.1.2, hk_.1.1.2, hk_.1.2⟩)); have n10_ := Aside0.mk (hb); clear HO_6; clear HO_9; clear HO_10; clear HO_233002; clear HO_233005; clear BK203; clear BK232; clear HO245; clear HO250; clear HO254; clear HB; have HO_6 := n0_; have HO_9 := n1_; have HO_10 := n2_; have HO_233002 := n3_; have HO_233005 := n4_; have BK203 := n5_; have BK232 := n6_; have HO245 := n7_; have HO250 := n8_; have HO254 := n9_; have HB := n10_; clear n0_ n1_ n2_ n3_ n4_ n5_ n6_ n7_ n8_ n9_ n10_; (try clear hb); (try clear hkp); (try clear hy0); (try clear hy1)) | ((with_reducible refine gate_callee (f := 27) rfl ?_); refine goesL_ (some 67) rfl rfl Try.func27 (by kernel_rfl) rfl #[.slice Ao36 t233.length co36, .int .i64 t256] rfl (by (try simp only [List.map_toArray, List.map_cons, List.map_nil]); first | done | rfl | (simp only [List.length_drop, List.length_take]; rfl)) ?_; (with_reducible refine (laws_markByteS.callsC kj15 (fun k_ => some k_ = (.slice Ao36 t233.length co36 : Value).ownBlock) (.slice Ao36 t233.length co36) t233 t256 t259 t260 w _ ?side1 ?side2 A54.out).mono ?_); (case side1 => repeat (first | (with_reducible first | exact HB.out | apply below_alloc | apply pw_below_drewN | apply below_drew1 | refine below_set ?_ GE203.out | refine below_set ?_ GE232.out) | exact HB.out)); (case side2 => exact Kd.Rc_tight rfl HO_9.out); rintro e w66 ⟨rfl, hy0, hb, hkp⟩; refine ⟨_, rfl, ?_⟩; have n0_ := Aside0.mk (Kd.Rc_mono (ok' := fun k_ => some k_ ≠ (v237 : Value).ownBlock) (Kd.Rc_keptB ((Kd.Rc_apart' HO_6.out (Kd.Rc_typed HO_9.out) (by decide))) hkp (fun k_ hk_ hs_ => (hk_.2) hs_)) (fun k_ hk_ => hk_.1.1)); have n1_ := Aside0.mk (Kd.Rc_reok rfl hy0 (fun k_ e_ => HO_9.out.1 k_ e_)); have n2_ := Aside0.mk (Kd.Rc_mono (ok' := fun k_ => some k_ ≠ (v219 : Value).ownBlock) (Kd.Rc_keptB ((Kd.Rc_apart' HO_10.out (Kd.Rc_typed HO_9.out) (by decide))) hkp (fun k_ hk_ hs_ => (hk_.2) hs_)) (fun k_ hk_ => hk_.1.1)); have n3_ := Aside0.mk (Kd.Rc_mono (ok' := fun k_ => some k_ ≠ (.slice Ao36 t233.length co36 : Value).ownBlock ∧ some k_ ≠ (.slice Ao33 t229.length co33 : Value).ownBlock ∧ some k_ ≠ (.slice Ao58 t243.length co58 : Value).ownBlock ∧ some k_ ≠ (.slice Ao59 t248.length co59 : Value).ownBlock ∧ some k_ ≠ (.slice Ao62 t252.length co62 : Value).ownBlock) (Kd.Rc_keptB (HO_233002.out) hkp (fun k_ hk_ hs_ => (hk_.1.1.1.1) hs_)) (fun k_ hk_ => ⟨hk_.1.1.1.1.1, hk_.1.1.1.1.2, hk_.1.1.1.2, hk_.1.1.2, hk_.1.2⟩)); have n4_ := Aside0.mk (Kd.Rc_mono (ok' := fun k_ => some k_ ≠ (.slice Ao36 t233.length co36 : Value).ownBlock ∧ some k_ ≠ (.slice Ao32 t224.length co32 : Value).ownBlock ∧ some k_ ≠ (.slice Ao58 t243.length co58 : Value).ownBlock ∧ some k_ ≠ (.slice Ao59 t248.length co59 : Value).ownBlock ∧ some k_ ≠ (.slice Ao62 t252.length co62 : Value).ownBlock) (Kd.Rc_keptB (HO_233005.out) hkp (fun k_ hk_ hs_ => (hk_.1.1.1.1) hs_)) (fun k_ hk_ => ⟨hk_.1.1.1.1.1, hk_.1.1.1.1.2, hk_.1.1.1.2, hk_.1.1.2, hk_.1.2⟩)); have n5_ := Aside0.mk (blk_kept (by (with_reducible repeat (first | refine blk_drewN ?_ _ | refine blk_drew ?_ | refine blk_alloc ?_ _)); exact BK203.out) hkp (fun hs_ => (fun e_ => (Kd.Rc_ne HO_9.out BK203.out (by decide)) e_) hs_)); have n6_ := Aside0.mk (blk_kept (by (with_reducible repeat (first | refine blk_drewN ?_ _ | refine blk_drew ?_ | refine blk_alloc ?_ _)); exact BK232.out) hkp (fun hs_ => (fun e_ => (Kd.Rc_ne HO_9.out BK232.out (by decide)) e_) hs_)); have n7_ := Aside0.mk (Kd.Rc_mono (ok' := fun k_ => some k_ ≠ (.slice Ao36 t233.length co36 : Value).ownBlock ∧ some k_ ≠ (.slice Ao32 t224.length co32 : Value).ownBlock ∧ some k_ ≠ (.slice Ao33 t229.length co33 : Value).ownBlock ∧ some k_ ≠ (.slice Ao59 t248.length co59 : Value).ownBlock ∧ some k_ ≠ (.slice Ao62 t252.length co62 : Value).ownBlock) (Kd.Rc_keptB (HO245.out) hkp (fun k_ hk_ hs_ => (hk_.1) hs_)) (fun k_ hk_ => ⟨hk_.1.1, hk_.1.2.1, hk_.1.2.2.1, hk_.1.2.2.2.1, hk_.1.2.2.2.2⟩)); have n8_ := Aside0.mk (Kd.Rc_mono (ok' := fun k_ => some k_ ≠ (.slice Ao36 t233.length co36 : Value).ownBlock ∧ some k_ ≠ (.slice Ao32 t224.length co32 : Value).ownBlock ∧ some k_ ≠ (.slice Ao33 t229.length co33 : Value).ownBlock ∧ some k_ ≠ (.slice Ao58 t243.length co58 : Value).ownBlock ∧ some k_ ≠ (.slice Ao62 t252.length co62 : Value).ownBlock) (Kd.Rc_keptB (HO250.out) hkp (fun k_ hk_ hs_ => (hk_.1) hs_)) (fun k_ hk_ => ⟨hk_.1.1, hk_.1.2.1, hk_.1.2.2.1, hk_.1.2.2.2.1, hk_.1.2.2.2.2⟩)); have n9_ := Aside0.mk (Kd.Rc_mono (ok' := fun k_ => some k_ ≠ (.slice Ao36 t233.length co36 : Value).ownBlock ∧ some k_ ≠ (.slice Ao32 t224.length co32 : Value).ownBlock ∧ some k_ ≠ (.slice Ao33 t229.length co33 : Value).ownBlock ∧ some k_ ≠ (.slice Ao58 t243.length co58 : Value).ownBlock ∧ some k_ ≠ (.slice Ao59 t248.length co59 : Value).ownBlock) (Kd.Rc_keptB (HO254.out) hkp (fun k_ hk_ hs_ => (hk_.1) hs_)) (fun k_ hk_ => ⟨hk_.1.1, hk_.1.2.1, hk_.1.2.2.1, hk_.1.2.2.2.1, hk_.1.2.2.2.2⟩)); have n10_ := Aside0.mk (hb); clear HO_6; clear HO_9; clear HO_10; clear HO_233002; clear HO_233005; clear BK203; clear BK232; clear HO245; clear HO250; clear HO254; clear HB; have HO_6 := n0_; have HO_9 := n1_; have HO_10 := n2_; have HO_233002 := n3_; have HO_233005 := n4_; have BK203 := n5_; have BK232 := n6_; have HO245 := n7_; have HO250 := n8_; have HO254 := n9_; have HB := n10_; clear n0_ n1_ n2_ n3_ n4_ n5_ n6_ n7_ n8_ n9_ n10_; (try clear hb); (try clear hkp); (try clear hy0)))
                (try simp only [Act.put, List.setIfInBounds_toArray, List.set_cons_zero, List.set_cons_succ])
                go_cut [80] (fun v80 wc => ∃ (kq : Nat) (x80_54 : Bool), v80 = .bool x80_54 ∧ Aside0 (laws_FnExactHoldPlan.j1 kq l1 t218 t221 t236 x80_54 a0_0 a0_1 l0_2 a0_3 a0_4 l0_5 = some r) ∧ Aside0 (kq ≤ kj15) ∧ Aside0 (Kd.Rc k104 104 wc w.heap.size (fun k_ => some k_ ≠ (v237 : Value).ownBlock) v219 t218) ∧ Aside0 (Kd.Rc k104 104 wc w.heap.size (fun k_ => some k_ ≠ (v219 : Value).ownBlock) v237 t236) ∧ Aside0 (Kd.Rc (Kd.int .u8) 5 wc w.heap.size (fun k_ => some k_ ≠ ((.slice Ao33 t229.length co33) : Value).ownBlock) (.slice Ao32 t224.length co32) t257) ∧ Aside0 (Kd.Rc (Kd.int .u8) 5 wc w.heap.size (fun k_ => some k_ ≠ ((.slice Ao32 t224.length co32) : Value).ownBlock) (.slice Ao33 t229.length co33) t258) ∧ Aside0 (wc.heap[gb203]? = some (.cells #[.int .u8 a0_0, .int .u8 a0_1, (.slice A0_2 l0_2.length c0_2), .int .u8 a0_3, .int .u8 a0_4, (.slice A0_5 l0_5.length c0_5)] 47 (0, 0))) ∧ Aside0 (wc.heap[gb232]? = some (.cells #[.int .u8 t222, .int .u8 t223, (.slice Ao32 t224.length co32), .int .u8 t227, .int .u8 t228, (.slice Ao33 t229.length co33)] 52 (0, 0))) ∧ Aside0 (Below w.heap.size w wc))
                case first =>
                  have H := HC55.out
                  clear HC55
                  by_cases c67 : t259 < 0
                  · rw [if_pos c67] at H
                    have c67b0 : decide (t259 < 0) = true := decide_eq_true c67
                    clear c67
                    (first | rw [c67b0] | (simp only [i64_w, i32_w]; rw [c67b0]) | skip)
                    have H' := Aside0.mk H
                    clear H
                    go_wp2
                    go_meet
                    case rel => exact ⟨_, (true), (by first | rfl | (simp; done) | (simp [*]; done)), H', ⟨by have := HJ15.out; first | omega | exact Nat.le_refl _⟩, ⟨by (with_reducible repeat (first | apply Kd.Rc_alloc | apply Kd.Rc_drewN | apply Kd.Rc_drew)); exact HO_6.out⟩, ⟨by (with_reducible repeat (first | apply Kd.Rc_alloc | apply Kd.Rc_drewN | apply Kd.Rc_drew)); exact HO_10.out⟩, ⟨by (with_reducible repeat (first | apply Kd.Rc_alloc | apply Kd.Rc_drewN | apply Kd.Rc_drew)); exact Kd.Rc_mono HO_233002.out (fun _ hk => hk.2.1)⟩, ⟨by (with_reducible repeat (first | apply Kd.Rc_alloc | apply Kd.Rc_drewN | apply Kd.Rc_drew)); exact Kd.Rc_mono HO_233005.out (fun _ hk => hk.2.1)⟩, ⟨by (with_reducible repeat (first | refine blk_drewN ?_ _ | refine blk_drew ?_ | refine blk_alloc ?_ _)); exact BK203.out⟩, ⟨by (with_reducible repeat (first | refine blk_drewN ?_ _ | refine blk_drew ?_ | refine blk_alloc ?_ _)); exact BK232.out⟩, ⟨by repeat (first | (with_reducible first | exact HB.out | apply below_alloc | apply pw_below_drewN | apply below_drew1 | refine below_set ?_ GE203.out | refine below_set ?_ GE232.out) | exact HB.out)⟩⟩
                  · rw [if_neg c67] at H
                    have c67b0 : decide (t259 < 0) = false := decide_eq_false c67
                    clear c67
                    (first | rw [c67b0] | (simp only [i64_w, i32_w]; rw [c67b0]) | skip)
                    replace H := Option.bind_eq_some_iff.mp H
                    obtain ⟨t261, A680, H⟩ := H
                    replace H : (if t261 = true then (laws_FnExactHoldPlan.j1 kj15 l1 t218 t221 t236 (t239 != t221) a0_0 a0_1 l0_2 a0_3 a0_4 l0_5) else (laws_FnExactHoldPlan.j1 kj15 l1 t218 t221 t236 true a0_0 a0_1 l0_2 a0_3 a0_4 l0_5)) = some r := H
                    have A68 := Aside0.mk A680
                    clear A680
                    by_cases c69 : t261 = true
                    · subst c69
                      have H1 : (laws_FnExactHoldPlan.j1 kj15 l1 t218 t221 t236 (t239 != t221) a0_0 a0_1 l0_2 a0_3 a0_4 l0_5) = some r := by rw [if_pos rfl] at H; exact H
                      clear H
                      have H := H1
                      clear H1
                      have H' := Aside0.mk H
                      clear H
                      obtain ⟨Ao70, co70, eo70⟩ := Kd.Rc_slice HO_10.out
                      subst eo70
                      obtain ⟨Ao71, co71, eo71⟩ := Kd.Rc_slice HO_6.out
                      subst eo71
                      go_wp2_with (first | (go_at_call 59; (with_reducible refine (laws_eqHoldWriteS.calls kj15 _ _ t236 _ _ t218 true _ ?side1 ?side2 ?side3 ?side4 A68.out).mono ?_); (case side1 => repeat (first | exact (Kd.Rc_reads' HO_10.out).2.2 | (with_reducible refine Kd.C_alloc ?_ _) | (with_reducible refine Kd.C_drewN ?_ _) | (with_reducible refine Kd.C_drew ?_))); (case side2 => exact (Kd.Rc_reads' HO_10.out).2.1); (case side3 => repeat (first | exact (Kd.Rc_reads' HO_6.out).2.2 | (with_reducible refine Kd.C_alloc ?_ _) | (with_reducible refine Kd.C_drewN ?_ _) | (with_reducible refine Kd.C_drew ?_))); (case side4 => exact (Kd.Rc_reads' HO_6.out).2.1); rintro e w72 ⟨rfl, hb⟩; have n0_ := Aside0.mk (Kd.Rc_below (by (with_reducible repeat (first | apply Kd.Rc_alloc | apply Kd.Rc_drewN | apply Kd.Rc_drew)); exact HO_6.out) hb); have n1_ := Aside0.mk (Kd.Rc_below (by (with_reducible repeat (first | apply Kd.Rc_alloc | apply Kd.Rc_drewN | apply Kd.Rc_drew)); exact HO_9.out) hb); have n2_ := Aside0.mk (Kd.Rc_below (by (with_reducible repeat (first | apply Kd.Rc_alloc | apply Kd.Rc_drewN | apply Kd.Rc_drew)); exact HO_10.out) hb); have n3_ := Aside0.mk (Kd.Rc_below (by (with_reducible repeat (first | apply Kd.Rc_alloc | apply Kd.Rc_drewN | apply Kd.Rc_drew)); exact HO_233002.out) hb); have n4_ := Aside0.mk (Kd.Rc_below (by (with_reducible repeat (first | apply Kd.Rc_alloc | apply Kd.Rc_drewN | apply Kd.Rc_drew)); exact HO_233005.out) hb); have n5_ := Aside0.mk (Kd.Rc_below (by (with_reducible repeat (first | apply Kd.Rc_alloc | apply Kd.Rc_drewN | apply Kd.Rc_drew)); exact HO245.out) hb); have n6_ := Aside0.mk (Kd.Rc_below (by (with_reducible repeat (first | apply Kd.Rc_alloc | apply Kd.Rc_drewN | apply Kd.Rc_drew)); exact HO250.out) hb); have n7_ := Aside0.mk (Kd.Rc_below (by (with_reducible repeat (first | apply Kd.Rc_alloc | apply Kd.Rc_drewN | apply Kd.Rc_drew)); exact HO254.out) hb); have n8_ := Aside0.mk (blk_below (g := gb203) (o := .cells #[.int .u8 a0_0, .int .u8 a0_1, .slice A0_2 l0_2.length c0_2, .int .u8 a0_3, .int .u8 a0_4, .slice A0_5 l0_5.length c0_5] 47 (0, 0)) (by (with_reducible repeat (first | refine blk_drewN ?_ _ | refine blk_drew ?_ | refine blk_alloc ?_ _)); exact BK203.out) hb); have n9_ := Aside0.mk (blk_below (g := gb232) (o := .cells #[.int .u8 t222, .int .u8 t223, .slice Ao32 t224.length co32, .int .u8 t227, .int .u8 t228, .slice Ao33 t229.length co33] 52 (0, 0)) (by (with_reducible repeat (first | refine blk_drewN ?_ _ | refine blk_drew ?_ | refine blk_alloc ?_ _)); exact BK232.out) hb); have n10_ := Aside0.mk (below_step (by repeat (first | (with_reducible first | exact HB.out | apply below_alloc | apply pw_below_drewN | apply below_drew1 | refine below_set ?_ GE203.out | refine below_set ?_ GE232.out) | exact HB.out)) hb); clear HO_6; clear HO_9; clear HO_10; clear HO_233002; clear HO_233005; clear HO245; clear HO250; clear HO254; clear BK203; clear BK232; clear HB; have HO_6 := n0_; have HO_9 := n1_; have HO_10 := n2_; have HO_233002 := n3_; have HO_233005 := n4_; have HO245 := n5_; have HO250 := n6_; have HO254 := n7_; have BK203 := n8_; have BK232 := n9_; have HB := n10_; clear n0_ n1_ n2_ n3_ n4_ n5_ n6_ n7_ n8_ n9_ n10_; (try clear hb); (try clear hb2); (try clear hk); (try clear hi)))
                      go_meet
                      case rel => exact ⟨_, ((t239 != t221)), (by first | rfl | (simp; done) | (simp [*]; done)), H', ⟨by have := HJ15.out; first | omega | exact Nat.le_refl _⟩, ⟨by (with_reducible repeat (first | apply Kd.Rc_alloc | apply Kd.Rc_drewN | apply Kd.Rc_drew)); exact HO_6.out⟩, ⟨by (with_reducible repeat (first | apply Kd.Rc_alloc | apply Kd.Rc_drewN | apply Kd.Rc_drew)); exact HO_10.out⟩, ⟨by (with_reducible repeat (first | apply Kd.Rc_alloc | apply Kd.Rc_drewN | apply Kd.Rc_drew)); exact Kd.Rc_mono HO_233002.out (fun _ hk => hk.2.1)⟩, ⟨by (with_reducible repeat (first | apply Kd.Rc_alloc | apply Kd.Rc_drewN | apply Kd.Rc_drew)); exact Kd.Rc_mono HO_233005.out (fun _ hk => hk.2.1)⟩, ⟨by (with_reducible repeat (first | refine blk_drewN ?_ _ | refine blk_drew ?_ | refine blk_alloc ?_ _)); exact BK203.out⟩, ⟨by (with_reducible repeat (first | refine blk_drewN ?_ _ | refine blk_drew ?_ | refine blk_alloc ?_ _)); exact BK232.out⟩, ⟨by repeat (first | (with_reducible first | exact HB.out | apply below_alloc | apply pw_below_drewN | apply below_drew1 | refine below_set ?_ GE203.out | refine below_set ?_ GE232.out) | exact HB.out)⟩⟩
                    · replace c69 := Bool.eq_false_iff.mpr c69
                      subst c69
                      have H1 : (laws_FnExactHoldPlan.j1 kj15 l1 t218 t221 t236 true a0_0 a0_1 l0_2 a0_3 a0_4 l0_5) = some r := by rw [if_neg (show ¬ (false = true) by decide)] at H; exact H
                      clear H
                      have H := H1
                      clear H1
                      have H' := Aside0.mk H
                      clear H
                      obtain ⟨Ao73, co73, eo73⟩ := Kd.Rc_slice HO_10.out
                      subst eo73
                      obtain ⟨Ao74, co74, eo74⟩ := Kd.Rc_slice HO_6.out
                      subst eo74
                      go_wp2_with (first | (go_at_call 59; (with_reducible refine (laws_eqHoldWriteS.calls kj15 _ _ t236 _ _ t218 false _ ?side1 ?side2 ?side3 ?side4 A68.out).mono ?_); (case side1 => repeat (first | exact (Kd.Rc_reads' HO_10.out).2.2 | (with_reducible refine Kd.C_alloc ?_ _) | (with_reducible refine Kd.C_drewN ?_ _) | (with_reducible refine Kd.C_drew ?_))); (case side2 => exact (Kd.Rc_reads' HO_10.out).2.1); (case side3 => repeat (first | exact (Kd.Rc_reads' HO_6.out).2.2 | (with_reducible refine Kd.C_alloc ?_ _) | (with_reducible refine Kd.C_drewN ?_ _) | (with_reducible refine Kd.C_drew ?_))); (case side4 => exact (Kd.Rc_reads' HO_6.out).2.1); rintro e w75 ⟨rfl, hb⟩; have n0_ := Aside0.mk (Kd.Rc_below (by (with_reducible repeat (first | apply Kd.Rc_alloc | apply Kd.Rc_drewN | apply Kd.Rc_drew)); exact HO_6.out) hb); have n1_ := Aside0.mk (Kd.Rc_below (by (with_reducible repeat (first | apply Kd.Rc_alloc | apply Kd.Rc_drewN | apply Kd.Rc_drew)); exact HO_9.out) hb); have n2_ := Aside0.mk (Kd.Rc_below (by (with_reducible repeat (first | apply Kd.Rc_alloc | apply Kd.Rc_drewN | apply Kd.Rc_drew)); exact HO_10.out) hb); have n3_ := Aside0.mk (Kd.Rc_below (by (with_reducible repeat (first | apply Kd.Rc_alloc | apply Kd.Rc_drewN | apply Kd.Rc_drew)); exact HO_233002.out) hb); have n4_ := Aside0.mk (Kd.Rc_below (by (with_reducible repeat (first | apply Kd.Rc_alloc | apply Kd.Rc_drewN | apply Kd.Rc_drew)); exact HO_233005.out) hb); have n5_ := Aside0.mk (Kd.Rc_below (by (with_reducible repeat (first | apply Kd.Rc_alloc | apply Kd.Rc_drewN | apply Kd.Rc_drew)); exact HO245.out) hb); have n6_ := Aside0.mk (Kd.Rc_below (by (with_reducible repeat (first | apply Kd.Rc_alloc | apply Kd.Rc_drewN | apply Kd.Rc_drew)); exact HO250.out) hb); have n7_ := Aside0.mk (Kd.Rc_below (by (with_reducible repeat (first | apply Kd.Rc_alloc | apply Kd.Rc_drewN | apply Kd.Rc_drew)); exact HO254.out) hb); have n8_ := Aside0.mk (blk_below (g := gb203) (o := .cells #[.int .u8 a0_0, .int .u8 a0_1, .slice A0_2 l0_2.length c0_2, .int .u8 a0_3, .int .u8 a0_4, .slice A0_5 l0_5.length c0_5] 47 (0, 0)) (by (with_reducible repeat (first | refine blk_drewN ?_ _ | refine blk_drew ?_ | refine blk_alloc ?_ _)); exact BK203.out) hb); have n9_ := Aside0.mk (blk_below (g := gb232) (o := .cells #[.int .u8 t222, .int .u8 t223, .slice Ao32 t224.length co32, .int .u8 t227, .int .u8 t228, .slice Ao33 t229.length co33] 52 (0, 0)) (by (with_reducible repeat (first | refine blk_drewN ?_ _ | refine blk_drew ?_ | refine blk_alloc ?_ _)); exact BK232.out) hb); have n10_ := Aside0.mk (below_step (by repeat (first | (with_reducible first | exact HB.out | apply below_alloc | apply pw_below_drewN | apply below_drew1 | refine below_set ?_ GE203.out | refine below_set ?_ GE232.out) | exact HB.out)) hb); clear HO_6; clear HO_9; clear HO_10; clear HO_233002; clear HO_233005; clear HO245; clear HO250; clear HO254; clear BK203; clear BK232; clear HB; have HO_6 := n0_; have HO_9 := n1_; have HO_10 := n2_; have HO_233002 := n3_; have HO_233005 := n4_; have HO245 := n5_; have HO250 := n6_; have HO254 := n7_; have BK203 := n8_; have BK232 := n9_; have HB := n10_; clear n0_ n1_ n2_ n3_ n4_ n5_ n6_ n7_ n8_ n9_ n10_; (try clear hb); (try clear hb2); (try clear hk); (try clear hi)))
                      go_meet
                      case rel => exact ⟨_, (true), (by first | rfl | (simp; done) | (simp [*]; done)), H', ⟨by have := HJ15.out; first | omega | exact Nat.le_refl _⟩, ⟨by (with_reducible repeat (first | apply Kd.Rc_alloc | apply Kd.Rc_drewN | apply Kd.Rc_drew)); exact HO_6.out⟩, ⟨by (with_reducible repeat (first | apply Kd.Rc_alloc | apply Kd.Rc_drewN | apply Kd.Rc_drew)); exact HO_10.out⟩, ⟨by (with_reducible repeat (first | apply Kd.Rc_alloc | apply Kd.Rc_drewN | apply Kd.Rc_drew)); exact Kd.Rc_mono HO_233002.out (fun _ hk => hk.2.1)⟩, ⟨by (with_reducible repeat (first | apply Kd.Rc_alloc | apply Kd.Rc_drewN | apply Kd.Rc_drew)); exact Kd.Rc_mono HO_233005.out (fun _ hk => hk.2.1)⟩, ⟨by (with_reducible repeat (first | refine blk_drewN ?_ _ | refine blk_drew ?_ | refine blk_alloc ?_ _)); exact BK203.out⟩, ⟨by (with_reducible repeat (first | refine blk_drewN ?_ _ | refine blk_drew ?_ | refine blk_alloc ?_ _)); exact BK232.out⟩, ⟨by repeat (first | (with_reducible first | exact HB.out | apply below_alloc | apply pw_below_drewN | apply below_drew1 | refine below_set ?_ GE203.out | refine below_set ?_ GE232.out) | exact HB.out)⟩⟩
                case rest =>
                  clear HC55
                  try clear c1
                  try clear c2
                  try clear p2
                  try clear c3
                  try clear c3b0
                  try clear c3b1
                  try clear c4
                  try clear c5
                  try clear c6
                  try clear c6b0
                  try clear c16
                  try clear c18
                  try clear c20
                  try clear c27
                  try clear c30
                  try clear c38
                  try clear c39
                  try clear c40
                  try clear c42
                  try clear c46
                  try clear c49
                  try clear c52
                  try clear c57
                  try clear c58
                  try clear c59
                  try clear c63
                  try clear c67
                  try clear c67b0
                  try clear c69
                  try clear hcz18_0
                  try clear hcz18_1
                  try clear hcz18_2
                  try clear hcz18_3
                  try clear hcz18_4
                  try clear hcz18_5
                  try clear hcz20_0
                  try clear hcz20_1
                  try clear hcz20_2
                  try clear hcz20_3
                  try clear hcz20_4
                  try clear hcz20_5
                  try clear hcz27_0
                  try clear hcz27_1
                  try clear hcz27_2
                  try clear hcz27_3
                  try clear hcz27_4
                  try clear hcz27_5
                  try clear hcz31_0
                  try clear hcz31_1
                  try clear hcz31_2
                  try clear hcz31_3
                  try clear hcz31_4
                  try clear hcz31_5
                  try clear hcz35_0
                  try clear hcz35_1
                  try clear hcz35_2
                  try clear hcz35_3
                  try clear hcz35_4
                  try clear hcz35_5
                  try clear hcz64_0
                  try clear hcz64_1
                  try clear hcz64_2
                  try clear hcz64_3
                  try clear hcz64_4
                  try clear hcz64_5
                  try clear hcz8_0
                  try clear hcz8_1
                  try clear hcz8_2
                  try clear hcz8_3
                  try clear hcz8_4
                  try clear hcz8_5
                  try clear hfz18_0
                  try clear hfz18_1
                  try clear hfz18_2
                  try clear hfz18_3
                  try clear hfz18_4
                  try clear hfz18_5
                  try clear hfz20_0
                  try clear hfz20_1
                  try clear hfz20_2
                  try clear hfz20_3
                  try clear hfz20_4
                  try clear hfz20_5
                  try clear hfz27_0
                  try clear hfz27_1
                  try clear hfz27_2
                  try clear hfz27_3
                  try clear hfz27_4
                  try clear hfz27_5
                  try clear hfz31_0
                  try clear hfz31_1
                  try clear hfz31_2
                  try clear hfz31_3
                  try clear hfz31_4
                  try clear hfz31_5
                  try clear hfz35_0
                  try clear hfz35_1
                  try clear hfz35_2
                  try clear hfz35_3
                  try clear hfz35_4
                  try clear hfz35_5
                  try clear hfz64_0
                  try clear hfz64_1
                  try clear hfz64_2
                  try clear hfz64_3
                  try clear hfz64_4
                  try clear hfz64_5
                  try clear hfz8_0
                  try clear hfz8_1
                  try clear hfz8_2
                  try clear hfz8_3
                  try clear hfz8_4
                  try clear hfz8_5
                  try clear p2
                  obtain ⟨kq, x80_54, rfl, HA, HJ54, HO_6, HO_10, HO_233002, HO_233005, BK203, BK232, HB⟩ := hcut
                  have hl233002_54 := (Kd.Rc_reads' HO_233002.out).1
                  rw [hl233002_54] at HO_233002
                  (try simp only [hl233002_54])
                  (try simp only [hl233002_54] at BK203)
                  (try simp only [hl233002_54] at BK232)
                  (try simp only [hl233002_54] at HO_6)
                  (try simp only [hl233002_54] at HO_10)
                  (try simp only [hl233002_54] at HO_233005)
                  have hl233005_54 := (Kd.Rc_reads' HO_233005.out).1
                  rw [hl233005_54] at HO_233005
                  (try simp only [hl233005_54])
                  (try simp only [hl233005_54] at BK203)
                  (try simp only [hl233005_54] at BK232)
                  (try simp only [hl233005_54] at HO_6)
                  (try simp only [hl233005_54] at HO_10)
                  (try simp only [hl233005_54] at HO_233002)
                  cases kq with
                  | zero => exact absurd HA.out (by simp [laws_FnExactHoldPlan.j1])
                  | succ kj54 =>
                    have H := HA.out
                    clear HA
                    simp only [laws_FnExactHoldPlan.j1] at H
                    by_cases c76 : x80_54 = true
                    · subst c76
                      have H1 : (some false) = some r := by rw [if_pos rfl] at H; exact H
                      clear H
                      have H := H1
                      clear H1
                      obtain rfl := Option.some.inj H
                      go_wp2
                      go_ret
                      exact ⟨by first | rfl | (simp [errW_none, errW_some] <;> rfl) | (simp [*, errW_none, errW_some] <;> rfl), by repeat (first | (with_reducible first | exact HB.out | apply below_alloc | apply pw_below_drewN | apply below_drew1 | refine below_set ?_ GE203.out | refine below_set ?_ GE232.out) | exact HB.out)⟩
                    · replace c76 := Bool.eq_false_iff.mpr c76
                      subst c76
                      have H1 : ((laws_markHoldWriteS.f kj54 t236 1).bind fun bt262 => ((laws_heldHoldWriteS.f kj54 bt262.2 1).bind fun t264 => (if t264 < 0 then (some false) else (if t264 = bt262.1 then ((laws_toHoldRom.f kj54 a0_0 a0_1 l0_2 a0_3 a0_4 l0_5).bind fun bt265 => ((laws_toByteS.f kj54 l1).bind fun t275 => ((impl_HoldPlan.f kj54 bt265.1 bt265.2.1 bt265.2.2.1 bt265.2.2.2.1 bt265.2.2.2.2.1 bt265.2.2.2.2.2 t275).bind fun bt278 => ((laws_eqHoldWriteS.f kj54 bt278.1 t218).bind fun t282 => (if t282 = true then (laws_FnExactHoldPlan.j2 kj54 bt262.2 bt262.1 (bt278.2 != t221)) else (laws_FnExactHoldPlan.j2 kj54 bt262.2 bt262.1 true)))))) else (some false))))) = some r := by rw [if_neg (show ¬ (false = true) by decide)] at H; exact H
                      clear H
                      have H := H1
                      clear H1
                      replace H := Option.bind_eq_some_iff.mp H
                      obtain ⟨⟨t262, t263⟩, A770, H⟩ := H
                      replace H : ((laws_heldHoldWriteS.f kj54 t263 1).bind fun t264 => (if t264 < 0 then (some false) else (if t264 = t262 then ((laws_toHoldRom.f kj54 a0_0 a0_1 l0_2 a0_3 a0_4 l0_5).bind fun bt265 => ((laws_toByteS.f kj54 l1).bind fun t275 => ((impl_HoldPlan.f kj54 bt265.1 bt265.2.1 bt265.2.2.1 bt265.2.2.2.1 bt265.2.2.2.2.1 bt265.2.2.2.2.2 t275).bind fun bt278 => ((laws_eqHoldWriteS.f kj54 bt278.1 t218).bind fun t282 => (if t282 = true then (laws_FnExactHoldPlan.j2 kj54 t263 t262 (bt278.2 != t221)) else (laws_FnExactHoldPlan.j2 kj54 t263 t262 true)))))) else (some false)))) = some r := H
                      have A77 := Aside0.mk A770
                      clear A770
                      replace H := Option.bind_eq_some_iff.mp H
                      obtain ⟨t264, A780, H⟩ := H
                      replace H : (if t264 < 0 then (some false) else (if t264 = t262 then ((laws_toHoldRom.f kj54 a0_0 a0_1 l0_2 a0_3 a0_4 l0_5).bind fun bt265 => ((laws_toByteS.f kj54 l1).bind fun t275 => ((impl_HoldPlan.f kj54 bt265.1 bt265.2.1 bt265.2.2.1 bt265.2.2.2.1 bt265.2.2.2.2.1 bt265.2.2.2.2.2 t275).bind fun bt278 => ((laws_eqHoldWriteS.f kj54 bt278.1 t218).bind fun t282 => (if t282 = true then (laws_FnExactHoldPlan.j2 kj54 t263 t262 (bt278.2 != t221)) else (laws_FnExactHoldPlan.j2 kj54 t263 t262 true)))))) else (some false))) = some r := H
                      have A78 := Aside0.mk A780
                      clear A780
                      by_cases c79 : t264 < 0
                      · rw [if_pos c79] at H
                        have c79b0 : decide (t264 < 0) = true := decide_eq_true c79
                        clear c79
                        obtain rfl := Option.some.inj H
                        obtain ⟨Ao80, co80, eo80⟩ := Kd.Rc_slice HO_10.out
                        subst eo80
                        go_wp2_with (first | ((with_reducible refine gate_callee (f := 60) rfl ?_); refine goesL_ (some 83) rfl rfl Try.func60 (by kernel_rfl) rfl #[.slice Ao80 t236.length co80, .int .i64 1] rfl (by (try simp only [List.map_toArray, List.map_cons, List.map_nil]); first | done | rfl | (simp only [List.length_drop, List.length_take]; rfl)) ?_; (with_reducible refine (laws_markHoldWriteS.callsC kj54 (fun k_ => some k_ = (.slice Ao80 t236.length co80 : Value).ownBlock) (.slice Ao80 t236.length co80) t236 1 t262 t263 w _ ?side1 ?side2 A77.out).mono ?_); (case side1 => repeat (first | (with_reducible first | exact HB.out | apply below_alloc | apply pw_below_drewN | apply below_drew1 | refine below_set ?_ GE203.out | refine below_set ?_ GE232.out) | exact HB.out)); (case side2 => exact Kd.Rc_tight rfl HO_10.out); rintro e w81 ⟨rfl, hy0, hb, hkp⟩; refine ⟨_, rfl, ?_⟩; have n0_ := Aside0.mk (Kd.Rc_mono (ok' := fun k_ => some k_ ≠ (.slice Ao80 t236.length co80 : Value).ownBlock) (Kd.Rc_keptB (HO_6.out) hkp (fun k_ hk_ hs_ => (hk_) hs_)) (fun k_ hk_ => hk_.1)); have n1_ := Aside0.mk (Kd.Rc_reok rfl hy0 (fun k_ e_ => HO_10.out.1 k_ e_)); have n2_ := Aside0.mk (Kd.Rc_mono (ok' := fun k_ => some k_ ≠ (.slice Ao33 t258.length co33 : Value).ownBlock) (Kd.Rc_keptB ((Kd.Rc_apart' HO_233002.out (Kd.Rc_typed HO_10.out) (by decide))) hkp (fun k_ hk_ hs_ => (hk_.2) hs_)) (fun k_ hk_ => hk_.1.1)); have n3_ := Aside0.mk (Kd.Rc_mono (ok' := fun k_ => some k_ ≠ (.slice Ao32 t257.length co32 : Value).ownBlock) (Kd.Rc_keptB ((Kd.Rc_apart' HO_233005.out (Kd.Rc_typed HO_10.out) (by decide))) hkp (fun k_ hk_ hs_ => (hk_.2) hs_)) (fun k_ hk_ => hk_.1.1)); have n4_ := Aside0.mk (blk_kept (by (with_reducible repeat (first | refine blk_drewN ?_ _ | refine blk_drew ?_ | refine blk_alloc ?_ _)); exact BK203.out) hkp (fun hs_ => (fun e_ => (Kd.Rc_ne HO_10.out BK203.out (by decide)) e_) hs_)); have n5_ := Aside0.mk (blk_kept (by (with_reducible repeat (first | refine blk_drewN ?_ _ | refine blk_drew ?_ | refine blk_alloc ?_ _)); exact BK232.out) hkp (fun hs_ => (fun e_ => (Kd.Rc_ne HO_10.out BK232.out (by decide)) e_) hs_)); have n6_ := Aside0.mk (hb); clear HO_6; clear HO_10; clear HO_233002; clear HO_233005; clear BK203; clear BK232; clear HB; have HO_6 := n0_; have HO_10 := n1_; have HO_233002 := n2_; have HO_233005 := n3_; have BK203 := n4_; have BK232 := n5_; have HB := n6_; clear n0_ n1_ n2_ n3_ n4_ n5_ n6_; (try clear hb); (try clear hkp); (try clear hy0)) | ((with_reducible refine gate_callee (f := 61) rfl ?_); refine goesL_ (some 86) rfl rfl Try.func61 (by kernel_rfl) rfl #[.slice Ao80 t263.length co80, .int .i64 1] rfl (by (try simp only [List.map_toArray, List.map_cons, List.map_nil]); first | done | (rw [show t263.length = t236.length from (Kd.Rc_reads' HO_10.out).1.symm] <;> rfl) | rfl | (simp only [List.length_drop, List.length_take]; rfl)) ?_; (with_reducible refine (laws_heldHoldWriteS.calls kj54 _ _ t263 1 t264 _ ?side1 ?side2 A78.out).mono ?_); (case side1 => repeat (first | exact (Kd.Rc_reads' HO_10.out).2.2 | (with_reducible refine Kd.C_alloc ?_ _) | (with_reducible refine Kd.C_drewN ?_ _) | (with_reducible refine Kd.C_drew ?_))); (case side2 => rw [show t263.length = t236.length from (Kd.Rc_reads' HO_10.out).1.symm]; exact (Kd.Rc_reads' HO_10.out).2.1); rintro e w' ⟨rfl, ⟨nd, rfl⟩⟩; refine ⟨_, rfl, ?_⟩))
                        go_ret
                        exact ⟨by first | rfl | (simp [errW_none, errW_some] <;> rfl) | (simp [*, errW_none, errW_some] <;> rfl), by repeat (first | (with_reducible first | exact HB.out | apply below_alloc | apply pw_below_drewN | apply below_drew1 | refine below_set ?_ GE203.out | refine below_set ?_ GE232.out) | exact HB.out)⟩
                      · rw [if_neg c79] at H
                        have c79b0 : decide (t264 < 0) = false := decide_eq_false c79
                        clear c79
                        by_cases c82 : t264 = t262
                        · rw [if_pos c82] at H
                          have c82b0 : (t264 == t262) = true := beq_iff_eq.mpr c82
                          have c82b1 : (t264 != t262) = false := bne_eq_false_iff_eq.mpr c82
                          clear c82
                          replace H := Option.bind_eq_some_iff.mp H
                          obtain ⟨⟨t265, t266, t267, t270, t271, t272⟩, A830, H⟩ := H
                          replace H : ((laws_toByteS.f kj54 l1).bind fun t275 => ((impl_HoldPlan.f kj54 t265 t266 t267 t270 t271 t272 t275).bind fun bt278 => ((laws_eqHoldWriteS.f kj54 bt278.1 t218).bind fun t282 => (if t282 = true then (laws_FnExactHoldPlan.j2 kj54 t263 t262 (bt278.2 != t221)) else (laws_FnExactHoldPlan.j2 kj54 t263 t262 true))))) = some r := H
                          have A83 := Aside0.mk A830
                          clear A830
                          replace H := Option.bind_eq_some_iff.mp H
                          obtain ⟨t275, A840, H⟩ := H
                          replace H : ((impl_HoldPlan.f kj54 t265 t266 t267 t270 t271 t272 t275).bind fun bt278 => ((laws_eqHoldWriteS.f kj54 bt278.1 t218).bind fun t282 => (if t282 = true then (laws_FnExactHoldPlan.j2 kj54 t263 t262 (bt278.2 != t221)) else (laws_FnExactHoldPlan.j2 kj54 t263 t262 true)))) = some r := H
                          have A84 := Aside0.mk A840
                          clear A840
                          replace H := Option.bind_eq_some_iff.mp H
                          obtain ⟨⟨t278, t281⟩, A850, H⟩ := H
                          replace H : ((laws_eqHoldWriteS.f kj54 t278 t218).bind fun t282 => (if t282 = true then (laws_FnExactHoldPlan.j2 kj54 t263 t262 (t281 != t221)) else (laws_FnExactHoldPlan.j2 kj54 t263 t262 true))) = some r := H
                          have A85 := Aside0.mk A850
                          clear A850
                          have HC86 := Aside0.mk H
                          clear H
                          obtain ⟨Ao87, co87, eo87⟩ := Kd.Rc_slice HO_10.out
                          subst eo87
                          go_upto_region 31 with (first | ((with_reducible refine gate_callee (f := 60) rfl ?_); refine goesL_ (some 83) rfl rfl Try.func60 (by kernel_rfl) rfl #[.slice Ao87 t236.length co87, .int .i64 1] rfl (by (try simp only [List.map_toArray, List.map_cons, List.map_nil]); first | done | rfl | (simp only [List.length_drop, List.length_take]; rfl)) ?_; (with_reducible refine (laws_markHoldWriteS.callsC kj54 (fun k_ => some k_ = (.slice Ao87 t236.length co87 : Value).ownBlock) (.slice Ao87 t236.length co87) t236 1 t262 t263 w _ ?side1 ?side2 A77.out).mono ?_); (case side1 => repeat (first | (with_reducible first | exact HB.out | apply below_alloc | apply pw_below_drewN | apply below_drew1 | refine below_set ?_ GE203.out | refine below_set ?_ GE232.out) | exact HB.out)); (case side2 => exact Kd.Rc_tight rfl HO_10.out); rintro e w88 ⟨rfl, hy0, hb, hkp⟩; refine ⟨_, rfl, ?_⟩; have n0_ := Aside0.mk (Kd.Rc_mono (ok' := fun k_ => some k_ ≠ (.slice Ao87 t236.length co87 : Value).ownBlock) (Kd.Rc_keptB (HO_6.out) hkp (fun k_ hk_ hs_ => (hk_) hs_)) (fun k_ hk_ => hk_.1)); have n1_ := Aside0.mk (Kd.Rc_reok rfl hy0 (fun k_ e_ => HO_10.out.1 k_ e_)); have n2_ := Aside0.mk (Kd.Rc_mono (ok' := fun k_ => some k_ ≠ (.slice Ao33 t258.length co33 : Value).ownBlock) (Kd.Rc_keptB ((Kd.Rc_apart' HO_233002.out (Kd.Rc_typed HO_10.out) (by decide))) hkp (fun k_ hk_ hs_ => (hk_.2) hs_)) (fun k_ hk_ => hk_.1.1)); have n3_ := Aside0.mk (Kd.Rc_mono (ok' := fun k_ => some k_ ≠ (.slice Ao32 t257.length co32 : Value).ownBlock) (Kd.Rc_keptB ((Kd.Rc_apart' HO_233005.out (Kd.Rc_typed HO_10.out) (by decide))) hkp (fun k_ hk_ hs_ => (hk_.2) hs_)) (fun k_ hk_ => hk_.1.1)); have n4_ := Aside0.mk (blk_kept (by (with_reducible repeat (first | refine blk_drewN ?_ _ | refine blk_drew ?_ | refine blk_alloc ?_ _)); exact BK203.out) hkp (fun hs_ => (fun e_ => (Kd.Rc_ne HO_10.out BK203.out (by decide)) e_) hs_)); have n5_ := Aside0.mk (blk_kept (by (with_reducible repeat (first | refine blk_drewN ?_ _ | refine blk_drew ?_ | refine blk_alloc ?_ _)); exact BK232.out) hkp (fun hs_ => (fun e_ => (Kd.Rc_ne HO_10.out BK232.out (by decide)) e_) hs_)); have n6_ := Aside0.mk (hb); clear HO_6; clear HO_10; clear HO_233002; clear HO_233005; clear BK203; clear BK232; clear HB; have HO_6 := n0_; have HO_10 := n1_; have HO_233002 := n2_; have HO_233005 := n3_; have BK203 := n4_; have BK232 := n5_; have HB := n6_; clear n0_ n1_ n2_ n3_ n4_ n5_ n6_; (try clear hb); (try clear hkp); (try clear hy0)) | ((with_reducible refine gate_callee (f := 61) rfl ?_); refine goesL_ (some 86) rfl rfl Try.func61 (by kernel_rfl) rfl #[.slice Ao87 t263.length co87, .int .i64 1] rfl (by (try simp only [List.map_toArray, List.map_cons, List.map_nil]); first | done | (rw [show t263.length = t236.length from (Kd.Rc_reads' HO_10.out).1.symm] <;> rfl) | rfl | (simp only [List.length_drop, List.length_take]; rfl)) ?_; (with_reducible refine (laws_heldHoldWriteS.calls kj54 _ _ t263 1 t264 _ ?side1 ?side2 A78.out).mono ?_); (case side1 => repeat (first | exact (Kd.Rc_reads' HO_10.out).2.2 | (with_reducible refine Kd.C_alloc ?_ _) | (with_reducible refine Kd.C_drewN ?_ _) | (with_reducible refine Kd.C_drew ?_))); (case side2 => rw [show t263.length = t236.length from (Kd.Rc_reads' HO_10.out).1.symm]; exact (Kd.Rc_reads' HO_10.out).2.1); rintro e w' ⟨rfl, ⟨nd, rfl⟩⟩; refine ⟨_, rfl, ?_⟩; have hnb89 := NB203_232.out; have hnc89 := NB232_203.out; have hcz90_0 : w88.cell? ⟨gb203, 0, none⟩ = some (.int .u8 a0_0) := (blk_cell BK203.out 0).trans rfl; have hcz90_1 : w88.cell? ⟨gb203, 1, none⟩ = some (.int .u8 a0_1) := (blk_cell BK203.out 1).trans rfl; have hcz90_2 : w88.cell? ⟨gb203, 2, none⟩ = some (.slice A0_2 l0_2.length c0_2) := (blk_cell BK203.out 2).trans rfl; have hcz90_3 : w88.cell? ⟨gb203, 3, none⟩ = some (.int .u8 a0_3) := (blk_cell BK203.out 3).trans rfl; have hcz90_4 : w88.cell? ⟨gb203, 4, none⟩ = some (.int .u8 a0_4) := (blk_cell BK203.out 4).trans rfl; have hcz90_5 : w88.cell? ⟨gb203, 5, none⟩ = some (.slice A0_5 l0_5.length c0_5) := (blk_cell BK203.out 5).trans rfl; have hfz90_0 := blk_frozen BK203.out 0; have hfz90_1 := blk_frozen BK203.out 1; have hfz90_2 := blk_frozen BK203.out 2; have hfz90_3 := blk_frozen BK203.out 3; have hfz90_4 := blk_frozen BK203.out 4; have hfz90_5 := blk_frozen BK203.out 5) | ((with_reducible refine gate_callee (f := 40) rfl ?_); refine goesL_ (some 94) rfl rfl Try.func40 (by kernel_rfl) rfl #[.agg #[.int .u8 a0_0, .int .u8 a0_1, .slice A0_2 l0_2.length c0_2, .int .u8 a0_3, .int .u8 a0_4, .slice A0_5 l0_5.length c0_5]] rfl (by (try simp only [List.map_toArray, List.map_cons, List.map_nil]); first | done | rfl | (simp only [List.length_drop, List.length_take]; rfl)) ?_; (with_reducible refine (laws_toHoldRom.callsC kj54 a0_0 a0_1 _ _ l0_2 a0_3 a0_4 _ _ l0_5 t265 t266 t267 t270 t271 t272 _ ?side1 ?side2 ?side3 ?side4 A83.out).mono ?_); (case side1 => repeat (first | exact (Kd.C_below HR0_2.out (by repeat (first | (with_reducible first | exact HB.out | apply below_alloc | apply pw_below_drewN | apply below_drew1 | refine below_set ?_ GE203.out | refine below_set ?_ GE232.out) | exact HB.out))) | (with_reducible refine Kd.C_alloc ?_ _) | (with_reducible refine Kd.C_drewN ?_ _) | (with_reducible refine Kd.C_drew ?_))); (case side2 => exact HC0_2.out); (case side3 => repeat (first | exact (Kd.C_below HR0_5.out (by repeat (first | (with_reducible first | exact HB.out | apply below_alloc | apply pw_below_drewN | apply below_drew1 | refine below_set ?_ GE203.out | refine below_set ?_ GE232.out) | exact HB.out))) | (with_reducible refine Kd.C_alloc ?_ _) | (with_reducible refine Kd.C_drewN ?_ _) | (with_reducible refine Kd.C_drew ?_))); (case side4 => exact HC0_5.out); rintro e w91 ⟨v268, v273, rfl, ho0, ho1, hb⟩; refine ⟨_, rfl, ?_⟩; have n0_ := Aside0.mk (Kd.Rc_below (by (with_reducible repeat (first | apply Kd.Rc_alloc | apply Kd.Rc_drewN | apply Kd.Rc_drew)); exact HO_6.out) hb); have n1_ := Aside0.mk (Kd.Rc_below (by (with_reducible repeat (first | apply Kd.Rc_alloc | apply Kd.Rc_drewN | apply Kd.Rc_drew)); exact HO_10.out) hb); have n2_ := Aside0.mk (Kd.Rc_mono (Kd.Rc_told (Kd.Rc_told (Kd.Rc_old (by (with_reducible repeat (first | apply Kd.Rc_alloc | apply Kd.Rc_drewN | apply Kd.Rc_drew)); exact HO_233002.out) hb) (Kd.Rc_base ho0)) (Kd.Rc_base ho1)) (fun _ h_ => h_.1)); have n3_ := Aside0.mk (Kd.Rc_mono (Kd.Rc_told (Kd.Rc_told (Kd.Rc_old (by (with_reducible repeat (first | apply Kd.Rc_alloc | apply Kd.Rc_drewN | apply Kd.Rc_drew)); exact HO_233005.out) hb) (Kd.Rc_base ho0)) (Kd.Rc_base ho1)) (fun _ h_ => h_.1)); have n4_ := Aside0.mk (Kd.Rc_lower (Kd.Rc_new' (Kd.Rc_new' ho0 (Kd.Rc_lt (by (with_reducible repeat (first | apply Kd.Rc_alloc | apply Kd.Rc_drewN | apply Kd.Rc_drew)); exact HO_233002.out))) (Kd.Rc_lt (by (with_reducible repeat (first | apply Kd.Rc_alloc | apply Kd.Rc_drewN | apply Kd.Rc_drew)); exact HO_233005.out))) (below_size (by repeat (first | (with_reducible first | exact HB.out | apply below_alloc | apply pw_below_drewN | apply below_drew1 | refine below_set ?_ GE203.out | refine below_set ?_ GE232.out) | exact HB.out)))); have n5_ := Aside0.mk (Kd.Rc_lower (Kd.Rc_new' (Kd.Rc_new' ho1 (Kd.Rc_lt (by (with_reducible repeat (first | apply Kd.Rc_alloc | apply Kd.Rc_drewN | apply Kd.Rc_drew)); exact HO_233002.out))) (Kd.Rc_lt (by (with_reducible repeat (first | apply Kd.Rc_alloc | apply Kd.Rc_drewN | apply Kd.Rc_drew)); exact HO_233005.out))) (below_size (by repeat (first | (with_reducible first | exact HB.out | apply below_alloc | apply pw_below_drewN | apply below_drew1 | refine below_set ?_ GE203.out | refine below_set ?_ GE232.out) | exact HB.out)))); have n6_ := Aside0.mk (blk_below (g := gb203) (o := .cells #[.int .u8 a0_0, .int .u8 a0_1, .slice A0_2 l0_2.length c0_2, .int .u8 a0_3, .int .u8 a0_4, .slice A0_5 l0_5.length c0_5] 47 (0, 0)) (by (with_reducible repeat (first | refine blk_drewN ?_ _ | refine blk_drew ?_ | refine blk_alloc ?_ _)); exact BK203.out) hb); have n7_ := Aside0.mk (blk_below (g := gb232) (o := .cells #[.int .u8 t222, .int .u8 t223, .slice Ao32 t257.length co32, .int .u8 t227, .int .u8 t228, .slice Ao33 t258.length co33] 52 (0, 0)) (by (with_reducible repeat (first | refine blk_drewN ?_ _ | refine blk_drew ?_ | refine blk_alloc ?_ _)); exact BK232.out) hb); have n8_ := Aside0.mk (below_step (by repeat (first | (with_reducible first | exact HB.out | apply below_alloc | apply pw_below_drewN | apply below_drew1 | refine below_set ?_ GE203.out | refine below_set ?_ GE232.out) | exact HB.out)) hb); clear HO_6; clear HO_10; clear HO_233002; clear HO_233005; clear BK203; clear BK232; clear HB; have HO_6 := n0_; have HO_10 := n1_; have HO_233002 := n2_; have HO_233005 := n3_; have HO269 := n4_; have HO274 := n5_; have BK203 := n6_; have BK232 := n7_; have HB := n8_; clear n0_ n1_ n2_ n3_ n4_ n5_ n6_ n7_ n8_; (try clear hb); (try clear hb2); (try clear hk); (try clear hi); (try clear ho0); (try clear ho1)) | ((with_reducible refine gate_callee (f := 18) rfl ?_); refine goesL_ (some 96) rfl rfl Try.func18 (by kernel_rfl) rfl #[.slice A1 l1.length c1] rfl (by (try simp only [List.map_toArray, List.map_cons, List.map_nil]); first | done | rfl | (simp only [List.length_drop, List.length_take]; rfl)) ?_; (with_reducible refine (laws_toByteS.callsC kj54 _ _ l1 t275 _ ?side1 ?side2 A84.out).mono ?_); (case side1 => repeat (first | exact (Kd.C_below HR1.out HB.out) | (with_reducible refine Kd.C_alloc ?_ _) | (with_reducible refine Kd.C_drewN ?_ _) | (with_reducible refine Kd.C_drew ?_))); (case side2 => exact HC1.out); rintro e w92 ⟨v276, rfl, ho0, hb⟩; refine ⟨_, rfl, ?_⟩; have n0_ := Aside0.mk (Kd.Rc_below (by (with_reducible repeat (first | apply Kd.Rc_alloc | apply Kd.Rc_drewN | apply Kd.Rc_drew)); exact HO_6.out) hb); have n1_ := Aside0.mk (Kd.Rc_below (by (with_reducible repeat (first | apply Kd.Rc_alloc | apply Kd.Rc_drewN | apply Kd.Rc_drew)); exact HO_10.out) hb); have n2_ := Aside0.mk (Kd.Rc_elder' (by (with_reducible repeat (first | apply Kd.Rc_alloc | apply Kd.Rc_drewN | apply Kd.Rc_drew)); exact HO_233002.out) (Kd.Rc_base ho0) hb); have n3_ := Aside0.mk (Kd.Rc_elder' (by (with_reducible repeat (first | apply Kd.Rc_alloc | apply Kd.Rc_drewN | apply Kd.Rc_drew)); exact HO_233005.out) (Kd.Rc_base ho0) hb); have n4_ := Aside0.mk (Kd.Rc_elder' (by (with_reducible repeat (first | apply Kd.Rc_alloc | apply Kd.Rc_drewN | apply Kd.Rc_drew)); exact HO269.out) (Kd.Rc_base ho0) hb); have n5_ := Aside0.mk (Kd.Rc_elder' (by (with_reducible repeat (first | apply Kd.Rc_alloc | apply Kd.Rc_drewN | apply Kd.Rc_drew)); exact HO274.out) (Kd.Rc_base ho0) hb); have n6_ := Aside0.mk (Kd.Rc_lower (Kd.Rc_new' (Kd.Rc_new' (Kd.Rc_new' (Kd.Rc_new' ho0 (Kd.Rc_lt (by (with_reducible repeat (first | apply Kd.Rc_alloc | apply Kd.Rc_drewN | apply Kd.Rc_drew)); exact HO_233002.out))) (Kd.Rc_lt (by (with_reducible repeat (first | apply Kd.Rc_alloc | apply Kd.Rc_drewN | apply Kd.Rc_drew)); exact HO_233005.out))) (Kd.Rc_lt (by (with_reducible repeat (first | apply Kd.Rc_alloc | apply Kd.Rc_drewN | apply Kd.Rc_drew)); exact HO269.out))) (Kd.Rc_lt (by (with_reducible repeat (first | apply Kd.Rc_alloc | apply Kd.Rc_drewN | apply Kd.Rc_drew)); exact HO274.out))) (below_size (by repeat (first | (with_reducible first | exact HB.out | apply below_alloc | apply pw_below_drewN | apply below_drew1 | refine below_set ?_ GE203.out | refine below_set ?_ GE232.out) | exact HB.out)))); have n7_ := Aside0.mk (blk_below (g := gb203) (o := .cells #[.int .u8 a0_0, .int .u8 a0_1, .slice A0_2 l0_2.length c0_2, .int .u8 a0_3, .int .u8 a0_4, .slice A0_5 l0_5.length c0_5] 47 (0, 0)) (by (with_reducible repeat (first | refine blk_drewN ?_ _ | refine blk_drew ?_ | refine blk_alloc ?_ _)); exact BK203.out) hb); have n8_ := Aside0.mk (blk_below (g := gb232) (o := .cells #[.int .u8 t222, .int .u8 t223, .slice Ao32 t257.length co32, .int .u8 t227, .int .u8 t228, .slice Ao33 t258.length co33] 52 (0, 0)) (by (with_reducible repeat (first | refine blk_drewN ?_ _ | refine blk_drew ?_ | refine blk_alloc ?_ _)); exact BK232.out) hb); have n9_ := Aside0.mk (below_step (by repeat (first | (with_reducible first | exact HB.out | apply below_alloc | apply pw_below_drewN | apply below_drew1 | refine below_set ?_ GE203.out | refine below_set ?_ GE232.out) | exact HB.out)) hb); clear HO_6; clear HO_10; clear HO_233002; clear HO_233005; clear HO269; clear HO274; clear BK203; clear BK232; clear HB; have HO_6 := n0_; have HO_10 := n1_; have HO_233002 := n2_; have HO_233005 := n3_; have HO269 := n4_; have HO274 := n5_; have HO277 := n6_; have BK203 := n7_; have BK232 := n8_; have HB := n9_; clear n0_ n1_ n2_ n3_ n4_ n5_ n6_ n7_ n8_ n9_; (try clear hb); (try clear hb2); (try clear hk); (try clear hi); (try clear ho0); obtain ⟨Ao93, co93, eo93⟩ := Kd.Rc_slice HO269.out; subst eo93; obtain ⟨Ao94, co94, eo94⟩ := Kd.Rc_slice HO274.out; subst eo94; obtain ⟨Ao95, co95, eo95⟩ := Kd.Rc_slice HO277.out; subst eo95) | ((with_reducible refine gate_callee (f := 58) rfl ?_); refine goesL_ (some 97) rfl rfl Try.func58 (by kernel_rfl) rfl #[.agg #[.int .u8 t265, .int .u8 t266, .slice Ao93 t267.length co93, .int .u8 t270, .int .u8 t271, .slice Ao94 t272.length co94], .slice Ao95 t275.length co95] rfl (by (try simp only [List.map_toArray, List.map_cons, List.map_nil]); first | done | rfl | (simp only [List.length_drop, List.length_take]; rfl)) ?_; (with_reducible refine (impl_HoldPlan.calls kj54 t265 t266 _ _ t267 t270 t271 _ _ t272 _ _ t275 t278 t281 _ ?side1 ?side2 ?side3 ?side4 ?side5 ?side6 A85.out).mono ?_); (case side1 => repeat (first | exact (Kd.Rc_reads' HO269.out).2.2 | (with_reducible refine Kd.C_alloc ?_ _) | (with_reducible refine Kd.C_drewN ?_ _) | (with_reducible refine Kd.C_drew ?_))); (case side2 => exact (Kd.Rc_reads' HO269.out).2.1); (case side3 => repeat (first | exact (Kd.Rc_reads' HO274.out).2.2 | (with_reducible refine Kd.C_alloc ?_ _) | (with_reducible refine Kd.C_drewN ?_ _) | (with_reducible refine Kd.C_drew ?_))); (case side4 => exact (Kd.Rc_reads' HO274.out).2.1); (case side5 => repeat (first | exact (Kd.Rc_reads' HO277.out).2.2 | (with_reducible refine Kd.C_alloc ?_ _) | (with_reducible refine Kd.C_drewN ?_ _) | (with_reducible refine Kd.C_drew ?_))); (case side6 => exact (Kd.Rc_reads' HO277.out).2.1); rintro e w96 ⟨v279, rfl, ho0, hb⟩; refine ⟨_, rfl, ?_⟩; have n0_ := Aside0.mk (Kd.Rc_elder' (by (with_reducible repeat (first | apply Kd.Rc_alloc | apply Kd.Rc_drewN | apply Kd.Rc_drew)); exact HO_6.out) (Kd.Rc_base ho0) hb); have n1_ := Aside0.mk (Kd.Rc_elder' (by (with_reducible repeat (first | apply Kd.Rc_alloc | apply Kd.Rc_drewN | apply Kd.Rc_drew)); exact HO_10.out) (Kd.Rc_base ho0) hb); have n2_ := Aside0.mk (Kd.Rc_below (by (with_reducible repeat (first | apply Kd.Rc_alloc | apply Kd.Rc_drewN | apply Kd.Rc_drew)); exact HO_233002.out) hb); have n3_ := Aside0.mk (Kd.Rc_below (by (with_reducible repeat (first | apply Kd.Rc_alloc | apply Kd.Rc_drewN | apply Kd.Rc_drew)); exact HO_233005.out) hb); have n4_ := Aside0.mk (Kd.Rc_below (by (with_reducible repeat (first | apply Kd.Rc_alloc | apply Kd.Rc_drewN | apply Kd.Rc_drew)); exact HO269.out) hb); have n5_ := Aside0.mk (Kd.Rc_below (by (with_reducible repeat (first | apply Kd.Rc_alloc | apply Kd.Rc_drewN | apply Kd.Rc_drew)); exact HO274.out) hb); have n6_ := Aside0.mk (Kd.Rc_below (by (with_reducible repeat (first | apply Kd.Rc_alloc | apply Kd.Rc_drewN | apply Kd.Rc_drew)); exact HO277.out) hb); have n7_ := Aside0.mk (Kd.Rc_lower (Kd.Rc_new' (Kd.Rc_new' ho0 (Kd.Rc_lt (by (with_reducible repeat (first | apply Kd.Rc_alloc | apply Kd.Rc_drewN | apply Kd.Rc_drew)); exact HO_6.out))) (Kd.Rc_lt (by (with_reducible repeat (first | apply Kd.Rc_alloc | apply Kd.Rc_drewN | apply Kd.Rc_drew)); exact HO_10.out))) (below_size (by repeat (first | (with_reducible first | exact HB.out | apply below_alloc | apply pw_below_drewN | apply below_drew1 | refine below_set ?_ GE203.out | refine below_set ?_ GE232.out) | exact HB.out)))); have n8_ := Aside0.mk (blk_below (g := gb203) (o := .cells #[.int .u8 a0_0, .int .u8 a0_1, .slice A0_2 l0_2.length c0_2, .int .u8 a0_3, .int .u8 a0_4, .slice A0_5 l0_5.length c0_5] 47 (0, 0)) (by (with_reducible repeat (first | refine blk_drewN ?_ _ | refine blk_drew ?_ | refine blk_alloc ?_ _)); exact BK203.out) hb); have n9_ := Aside0.mk (blk_below (g := gb232) (o := .cells #[.int .u8 t222, .int .u8 t223, .slice Ao32 t257.length co32, .int .u8 t227, .int .u8 t228, .slice Ao33 t258.length co33] 52 (0, 0)) (by (with_reducible repeat (first | refine blk_drewN ?_ _ | refine blk_drew ?_ | refine blk_alloc ?_ _)); exact BK232.out) hb); have n10_ := Aside0.mk (below_step (by repeat (first | (with_reducible first | exact HB.out | apply below_alloc | apply pw_below_drewN | apply below_drew1 | refine below_set ?_ GE203.out | refine below_set ?_ GE232.out) | exact HB.out)) hb); clear HO_6; clear HO_10; clear HO_233002; clear HO_233005; clear HO269; clear HO274; clear HO277; clear BK203; clear BK232; clear HB; have HO_6 := n0_; have HO_10 := n1_; have HO_233002 := n2_; have HO_233005 := n3_; have HO269 := n4_; have HO274 := n5_; have HO277 := n6_; have HO280 := n7_; have BK203 := n8_; have BK232 := n9_; have HB := n10_; clear n0_ n1_ n2_ n3_ n4_ n5_ n6_ n7_ n8_ n9_ n10_; (try clear hb); (try clear hb2); (try clear hk); (try clear hi); (try clear ho0)))
                          (try simp only [Act.put, List.setIfInBounds_toArray, List.set_cons_zero, List.set_cons_succ])
                          go_cut [108] (fun v108 wc => ∃ (kq : Nat) (x108_85 : Bool), v108 = .bool x108_85 ∧ Aside0 (laws_FnExactHoldPlan.j2 kq t263 t262 x108_85 = some r) ∧ Aside0 (kq ≤ kj54) ∧ Aside0 (Kd.Rc k104 104 wc w.heap.size (fun _ => True) (.slice Ao87 t236.length co87) t263) ∧ Aside0 (Kd.Rc (Kd.int .u8) 5 wc w.heap.size (fun k_ => some k_ ≠ ((.slice Ao33 t258.length co33) : Value).ownBlock) (.slice Ao32 t257.length co32) t257) ∧ Aside0 (Kd.Rc (Kd.int .u8) 5 wc w.heap.size (fun k_ => some k_ ≠ ((.slice Ao32 t257.length co32) : Value).ownBlock) (.slice Ao33 t258.length co33) t258) ∧ Aside0 (wc.heap[gb203]? = some (.cells #[.int .u8 a0_0, .int .u8 a0_1, (.slice A0_2 l0_2.length c0_2), .int .u8 a0_3, .int .u8 a0_4, (.slice A0_5 l0_5.length c0_5)] 47 (0, 0))) ∧ Aside0 (wc.heap[gb232]? = some (.cells #[.int .u8 t222, .int .u8 t223, (.slice Ao32 t257.length co32), .int .u8 t227, .int .u8 t228, (.slice Ao33 t258.length co33)] 52 (0, 0))) ∧ Aside0 (Below w.heap.size w wc))
                          case first =>
                            have H := HC86.out
                            clear HC86
                            replace H := Option.bind_eq_some_iff.mp H
                            obtain ⟨t282, A970, H⟩ := H
                            replace H : (if t282 = true then (laws_FnExactHoldPlan.j2 kj54 t263 t262 (t281 != t221)) else (laws_FnExactHoldPlan.j2 kj54 t263 t262 true)) = some r := H
                            have A97 := Aside0.mk A970
                            clear A970
                            by_cases c98 : t282 = true
                            · subst c98
                              have H1 : (laws_FnExactHoldPlan.j2 kj54 t263 t262 (t281 != t221)) = some r := by rw [if_pos rfl] at H; exact H
                              clear H
                              have H := H1
                              clear H1
                              have H' := Aside0.mk H
                              clear H
                              obtain ⟨Ao99, co99, eo99⟩ := Kd.Rc_slice HO280.out
                              subst eo99
                              obtain ⟨Ao100, co100, eo100⟩ := Kd.Rc_slice HO_6.out
                              subst eo100
                              go_wp2_with (first | ((with_reducible refine gate_callee (f := 59) rfl ?_); refine goesL_ (some 102) rfl rfl Try.func59 (by kernel_rfl) rfl #[.slice Ao99 t278.length co99, .slice Ao100 t218.length co100] rfl (by (try simp only [List.map_toArray, List.map_cons, List.map_nil]); first | done | rfl | (simp only [List.length_drop, List.length_take]; rfl)) ?_; (with_reducible refine (laws_eqHoldWriteS.calls kj54 _ _ t278 _ _ t218 true _ ?side1 ?side2 ?side3 ?side4 A97.out).mono ?_); (case side1 => repeat (first | exact (Kd.Rc_reads' HO280.out).2.2 | (with_reducible refine Kd.C_alloc ?_ _) | (with_reducible refine Kd.C_drewN ?_ _) | (with_reducible refine Kd.C_drew ?_))); (case side2 => exact (Kd.Rc_reads' HO280.out).2.1); (case side3 => repeat (first | exact (Kd.Rc_reads' HO_6.out).2.2 | (with_reducible refine Kd.C_alloc ?_ _) | (with_reducible refine Kd.C_drewN ?_ _) | (with_reducible refine Kd.C_drew ?_))); (case side4 => exact (Kd.Rc_reads' HO_6.out).2.1); rintro e w101 ⟨rfl, hb⟩; refine ⟨_, rfl, ?_⟩; have n0_ := Aside0.mk (Kd.Rc_below (by (with_reducible repeat (first | apply Kd.Rc_alloc | apply Kd.Rc_drewN | apply Kd.Rc_drew)); exact HO_6.out) hb); have n1_ := Aside0.mk (Kd.Rc_below (by (with_reducible repeat (first | apply Kd.Rc_alloc | apply Kd.Rc_drewN | apply Kd.Rc_drew)); exact HO_10.out) hb); have n2_ := Aside0.mk (Kd.Rc_below (by (with_reducible repeat (first | apply Kd.Rc_alloc | apply Kd.Rc_drewN | apply Kd.Rc_drew)); exact HO_233002.out) hb); have n3_ := Aside0.mk (Kd.Rc_below (by (with_reducible repeat (first | apply Kd.Rc_alloc | apply Kd.Rc_drewN | apply Kd.Rc_drew)); exact HO_233005.out) hb); have n4_ := Aside0.mk (Kd.Rc_below (by (with_reducible repeat (first | apply Kd.Rc_alloc | apply Kd.Rc_drewN | apply Kd.Rc_drew)); exact HO269.out) hb); have n5_ := Aside0.mk (Kd.Rc_below (by (with_reducible repeat (first | apply Kd.Rc_alloc | apply Kd.Rc_drewN | apply Kd.Rc_drew)); exact HO274.out) hb); have n6_ := Aside0.mk (Kd.Rc_below (by (with_reducible repeat (first | apply Kd.Rc_alloc | apply Kd.Rc_drewN | apply Kd.Rc_drew)); exact HO277.out) hb); have n7_ := Aside0.mk (Kd.Rc_below (by (with_reducible repeat (first | apply Kd.Rc_alloc | apply Kd.Rc_drewN | apply Kd.Rc_drew)); exact HO280.out) hb); have n8_ := Aside0.mk (blk_below (g := gb203) (o := .cells #[.int .u8 a0_0, .int .u8 a0_1, .slice A0_2 l0_2.length c0_2, .int .u8 a0_3, .int .u8 a0_4, .slice A0_5 l0_5.length c0_5] 47 (0, 0)) (by (with_reducible repeat (first | refine blk_drewN ?_ _ | refine blk_drew ?_ | refine blk_alloc ?_ _)); exact BK203.out) hb); have n9_ := Aside0.mk (blk_below (g := gb232) (o := .cells #[.int .u8 t222, .int .u8 t223, .slice Ao32 t257.length co32, .int .u8 t227, .int .u8 t228, .slice Ao33 t258.length co33] 52 (0, 0)) (by (with_reducible repeat (first | refine blk_drewN ?_ _ | refine blk_drew ?_ | refine blk_alloc ?_ _)); exact BK232.out) hb); have n10_ := Aside0.mk (below_step (by repeat (first | (with_reducible first | exact HB.out | apply below_alloc | apply pw_below_drewN | apply below_drew1 | refine below_set ?_ GE203.out | refine below_set ?_ GE232.out) | exact HB.out)) hb); clear HO_6; clear HO_10; clear HO_233002; clear HO_233005; clear HO269; clear HO274; clear HO277; clear HO280; clear BK203; clear BK232; clear HB; have HO_6 := n0_; have HO_10 := n1_; have HO_233002 := n2_; have HO_233005 := n3_; have HO269 := n4_; have HO274 := n5_; have HO277 := n6_; have HO280 := n7_; have BK203 := n8_; have BK232 := n9_; have HB := n10_; clear n0_ n1_ n2_ n3_ n4_ n5_ n6_ n7_ n8_ n9_ n10_; (try clear hb); (try clear hb2); (try clear hk); (try clear hi)))
                              go_meet
                              case rel => exact ⟨_, ((t281 != t221)), (by first | rfl | (simp; done) | (simp [*]; done)), H', ⟨by have := HJ15.out; have := HJ54.out; first | omega | exact Nat.le_refl _⟩, ⟨by (try simp only [hl233002_54]); (try simp only [hl233005_54]); (with_reducible repeat (first | apply Kd.Rc_alloc | apply Kd.Rc_drewN | apply Kd.Rc_drew)); exact Kd.Rc_mono HO_10.out (fun _ hk => trivial)⟩, ⟨by (try simp only [hl233002_54]); (try simp only [hl233005_54]); (with_reducible repeat (first | apply Kd.Rc_alloc | apply Kd.Rc_drewN | apply Kd.Rc_drew)); exact Kd.Rc_mono HO_233002.out (fun _ hk => hk.1.1.1)⟩, ⟨by (try simp only [hl233002_54]); (try simp only [hl233005_54]); (with_reducible repeat (first | apply Kd.Rc_alloc | apply Kd.Rc_drewN | apply Kd.Rc_drew)); exact Kd.Rc_mono HO_233005.out (fun _ hk => hk.1.1.1)⟩, ⟨by (try simp only [hl233002_54]); (try simp only [hl233005_54]); (with_reducible repeat (first | refine blk_drewN ?_ _ | refine blk_drew ?_ | refine blk_alloc ?_ _)); exact BK203.out⟩, ⟨by (try simp only [hl233002_54]); (try simp only [hl233005_54]); (with_reducible repeat (first | refine blk_drewN ?_ _ | refine blk_drew ?_ | refine blk_alloc ?_ _)); exact BK232.out⟩, ⟨by repeat (first | (with_reducible first | exact HB.out | apply below_alloc | apply pw_below_drewN | apply below_drew1 | refine below_set ?_ GE203.out | refine below_set ?_ GE232.out) | exact HB.out)⟩⟩
                            · replace c98 := Bool.eq_false_iff.mpr c98
                              subst c98
                              have H1 : (laws_FnExactHoldPlan.j2 kj54 t263 t262 true) = some r := by rw [if_neg (show ¬ (false = true) by decide)] at H; exact H
                              clear H
                              have H := H1
                              clear H1
                              have H' := Aside0.mk H
                              clear H
                              obtain ⟨Ao102, co102, eo102⟩ := Kd.Rc_slice HO280.out
                              subst eo102
                              obtain ⟨Ao103, co103, eo103⟩ := Kd.Rc_slice HO_6.out
                              subst eo103
                              go_wp2_with (first | ((with_reducible refine gate_callee (f := 59) rfl ?_); refine goesL_ (some 102) rfl rfl Try.func59 (by kernel_rfl) rfl #[.slice Ao102 t278.length co102, .slice Ao103 t218.length co103] rfl (by (try simp only [List.map_toArray, List.map_cons, List.map_nil]); first | done | rfl | (simp only [List.length_drop, List.length_take]; rfl)) ?_; (with_reducible refine (laws_eqHoldWriteS.calls kj54 _ _ t278 _ _ t218 false _ ?side1 ?side2 ?side3 ?side4 A97.out).mono ?_); (case side1 => repeat (first | exact (Kd.Rc_reads' HO280.out).2.2 | (with_reducible refine Kd.C_alloc ?_ _) | (with_reducible refine Kd.C_drewN ?_ _) | (with_reducible refine Kd.C_drew ?_))); (case side2 => exact (Kd.Rc_reads' HO280.out).2.1); (case side3 => repeat (first | exact (Kd.Rc_reads' HO_6.out).2.2 | (with_reducible refine Kd.C_alloc ?_ _) | (with_reducible refine Kd.C_drewN ?_ _) | (with_reducible refine Kd.C_drew ?_))); (case side4 => exact (Kd.Rc_reads' HO_6.out).2.1); rintro e w104 ⟨rfl, hb⟩; refine ⟨_, rfl, ?_⟩; have n0_ := Aside0.mk (Kd.Rc_below (by (with_reducible repeat (first | apply Kd.Rc_alloc | apply Kd.Rc_drewN | apply Kd.Rc_drew)); exact HO_6.out) hb); have n1_ := Aside0.mk (Kd.Rc_below (by (with_reducible repeat (first | apply Kd.Rc_alloc | apply Kd.Rc_drewN | apply Kd.Rc_drew)); exact HO_10.out) hb); have n2_ := Aside0.mk (Kd.Rc_below (by (with_reducible repeat (first | apply Kd.Rc_alloc | apply Kd.Rc_drewN | apply Kd.Rc_drew)); exact HO_233002.out) hb); have n3_ := Aside0.mk (Kd.Rc_below (by (with_reducible repeat (first | apply Kd.Rc_alloc | apply Kd.Rc_drewN | apply Kd.Rc_drew)); exact HO_233005.out) hb); have n4_ := Aside0.mk (Kd.Rc_below (by (with_reducible repeat (first | apply Kd.Rc_alloc | apply Kd.Rc_drewN | apply Kd.Rc_drew)); exact HO269.out) hb); have n5_ := Aside0.mk (Kd.Rc_below (by (with_reducible repeat (first | apply Kd.Rc_alloc | apply Kd.Rc_drewN | apply Kd.Rc_drew)); exact HO274.out) hb); have n6_ := Aside0.mk (Kd.Rc_below (by (with_reducible repeat (first | apply Kd.Rc_alloc | apply Kd.Rc_drewN | apply Kd.Rc_drew)); exact HO277.out) hb); have n7_ := Aside0.mk (Kd.Rc_below (by (with_reducible repeat (first | apply Kd.Rc_alloc | apply Kd.Rc_drewN | apply Kd.Rc_drew)); exact HO280.out) hb); have n8_ := Aside0.mk (blk_below (g := gb203) (o := .cells #[.int .u8 a0_0, .int .u8 a0_1, .slice A0_2 l0_2.length c0_2, .int .u8 a0_3, .int .u8 a0_4, .slice A0_5 l0_5.length c0_5] 47 (0, 0)) (by (with_reducible repeat (first | refine blk_drewN ?_ _ | refine blk_drew ?_ | refine blk_alloc ?_ _)); exact BK203.out) hb); have n9_ := Aside0.mk (blk_below (g := gb232) (o := .cells #[.int .u8 t222, .int .u8 t223, .slice Ao32 t257.length co32, .int .u8 t227, .int .u8 t228, .slice Ao33 t258.length co33] 52 (0, 0)) (by (with_reducible repeat (first | refine blk_drewN ?_ _ | refine blk_drew ?_ | refine blk_alloc ?_ _)); exact BK232.out) hb); have n10_ := Aside0.mk (below_step (by repeat (first | (with_reducible first | exact HB.out | apply below_alloc | apply pw_below_drewN | apply below_drew1 | refine below_set ?_ GE203.out | refine below_set ?_ GE232.out) | exact HB.out)) hb); clear HO_6; clear HO_10; clear HO_233002; clear HO_233005; clear HO269; clear HO274; clear HO277; clear HO280; clear BK203; clear BK232; clear HB; have HO_6 := n0_; have HO_10 := n1_; have HO_233002 := n2_; have HO_233005 := n3_; have HO269 := n4_; have HO274 := n5_; have HO277 := n6_; have HO280 := n7_; have BK203 := n8_; have BK232 := n9_; have HB := n10_; clear n0_ n1_ n2_ n3_ n4_ n5_ n6_ n7_ n8_ n9_ n10_; (try clear hb); (try clear hb2); (try clear hk); (try clear hi)))
                              go_meet
                              case rel => exact ⟨_, (true), (by first | rfl | (simp; done) | (simp [*]; done)), H', ⟨by have := HJ15.out; have := HJ54.out; first | omega | exact Nat.le_refl _⟩, ⟨by (try simp only [hl233002_54]); (try simp only [hl233005_54]); (with_reducible repeat (first | apply Kd.Rc_alloc | apply Kd.Rc_drewN | apply Kd.Rc_drew)); exact Kd.Rc_mono HO_10.out (fun _ hk => trivial)⟩, ⟨by (try simp only [hl233002_54]); (try simp only [hl233005_54]); (with_reducible repeat (first | apply Kd.Rc_alloc | apply Kd.Rc_drewN | apply Kd.Rc_drew)); exact Kd.Rc_mono HO_233002.out (fun _ hk => hk.1.1.1)⟩, ⟨by (try simp only [hl233002_54]); (try simp only [hl233005_54]); (with_reducible repeat (first | apply Kd.Rc_alloc | apply Kd.Rc_drewN | apply Kd.Rc_drew)); exact Kd.Rc_mono HO_233005.out (fun _ hk => hk.1.1.1)⟩, ⟨by (try simp only [hl233002_54]); (try simp only [hl233005_54]); (with_reducible repeat (first | refine blk_drewN ?_ _ | refine blk_drew ?_ | refine blk_alloc ?_ _)); exact BK203.out⟩, ⟨by (try simp only [hl233002_54]); (try simp only [hl233005_54]); (with_reducible repeat (first | refine blk_drewN ?_ _ | refine blk_drew ?_ | refine blk_alloc ?_ _)); exact BK232.out⟩, ⟨by repeat (first | (with_reducible first | exact HB.out | apply below_alloc | apply pw_below_drewN | apply below_drew1 | refine below_set ?_ GE203.out | refine below_set ?_ GE232.out) | exact HB.out)⟩⟩
                          case rest =>
                            clear HC86
                            try clear c1
                            try clear c2
                            try clear p2
                            try clear c3
                            try clear c3b0
                            try clear c3b1
                            try clear c4
                            try clear c5
                            try clear c6
                            try clear c6b0
                            try clear c7
                            try clear c8
                            try clear c9
                            try clear c16
                            try clear c18
                            try clear c20
                            try clear c27
                            try clear c30
                            try clear c38
                            try clear c39
                            try clear c40
                            try clear c42
                            try clear c46
                            try clear c49
                            try clear c52
                            try clear c57
                            try clear c58
                            try clear c59
                            try clear c60
                            try clear c61
                            try clear c63
                            try clear c67
                            try clear c67b0
                            try clear c69
                            try clear c76
                            try clear c79
                            try clear c79b0
                            try clear c82
                            try clear c82b0
                            try clear c82b1
                            try clear c89
                            try clear c98
                            try clear hcz18_0
                            try clear hcz18_1
                            try clear hcz18_2
                            try clear hcz18_3
                            try clear hcz18_4
                            try clear hcz18_5
                            try clear hcz20_0
                            try clear hcz20_1
                            try clear hcz20_2
                            try clear hcz20_3
                            try clear hcz20_4
                            try clear hcz20_5
                            try clear hcz27_0
                            try clear hcz27_1
                            try clear hcz27_2
                            try clear hcz27_3
                            try clear hcz27_4
                            try clear hcz27_5
                            try clear hcz31_0
                            try clear hcz31_1
                            try clear hcz31_2
                            try clear hcz31_3
                            try clear hcz31_4
                            try clear hcz31_5
                            try clear hcz35_0
                            try clear hcz35_1
                            try clear hcz35_2
                            try clear hcz35_3
                            try clear hcz35_4
                            try clear hcz35_5
                            try clear hcz64_0
                            try clear hcz64_1
                            try clear hcz64_2
                            try clear hcz64_3
                            try clear hcz64_4
                            try clear hcz64_5
                            try clear hcz8_0
                            try clear hcz8_1
                            try clear hcz8_2
                            try clear hcz8_3
                            try clear hcz8_4
                            try clear hcz8_5
                            try clear hcz90_0
                            try clear hcz90_1
                            try clear hcz90_2
                            try clear hcz90_3
                            try clear hcz90_4
                            try clear hcz90_5
                            try clear hfz18_0
                            try clear hfz18_1
                            try clear hfz18_2
                            try clear hfz18_3
                            try clear hfz18_4
                            try clear hfz18_5
                            try clear hfz20_0
                            try clear hfz20_1
                            try clear hfz20_2
                            try clear hfz20_3
                            try clear hfz20_4
                            try clear hfz20_5
                            try clear hfz27_0
                            try clear hfz27_1
                            try clear hfz27_2
                            try clear hfz27_3
                            try clear hfz27_4
                            try clear hfz27_5
                            try clear hfz31_0
                            try clear hfz31_1
                            try clear hfz31_2
                            try clear hfz31_3
                            try clear hfz31_4
                            try clear hfz31_5
                            try clear hfz35_0
                            try clear hfz35_1
                            try clear hfz35_2
                            try clear hfz35_3
                            try clear hfz35_4
                            try clear hfz35_5
                            try clear hfz64_0
                            try clear hfz64_1
                            try clear hfz64_2
                            try clear hfz64_3
                            try clear hfz64_4
                            try clear hfz64_5
                            try clear hfz8_0
                            try clear hfz8_1
                            try clear hfz8_2
                            try clear hfz8_3
                            try clear hfz8_4
                            try clear hfz8_5
                            try clear hfz90_0
                            try clear hfz90_1
                            try clear hfz90_2
                            try clear hfz90_3
                            try clear hfz90_4
                            try clear hfz90_5
                            try clear p2
                            obtain ⟨kq, x108_85, rfl, HA, HJ85, HO_10, HO_233002, HO_233005, BK203, BK232, HB⟩ := hcut
                            have hl10_85 := (Kd.Rc_reads' HO_10.out).1
                            rw [hl10_85] at HO_10
                            (try simp only [hl10_85])
                            (try simp only [hl10_85] at BK203)
                            (try simp only [hl10_85] at BK232)
                            (try simp only [hl10_85] at HO_233002)
                            (try simp only [hl10_85] at HO_233005)
                            cases kq with
                            | zero => exact absurd HA.out (by simp [laws_FnExactHoldPlan.j2])
                            | succ kj85 =>
                              have H := HA.out
                              clear HA
                              simp only [laws_FnExactHoldPlan.j2] at H
                              by_cases c105 : x108_85 = true
                              · subst c105
                                have H1 : (some false) = some r := by rw [if_pos rfl] at H; exact H
                                clear H
                                have H := H1
                                clear H1
                                obtain rfl := Option.some.inj H
                                go_wp2
                                go_ret
                                exact ⟨by first | rfl | (simp [errW_none, errW_some] <;> rfl) | (simp [*, errW_none, errW_some] <;> rfl), by repeat (first | (with_reducible first | exact HB.out | apply below_alloc | apply pw_below_drewN | apply below_drew1 | refine below_set ?_ GE203.out | refine below_set ?_ GE232.out) | exact HB.out)⟩
                              · replace c105 := Bool.eq_false_iff.mpr c105
                                subst c105
                                have H1 : ((laws_heldHoldWriteS.f kj85 t263 1).bind fun t283 => (if t283 < 0 then (some false) else (if t283 = t262 then (some true) else (some false)))) = some r := by rw [if_neg (show ¬ (false = true) by decide)] at H; exact H
                                clear H
                                have H := H1
                                clear H1
                                replace H := Option.bind_eq_some_iff.mp H
                                obtain ⟨t283, A1060, H⟩ := H
                                replace H : (if t283 < 0 then (some false) else (if t283 = t262 then (some true) else (some false))) = some r := H
                                have A106 := Aside0.mk A1060
                                clear A1060
                                by_cases c107 : t283 < 0
                                · rw [if_pos c107] at H
                                  have c107b0 : decide (t283 < 0) = true := decide_eq_true c107
                                  clear c107
                                  obtain rfl := Option.some.inj H
                                  go_wp2_with (first | ((with_reducible refine gate_callee (f := 61) rfl ?_); refine goesL_ (some 111) rfl rfl Try.func61 (by kernel_rfl) rfl #[.slice Ao87 t263.length co87, .int .i64 1] rfl (by (try simp only [List.map_toArray, List.map_cons, List.map_nil]); first | done | rfl | (simp only [List.length_drop, List.length_take]; rfl)) ?_; (with_reducible refine (laws_heldHoldWriteS.calls kj85 _ _ t263 1 t283 _ ?side1 ?side2 A106.out).mono ?_); (case side1 => repeat (first | exact (Kd.Rc_reads' HO_10.out).2.2 | (with_reducible refine Kd.C_alloc ?_ _) | (with_reducible refine Kd.C_drewN ?_ _) | (with_reducible refine Kd.C_drew ?_))); (case side2 => exact (Kd.Rc_reads' HO_10.out).2.1); rintro e w' ⟨rfl, ⟨nd, rfl⟩⟩; refine ⟨_, rfl, ?_⟩))
                                  go_ret
                                  exact ⟨by first | rfl | (simp [errW_none, errW_some] <;> rfl) | (simp [*, errW_none, errW_some] <;> rfl), by repeat (first | (with_reducible first | exact HB.out | apply below_alloc | apply pw_below_drewN | apply below_drew1 | refine below_set ?_ GE203.out | refine below_set ?_ GE232.out) | exact HB.out)⟩
                                · rw [if_neg c107] at H
                                  have c107b0 : decide (t283 < 0) = false := decide_eq_false c107
                                  clear c107
                                  by_cases c108 : t283 = t262
                                  · rw [if_pos c108] at H
                                    have c108b0 : (t283 == t262) = true := beq_iff_eq.mpr c108
                                    have c108b1 : (t283 != t262) = false := bne_eq_false_iff_eq.mpr c108
                                    clear c108
                                    obtain rfl := Option.some.inj H
                                    go_wp2_with (first | ((with_reducible refine gate_callee (f := 61) rfl ?_); refine goesL_ (some 111) rfl rfl Try.func61 (by kernel_rfl) rfl #[.slice Ao87 t263.length co87, .int .i64 1] rfl (by (try simp only [List.map_toArray, List.map_cons, List.map_nil]); first | done | rfl | (simp only [List.length_drop, List.length_take]; rfl)) ?_; (with_reducible refine (laws_heldHoldWriteS.calls kj85 _ _ t263 1 t283 _ ?side1 ?side2 A106.out).mono ?_); (case side1 => repeat (first | exact (Kd.Rc_reads' HO_10.out).2.2 | (with_reducible refine Kd.C_alloc ?_ _) | (with_reducible refine Kd.C_drewN ?_ _) | (with_reducible refine Kd.C_drew ?_))); (case side2 => exact (Kd.Rc_reads' HO_10.out).2.1); rintro e w' ⟨rfl, ⟨nd, rfl⟩⟩; refine ⟨_, rfl, ?_⟩))
                                    go_ret
                                    exact ⟨by first | rfl | (simp [errW_none, errW_some] <;> rfl) | (simp [*, errW_none, errW_some] <;> rfl), by repeat (first | (with_reducible first | exact HB.out | apply below_alloc | apply pw_below_drewN | apply below_drew1 | refine below_set ?_ GE203.out | refine below_set ?_ GE232.out) | exact HB.out)⟩
                                  · rw [if_neg c108] at H
                                    have c108b0 : (t283 == t262) = false := beq_eq_false_iff_ne.mpr c108
                                    have c108b1 : (t283 != t262) = true := bne_iff_ne.mpr c108
                                    obtain rfl := Option.some.inj H
                                    go_wp2_with (first | ((with_reducible refine gate_callee (f := 61) rfl ?_); refine goesL_ (some 111) rfl rfl Try.func61 (by kernel_rfl) rfl #[.slice Ao87 t263.length co87, .int .i64 1] rfl (by (try simp only [List.map_toArray, List.map_cons, List.map_nil]); first | done | rfl | (simp only [List.length_drop, List.length_take]; rfl)) ?_; (with_reducible refine (laws_heldHoldWriteS.calls kj85 _ _ t263 1 t283 _ ?side1 ?side2 A106.out).mono ?_); (case side1 => repeat (first | exact (Kd.Rc_reads' HO_10.out).2.2 | (with_reducible refine Kd.C_alloc ?_ _) | (with_reducible refine Kd.C_drewN ?_ _) | (with_reducible refine Kd.C_drew ?_))); (case side2 => exact (Kd.Rc_reads' HO_10.out).2.1); rintro e w' ⟨rfl, ⟨nd, rfl⟩⟩; refine ⟨_, rfl, ?_⟩))
                                    go_ret
                                    exact ⟨by first | rfl | (simp [errW_none, errW_some] <;> rfl) | (simp [*, errW_none, errW_some] <;> rfl), by repeat (first | (with_reducible first | exact HB.out | apply below_alloc | apply pw_below_drewN | apply below_drew1 | refine below_set ?_ GE203.out | refine below_set ?_ GE232.out) | exact HB.out)⟩
                        · rw [if_neg c82] at H
                          have c82b0 : (t264 == t262) = false := beq_eq_false_iff_ne.mpr c82
                          have c82b1 : (t264 != t262) = true := bne_iff_ne.mpr c82
                          obtain rfl := Option.some.inj H
                          obtain ⟨Ao109, co109, eo109⟩ := Kd.Rc_slice HO_10.out
                          subst eo109
                          go_wp2_with (first | ((with_reducible refine gate_callee (f := 60) rfl ?_); refine goesL_ (some 83) rfl rfl Try.func60 (by kernel_rfl) rfl #[.slice Ao109 t236.length co109, .int .i64 1] rfl (by (try simp only [List.map_toArray, List.map_cons, List.map_nil]); first | done | rfl | (simp only [List.length_drop, List.length_take]; rfl)) ?_; (with_reducible refine (laws_markHoldWriteS.callsC kj54 (fun k_ => some k_ = (.slice Ao109 t236.length co109 : Value).ownBlock) (.slice Ao109 t236.length co109) t236 1 t262 t263 w _ ?side1 ?side2 A77.out).mono ?_); (case side1 => repeat (first | (with_reducible first | exact HB.out | apply below_alloc | apply pw_below_drewN | apply below_drew1 | refine below_set ?_ GE203.out | refine below_set ?_ GE232.out) | exact HB.out)); (case side2 => exact Kd.Rc_tight rfl HO_10.out); rintro e w110 ⟨rfl, hy0, hb, hkp⟩; refine ⟨_, rfl, ?_⟩; have n0_ := Aside0.mk (Kd.Rc_mono (ok' := fun k_ => some k_ ≠ (.slice Ao109 t236.length co109 : Value).ownBlock) (Kd.Rc_keptB (HO_6.out) hkp (fun k_ hk_ hs_ => (hk_) hs_)) (fun k_ hk_ => hk_.1)); have n1_ := Aside0.mk (Kd.Rc_reok rfl hy0 (fun k_ e_ => HO_10.out.1 k_ e_)); have n2_ := Aside0.mk (Kd.Rc_mono (ok' := fun k_ => some k_ ≠ (.slice Ao33 t258.length co33 : Value).ownBlock) (Kd.Rc_keptB ((Kd.Rc_apart' HO_233002.out (Kd.Rc_typed HO_10.out) (by decide))) hkp (fun k_ hk_ hs_ => (hk_.2) hs_)) (fun k_ hk_ => hk_.1.1)); have n3_ := Aside0.mk (Kd.Rc_mono (ok' := fun k_ => some k_ ≠ (.slice Ao32 t257.length co32 : Value).ownBlock) (Kd.Rc_keptB ((Kd.Rc_apart' HO_233005.out (Kd.Rc_typed HO_10.out) (by decide))) hkp (fun k_ hk_ hs_ => (hk_.2) hs_)) (fun k_ hk_ => hk_.1.1)); have n4_ := Aside0.mk (blk_kept (by (with_reducible repeat (first | refine blk_drewN ?_ _ | refine blk_drew ?_ | refine blk_alloc ?_ _)); exact BK203.out) hkp (fun hs_ => (fun e_ => (Kd.Rc_ne HO_10.out BK203.out (by decide)) e_) hs_)); have n5_ := Aside0.mk (blk_kept (by (with_reducible repeat (first | refine blk_drewN ?_ _ | refine blk_drew ?_ | refine blk_alloc ?_ _)); exact BK232.out) hkp (fun hs_ => (fun e_ => (Kd.Rc_ne HO_10.out BK232.out (by decide)) e_) hs_)); have n6_ := Aside0.mk (hb); clear HO_6; clear HO_10; clear HO_233002; clear HO_233005; clear BK203; clear BK232; clear HB; have HO_6 := n0_; have HO_10 := n1_; have HO_233002 := n2_; have HO_233005 := n3_; have BK203 := n4_; have BK232 := n5_; have HB := n6_; clear n0_ n1_ n2_ n3_ n4_ n5_ n6_; (try clear hb); (try clear hkp); (try clear hy0)) | ((with_reducible refine gate_callee (f := 61) rfl ?_); refine goesL_ (some 86) rfl rfl Try.func61 (by kernel_rfl) rfl #[.slice Ao109 t263.length co109, .int .i64 1] rfl (by (try simp only [List.map_toArray, List.map_cons, List.map_nil]); first | done | (rw [show t263.length = t236.length from (Kd.Rc_reads' HO_10.out).1.symm] <;> rfl) | rfl | (simp only [List.length_drop, List.length_take]; rfl)) ?_; (with_reducible refine (laws_heldHoldWriteS.calls kj54 _ _ t263 1 t264 _ ?side1 ?side2 A78.out).mono ?_); (case side1 => repeat (first | exact (Kd.Rc_reads' HO_10.out).2.2 | (with_reducible refine Kd.C_alloc ?_ _) | (with_reducible refine Kd.C_drewN ?_ _) | (with_reducible refine Kd.C_drew ?_))); (case side2 => rw [show t263.length = t236.length from (Kd.Rc_reads' HO_10.out).1.symm]; exact (Kd.Rc_reads' HO_10.out).2.1); rintro e w' ⟨rfl, ⟨nd, rfl⟩⟩; refine ⟨_, rfl, ?_⟩))
                          go_ret
                          exact ⟨by first | rfl | (simp [errW_none, errW_some] <;> rfl) | (simp [*, errW_none, errW_some] <;> rfl), by repeat (first | (with_reducible first | exact HB.out | apply below_alloc | apply pw_below_drewN | apply below_drew1 | refine below_set ?_ GE203.out | refine below_set ?_ GE232.out) | exact HB.out)⟩
              · replace c52 := Bool.eq_false_iff.mpr c52
                subst c52
                have H1 : (some false) = some r := by rw [if_neg (show ¬ (false = true) by decide)] at H; exact H
                clear H
                have H := H1
                clear H1
                obtain rfl := Option.some.inj H
                try go_wp2
                have n0_ := Aside0.mk (Kd.Rc_drew HO_6.out)
                have n1_ := Aside0.mk (Kd.Rc_drew HO_9.out)
                have n2_ := Aside0.mk (Kd.Rc_drew HO_10.out)
                have n3_ := Aside0.mk (Kd.Rc_drew HO_233002.out)
                have n4_ := Aside0.mk (Kd.Rc_drew HO_233005.out)
                have n5_ := Aside0.mk (blk_drew BK203.out)
                have n6_ := Aside0.mk (blk_drew BK232.out)
                have n7_ := Aside0.mk (below_drew1 HB.out)
                clear HO_6
                clear HO_9
                clear HO_10
                clear HO_233002
                clear HO_233005
                clear BK203
                clear BK232
                clear HB
                have HO_6 := n0_
                have HO_9 := n1_
                have HO_10 := n2_
                have HO_233002 := n3_
                have HO_233005 := n4_
                have BK203 := n5_
                have BK232 := n6_
                have HB := n7_
                clear n0_ n1_ n2_ n3_ n4_ n5_ n6_ n7_
                refine start_ (n := 5) (S := fun w' => w'.cell? ⟨gb232, 0, none⟩ = some (.int .u8 t222) ∧ w'.cell? ⟨gb232, 1, none⟩ = some (.int .u8 t223) ∧ w'.cell? ⟨gb232, 2, none⟩ = some (.slice Ao32 t224.length co32) ∧ w'.cell? ⟨gb232, 3, none⟩ = some (.int .u8 t227) ∧ w'.cell? ⟨gb232, 4, none⟩ = some (.int .u8 t228) ∧ w'.cell? ⟨gb232, 5, none⟩ = some (.slice Ao33 t229.length co33) ∧ w'.cell? ⟨gb203, 0, none⟩ = some (.int .u8 a0_0) ∧ w'.cell? ⟨gb203, 1, none⟩ = some (.int .u8 a0_1) ∧ w'.cell? ⟨gb203, 2, none⟩ = some (.slice A0_2 l0_2.length c0_2) ∧ w'.cell? ⟨gb203, 3, none⟩ = some (.int .u8 a0_3) ∧ w'.cell? ⟨gb203, 4, none⟩ = some (.int .u8 a0_4) ∧ w'.cell? ⟨gb203, 5, none⟩ = some (.slice A0_5 l0_5.length c0_5)) (ds := []) #[false, false, false, false, false] (by kernel_rfl) rfl rfl ⟨(blk_cell BK232.out 0).trans rfl, (blk_cell BK232.out 1).trans rfl, (blk_cell BK232.out 2).trans rfl, (blk_cell BK232.out 3).trans rfl, (blk_cell BK232.out 4).trans rfl, (blk_cell BK232.out 5).trans rfl, (blk_cell BK203.out 0).trans rfl, (blk_cell BK203.out 1).trans rfl, (blk_cell BK203.out 2).trans rfl, (blk_cell BK203.out 3).trans rfl, (blk_cell BK203.out 4).trans rfl, (blk_cell BK203.out 5).trans rfl⟩ (fun hHeld => ?_)
                generalize wc.drew = w111 at HO_6 HO_9 HO_10 HO_233002 HO_233005 BK203 BK232 HB hHeld ⊢
                refine take_ (i := 0) (N := some 52) (v := ?_) (a' := ?_) #[true, false, false, false, false] rfl rfl (by kernel_rfl) (fun _ _ _ h => h) (Or.inl ⟨by rfl, ?_⟩) hHeld ?_ ?_
                rotate_left
                · rintro w' ⟨s0, s1, s2, s3, s4, s5, s6, s7, s8, s9, s10, s11⟩
                  go_simp
                  with_reducible rfl
                rotate_left
                · simp only [Act.put, List.setIfInBounds_toArray, List.set_cons_zero, List.set_cons_succ, i64_w, i32_w]
                  rfl
                refine take_ (i := 1) (N := some 53) (v := ?_) (a' := ?_) #[true, true, false, false, false] rfl rfl (by kernel_rfl) (fun _ _ _ h => h) (Or.inl ⟨by rfl, ?_⟩) hHeld ?_ ?_
                rotate_left
                · rintro w' ⟨s0, s1, s2, s3, s4, s5, s6, s7, s8, s9, s10, s11⟩
                  go_simp
                  with_reducible rfl
                rotate_left
                · simp only [Act.put, List.setIfInBounds_toArray, List.set_cons_zero, List.set_cons_succ, i64_w, i32_w]
                  rfl
                refine one_ (i := 2) (N := some 54) #[true, true, true, false, false] rfl rfl (by kernel_rfl) (by decide) (fun K hK => ?_)
                refine goes_ Try.func40 (by kernel_rfl) rfl #[.agg #[.int .u8 a0_0, .int .u8 a0_1, .slice A0_2 l0_2.length c0_2, .int .u8 a0_3, .int .u8 a0_4, .slice A0_5 l0_5.length c0_5]] (by rfl) rfl rfl (by (try simp only [List.map_toArray, List.map_cons, List.map_nil]); first | done | rfl | (simp only [List.length_drop, List.length_take]; rfl)) ?_
                with_reducible refine (laws_toHoldRom.callsC kj15 a0_0 a0_1 _ _ l0_2 a0_3 a0_4 _ _ l0_5 t241 t242 t243 t246 t247 t248 _ ?side1 ?side2 ?side3 ?side4 A47.out).mono ?_
                (case side1 => repeat (first | exact (Kd.C_below HR0_2.out HB.out) | (with_reducible refine Kd.C_alloc ?_ _) | (with_reducible refine Kd.C_drewN ?_ _) | (with_reducible refine Kd.C_drew ?_)))
                (case side2 => exact HC0_2.out)
                (case side3 => repeat (first | exact (Kd.C_below HR0_5.out HB.out) | (with_reducible refine Kd.C_alloc ?_ _) | (with_reducible refine Kd.C_drewN ?_ _) | (with_reducible refine Kd.C_drew ?_)))
                (case side4 => exact HC0_5.out)
                rintro e w112 ⟨v244, v249, rfl, ho0, ho1, hb⟩
                refine ⟨_, rfl, ?_⟩
                have n0_ := Aside0.mk (Kd.Rc_below (by (with_reducible repeat (first | apply Kd.Rc_alloc | apply Kd.Rc_drewN | apply Kd.Rc_drew)); exact HO_6.out) hb)
                have n1_ := Aside0.mk (Kd.Rc_mono (Kd.Rc_told (Kd.Rc_told (Kd.Rc_old (by (with_reducible repeat (first | apply Kd.Rc_alloc | apply Kd.Rc_drewN | apply Kd.Rc_drew)); exact HO_9.out) hb) (Kd.Rc_base ho0)) (Kd.Rc_base ho1)) (fun _ h_ => h_.1))
                have n2_ := Aside0.mk (Kd.Rc_below (by (with_reducible repeat (first | apply Kd.Rc_alloc | apply Kd.Rc_drewN | apply Kd.Rc_drew)); exact HO_10.out) hb)
                have n3_ := Aside0.mk (Kd.Rc_mono (Kd.Rc_told (Kd.Rc_told (Kd.Rc_old (by (with_reducible repeat (first | apply Kd.Rc_alloc | apply Kd.Rc_drewN | apply Kd.Rc_drew)); exact HO_233002.out) hb) (Kd.Rc_base ho0)) (Kd.Rc_base ho1)) (fun _ h_ => h_.1))
                have n4_ := Aside0.mk (Kd.Rc_mono (Kd.Rc_told (Kd.Rc_told (Kd.Rc_old (by (with_reducible repeat (first | apply Kd.Rc_alloc | apply Kd.Rc_drewN | apply Kd.Rc_drew)); exact HO_233005.out) hb) (Kd.Rc_base ho0)) (Kd.Rc_base ho1)) (fun _ h_ => h_.1))
                have n5_ := Aside0.mk (Kd.Rc_lower (Kd.Rc_new' (Kd.Rc_new' (Kd.Rc_new' ho0 (Kd.Rc_lt (by (with_reducible repeat (first | apply Kd.Rc_alloc | apply Kd.Rc_drewN | apply Kd.Rc_drew)); exact HO_9.out))) (Kd.Rc_lt (by (with_reducible repeat (first | apply Kd.Rc_alloc | apply Kd.Rc_drewN | apply Kd.Rc_drew)); exact HO_233002.out))) (Kd.Rc_lt (by (with_reducible repeat (first | apply Kd.Rc_alloc | apply Kd.Rc_drewN | apply Kd.Rc_drew)); exact HO_233005.out))) (below_size (by repeat (first | (with_reducible first | exact HB.out | apply below_alloc | apply pw_below_drewN | apply below_drew1 | refine below_set ?_ GE203.out | refine below_set ?_ GE232.out) | exact HB.out))))
                have n6_ := Aside0.mk (Kd.Rc_lower (Kd.Rc_new' (Kd.Rc_new' (Kd.Rc_new' ho1 (Kd.Rc_lt (by (with_reducible repeat (first | apply Kd.Rc_alloc | apply Kd.Rc_drewN | apply Kd.Rc_drew)); exact HO_9.out))) (Kd.Rc_lt (by (with_reducible repeat (first | apply Kd.Rc_alloc | apply Kd.Rc_drewN | apply Kd.Rc_drew)); exact HO_233002.out))) (Kd.Rc_lt (by (with_reducible repeat (first | apply Kd.Rc_alloc | apply Kd.Rc_drewN | apply Kd.Rc_drew)); exact HO_233005.out))) (below_size (by repeat (first | (with_reducible first | exact HB.out | apply below_alloc | apply pw_below_drewN | apply below_drew1 | refine below_set ?_ GE203.out | refine below_set ?_ GE232.out) | exact HB.out))))
                have n7_ := Aside0.mk (blk_below (g := gb203) (o := .cells #[.int .u8 a0_0, .int .u8 a0_1, .slice A0_2 l0_2.length c0_2, .int .u8 a0_3, .int .u8 a0_4, .slice A0_5 l0_5.length c0_5] 47 (0, 0)) (by (with_reducible repeat (first | refine blk_drewN ?_ _ | refine blk_drew ?_ | refine blk_alloc ?_ _)); exact BK203.out) hb)
                have n8_ := Aside0.mk (blk_below (g := gb232) (o := .cells #[.int .u8 t222, .int .u8 t223, .slice Ao32 t224.length co32, .int .u8 t227, .int .u8 t228, .slice Ao33 t229.length co33] 52 (0, 0)) (by (with_reducible repeat (first | refine blk_drewN ?_ _ | refine blk_drew ?_ | refine blk_alloc ?_ _)); exact BK232.out) hb)
                have n9_ := Aside0.mk (below_step (by repeat (first | (with_reducible first | exact HB.out | apply below_alloc | apply pw_below_drewN | apply below_drew1 | refine below_set ?_ GE203.out | refine below_set ?_ GE232.out) | exact HB.out)) hb)
                clear HO_6
                clear HO_9
                clear HO_10
                clear HO_233002
                clear HO_233005
                clear BK203
                clear BK232
                clear HB
                have HO_6 := n0_
                have HO_9 := n1_
                have HO_10 := n2_
                have HO_233002 := n3_
                have HO_233005 := n4_
                have HO245 := n5_
                have HO250 := n6_
                have BK203 := n7_
                have BK232 := n8_
                have HB := n9_
                clear n0_ n1_ n2_ n3_ n4_ n5_ n6_ n7_ n8_ n9_
                (try clear hb)
                (try clear hb2)
                (try clear hk)
                (try clear hi)
                (try clear ho0)
                (try clear ho1)
                obtain ⟨Ao113, co113, eo113⟩ := Kd.Rc_slice HO245.out
                (first | subst eo113 | (injection eo113 with f1_ f2_ f3_; have f4_ := f1_.symm; have f5_ := f3_.symm; clear f1_ f2_ f3_; subst f4_; subst f5_))
                obtain ⟨Ao114, co114, eo114⟩ := Kd.Rc_slice HO250.out
                (first | subst eo114 | (injection eo114 with f1_ f2_ f3_; have f4_ := f1_.symm; have f5_ := f3_.symm; clear f1_ f2_ f3_; subst f4_; subst f5_))
                refine hK.out _ _ ⟨(blk_cell BK232.out 0).trans rfl, (blk_cell BK232.out 1).trans rfl, (blk_cell BK232.out 2).trans rfl, (blk_cell BK232.out 3).trans rfl, (blk_cell BK232.out 4).trans rfl, (blk_cell BK232.out 5).trans rfl, (blk_cell BK203.out 0).trans rfl, (blk_cell BK203.out 1).trans rfl, (blk_cell BK203.out 2).trans rfl, (blk_cell BK203.out 3).trans rfl, (blk_cell BK203.out 4).trans rfl, (blk_cell BK203.out 5).trans rfl⟩ (fun hHeld => ?_)
                clear hK K
                refine norm_ (a' := ?_) ?_ ?_
                rotate_left
                · show Act.put _ (some 54) _ = _
                  simp only [Act.put, List.setIfInBounds_toArray, List.set_cons_zero, List.set_cons_succ, i64_w, i32_w]
                  rfl
                refine one_ (i := 3) (N := some 55) #[true, true, true, true, false] rfl rfl (by kernel_rfl) (by decide) (fun K hK => ?_)
                refine goes_ Try.func42 (by kernel_rfl) rfl #[.agg #[.int .u8 t222, .int .u8 t223, .slice Ao32 t224.length co32, .int .u8 t227, .int .u8 t228, .slice Ao33 t229.length co33], .agg #[.int .u8 t241, .int .u8 t242, .slice Ao113 t243.length co113, .int .u8 t246, .int .u8 t247, .slice Ao114 t248.length co114]] (by rfl) rfl rfl (by (try simp only [List.map_toArray, List.map_cons, List.map_nil]); first | done | rfl | (simp only [List.length_drop, List.length_take]; rfl)) ?_
                with_reducible refine (laws_eqHoldRom.calls kj15 t222 t223 _ _ t224 t227 t228 _ _ t229 t241 t242 _ _ t243 t246 t247 _ _ t248 true _ ?side1 ?side2 ?side3 ?side4 ?side5 ?side6 ?side7 ?side8 A48.out).mono ?_
                (case side1 => repeat (first | exact (Kd.Rc_reads' HO_233002.out).2.2 | (with_reducible refine Kd.C_alloc ?_ _) | (with_reducible refine Kd.C_drewN ?_ _) | (with_reducible refine Kd.C_drew ?_)))
                (case side2 => exact (Kd.Rc_reads' HO_233002.out).2.1)
                (case side3 => repeat (first | exact (Kd.Rc_reads' HO_233005.out).2.2 | (with_reducible refine Kd.C_alloc ?_ _) | (with_reducible refine Kd.C_drewN ?_ _) | (with_reducible refine Kd.C_drew ?_)))
                (case side4 => exact (Kd.Rc_reads' HO_233005.out).2.1)
                (case side5 => repeat (first | exact (Kd.Rc_reads' HO245.out).2.2 | (with_reducible refine Kd.C_alloc ?_ _) | (with_reducible refine Kd.C_drewN ?_ _) | (with_reducible refine Kd.C_drew ?_)))
                (case side6 => exact (Kd.Rc_reads' HO245.out).2.1)
                (case side7 => repeat (first | exact (Kd.Rc_reads' HO250.out).2.2 | (with_reducible refine Kd.C_alloc ?_ _) | (with_reducible refine Kd.C_drewN ?_ _) | (with_reducible refine Kd.C_drew ?_)))
                (case side8 => exact (Kd.Rc_reads' HO250.out).2.1)
                rintro e w115 ⟨rfl, hb⟩
                refine ⟨_, rfl, ?_⟩
                have n0_ := Aside0.mk (Kd.Rc_below (by (with_reducible repeat (first | apply Kd.Rc_alloc | apply Kd.Rc_drewN | apply Kd.Rc_drew)); exact HO_6.out) hb)
                have n1_ := Aside0.mk (Kd.Rc_below (by (with_reducible repeat (first | apply Kd.Rc_alloc | apply Kd.Rc_drewN | apply Kd.Rc_drew)); exact HO_9.out) hb)
                have n2_ := Aside0.mk (Kd.Rc_below (by (with_reducible repeat (first | apply Kd.Rc_alloc | apply Kd.Rc_drewN | apply Kd.Rc_drew)); exact HO_10.out) hb)
                have n3_ := Aside0.mk (Kd.Rc_below (by (with_reducible repeat (first | apply Kd.Rc_alloc | apply Kd.Rc_drewN | apply Kd.Rc_drew)); exact HO_233002.out) hb)
                have n4_ := Aside0.mk (Kd.Rc_below (by (with_reducible repeat (first | apply Kd.Rc_alloc | apply Kd.Rc_drewN | apply Kd.Rc_drew)); exact HO_233005.out) hb)
                have n5_ := Aside0.mk (Kd.Rc_below (by (with_reducible repeat (first | apply Kd.Rc_alloc | apply Kd.Rc_drewN | apply Kd.Rc_drew)); exact HO245.out) hb)
                have n6_ := Aside0.mk (Kd.Rc_below (by (with_reducible repeat (first | apply Kd.Rc_alloc | apply Kd.Rc_drewN | apply Kd.Rc_drew)); exact HO250.out) hb)
                have n7_ := Aside0.mk (blk_below (g := gb203) (o := .cells #[.int .u8 a0_0, .int .u8 a0_1, .slice A0_2 l0_2.length c0_2, .int .u8 a0_3, .int .u8 a0_4, .slice A0_5 l0_5.length c0_5] 47 (0, 0)) (by (with_reducible repeat (first | refine blk_drewN ?_ _ | refine blk_drew ?_ | refine blk_alloc ?_ _)); exact BK203.out) hb)
                have n8_ := Aside0.mk (blk_below (g := gb232) (o := .cells #[.int .u8 t222, .int .u8 t223, .slice Ao32 t224.length co32, .int .u8 t227, .int .u8 t228, .slice Ao33 t229.length co33] 52 (0, 0)) (by (with_reducible repeat (first | refine blk_drewN ?_ _ | refine blk_drew ?_ | refine blk_alloc ?_ _)); exact BK232.out) hb)
                have n9_ := Aside0.mk (below_step (by repeat (first | (with_reducible first | exact HB.out | apply below_alloc | apply pw_below_drewN | apply below_drew1 | refine below_set ?_ GE203.out | refine below_set ?_ GE232.out) | exact HB.out)) hb)
                clear HO_6
                clear HO_9
                clear HO_10
                clear HO_233002
                clear HO_233005
                clear HO245
                clear HO250
                clear BK203
                clear BK232
                clear HB
                have HO_6 := n0_
                have HO_9 := n1_
                have HO_10 := n2_
                have HO_233002 := n3_
                have HO_233005 := n4_
                have HO245 := n5_
                have HO250 := n6_
                have BK203 := n7_
                have BK232 := n8_
                have HB := n9_
                clear n0_ n1_ n2_ n3_ n4_ n5_ n6_ n7_ n8_ n9_
                (try clear hb)
                (try clear hb2)
                (try clear hk)
                (try clear hi)
                refine hK.out _ _ ⟨(blk_cell BK232.out 0).trans rfl, (blk_cell BK232.out 1).trans rfl, (blk_cell BK232.out 2).trans rfl, (blk_cell BK232.out 3).trans rfl, (blk_cell BK232.out 4).trans rfl, (blk_cell BK232.out 5).trans rfl, (blk_cell BK203.out 0).trans rfl, (blk_cell BK203.out 1).trans rfl, (blk_cell BK203.out 2).trans rfl, (blk_cell BK203.out 3).trans rfl, (blk_cell BK203.out 4).trans rfl, (blk_cell BK203.out 5).trans rfl⟩ (fun hHeld => ?_)
                clear hK K
                refine norm_ (a' := ?_) ?_ ?_
                rotate_left
                · show Act.put _ (some 55) _ = _
                  simp only [Act.put, List.setIfInBounds_toArray, List.set_cons_zero, List.set_cons_succ, i64_w, i32_w]
                  rfl
                refine pure_ (i := 4) (N := some 56) (v := ?_) (a' := ?_) #[true, true, true, true, true] rfl rfl (by kernel_rfl) (fun _ _ _ h => h) (Or.inl ⟨by rfl, ?_⟩) ?_ ?_
                rotate_left
                · intro w'
                  go_simp
                  with_reducible rfl
                rotate_left
                · simp only [Act.put, List.setIfInBounds_toArray, List.set_cons_zero, List.set_cons_succ, i64_w, i32_w]
                  rfl
                refine done_ (by kernel_rfl) ?_
                try go_wp2_with (first | ((with_reducible refine gate_callee (f := 18) rfl ?_); refine goesL_ (some 59) rfl rfl Try.func18 (by kernel_rfl) rfl #[.slice A1 l1.length c1] rfl (by (try simp only [List.map_toArray, List.map_cons, List.map_nil]); first | done | rfl | (simp only [List.length_drop, List.length_take]; rfl)) ?_; (with_reducible refine (laws_toByteS.callsC kj15 _ _ l1 t252 _ ?side1 ?side2 A50.out).mono ?_); (case side1 => repeat (first | exact (Kd.C_below HR1.out HB.out) | (with_reducible refine Kd.C_alloc ?_ _) | (with_reducible refine Kd.C_drewN ?_ _) | (with_reducible refine Kd.C_drew ?_))); (case side2 => exact HC1.out); rintro e w116 ⟨v253, rfl, ho0, hb⟩; refine ⟨_, rfl, ?_⟩; have n0_ := Aside0.mk (Kd.Rc_below (by (with_reducible repeat (first | apply Kd.Rc_alloc | apply Kd.Rc_drewN | apply Kd.Rc_drew)); exact HO_6.out) hb); have n1_ := Aside0.mk (Kd.Rc_elder' (by (with_reducible repeat (first | apply Kd.Rc_alloc | apply Kd.Rc_drewN | apply Kd.Rc_drew)); exact HO_9.out) (Kd.Rc_base ho0) hb); have n2_ := Aside0.mk (Kd.Rc_below (by (with_reducible repeat (first | apply Kd.Rc_alloc | apply Kd.Rc_drewN | apply Kd.Rc_drew)); exact HO_10.out) hb); have n3_ := Aside0.mk (Kd.Rc_elder' (by (with_reducible repeat (first | apply Kd.Rc_alloc | apply Kd.Rc_drewN | apply Kd.Rc_drew)); exact HO_233002.out) (Kd.Rc_base ho0) hb); have n4_ := Aside0.mk (Kd.Rc_elder' (by (with_reducible repeat (first | apply Kd.Rc_alloc | apply Kd.Rc_drewN | apply Kd.Rc_drew)); exact HO_233005.out) (Kd.Rc_base ho0) hb); have n5_ := Aside0.mk (Kd.Rc_elder' (by (with_reducible repeat (first | apply Kd.Rc_alloc | apply Kd.Rc_drewN | apply Kd.Rc_drew)); exact HO245.out) (Kd.Rc_base ho0) hb); have n6_ := Aside0.mk (Kd.Rc_elder' (by (with_reducible repeat (first | apply Kd.Rc_alloc | apply Kd.Rc_drewN | apply Kd.Rc_drew)); exact HO250.out) (Kd.Rc_base ho0) hb); have n7_ := Aside0.mk (Kd.Rc_lower (Kd.Rc_new' (Kd.Rc_new' (Kd.Rc_new' (Kd.Rc_new' (Kd.Rc_new' ho0 (Kd.Rc_lt (by (with_reducible repeat (first | apply Kd.Rc_alloc | apply Kd.Rc_drewN | apply Kd.Rc_drew)); exact HO_9.out))) (Kd.Rc_lt (by (with_reducible repeat (first | apply Kd.Rc_alloc | apply Kd.Rc_drewN | apply Kd.Rc_drew)); exact HO_233002.out))) (Kd.Rc_lt (by (with_reducible repeat (first | apply Kd.Rc_alloc | apply Kd.Rc_drewN | apply Kd.Rc_drew)); exact HO_233005.out))) (Kd.Rc_lt (by (with_reducible repeat (first | apply Kd.Rc_alloc | apply Kd.Rc_drewN | apply Kd.Rc_drew)); exact HO245.out))) (Kd.Rc_lt (by (with_reducible repeat (first | apply Kd.Rc_alloc | apply Kd.Rc_drewN | apply Kd.Rc_drew)); exact HO250.out))) (below_size (by repeat (first | (with_reducible first | exact HB.out | apply below_alloc | apply pw_below_drewN | apply below_drew1 | refine below_set ?_ GE203.out | refine below_set ?_ GE232.out) | exact HB.out)))); have n8_ := Aside0.mk (blk_below (g := gb203) (o := .cells #[.int .u8 a0_0, .int .u8 a0_1, .slice A0_2 l0_2.length c0_2, .int .u8 a0_3, .int .u8 a0_4, .slice A0_5 l0_5.length c0_5] 47 (0, 0)) (by (with_reducible repeat (first | refine blk_drewN ?_ _ | refine blk_drew ?_ | refine blk_alloc ?_ _)); exact BK203.out) hb); have n9_ := Aside0.mk (blk_below (g := gb232) (o := .cells #[.int .u8 t222, .int .u8 t223, .slice Ao32 t224.length co32, .int .u8 t227, .int .u8 t228, .slice Ao33 t229.length co33] 52 (0, 0)) (by (with_reducible repeat (first | refine blk_drewN ?_ _ | refine blk_drew ?_ | refine blk_alloc ?_ _)); exact BK232.out) hb); have n10_ := Aside0.mk (below_step (by repeat (first | (with_reducible first | exact HB.out | apply below_alloc | apply pw_below_drewN | apply below_drew1 | refine below_set ?_ GE203.out | refine below_set ?_ GE232.out) | exact HB.out)) hb); clear HO_6; clear HO_9; clear HO_10; clear HO_233002; clear HO_233005; clear HO245; clear HO250; clear BK203; clear BK232; clear HB; have HO_6 := n0_; have HO_9 := n1_; have HO_10 := n2_; have HO_233002 := n3_; have HO_233005 := n4_; have HO245 := n5_; have HO250 := n6_; have HO254 := n7_; have BK203 := n8_; have BK232 := n9_; have HB := n10_; clear n0_ n1_ n2_ n3_ n4_ n5_ n6_ n7_ n8_ n9_ n10_; (try clear hb); (try clear hb2); (try clear hk); (try clear hi); (try clear ho0); obtain ⟨Ao117, co117, eo117⟩ := Kd.Rc_slice HO254.out; subst eo117) | ((with_reducible refine gate_callee (f := 20) rfl ?_); refine goesL_ (some 60) rfl rfl Try.func20 (by kernel_rfl) rfl #[.slice Ao36 t233.length co36, .slice Ao117 t252.length co117] rfl (by (try simp only [List.map_toArray, List.map_cons, List.map_nil]); first | done | rfl | (simp only [List.length_drop, List.length_take]; rfl)) ?_; (with_reducible refine (laws_eqByteS.calls kj15 _ _ t233 _ _ t252 false _ ?side1 ?side2 ?side3 ?side4 A51.out).mono ?_); (case side1 => repeat (first | exact (Kd.Rc_reads' HO_9.out).2.2 | (with_reducible refine Kd.C_alloc ?_ _) | (with_reducible refine Kd.C_drewN ?_ _) | (with_reducible refine Kd.C_drew ?_))); (case side2 => exact (Kd.Rc_reads' HO_9.out).2.1); (case side3 => repeat (first | exact (Kd.Rc_reads' HO254.out).2.2 | (with_reducible refine Kd.C_alloc ?_ _) | (with_reducible refine Kd.C_drewN ?_ _) | (with_reducible refine Kd.C_drew ?_))); (case side4 => exact (Kd.Rc_reads' HO254.out).2.1); rintro e w' ⟨rfl, ⟨nd, rfl⟩⟩; refine ⟨_, rfl, ?_⟩))
                go_ret
                exact ⟨by first | rfl | (simp [errW_none, errW_some] <;> rfl) | (simp [*, errW_none, errW_some] <;> rfl), by repeat (first | (with_reducible first | exact HB.out | apply below_alloc | apply pw_below_drewN | apply below_drew1 | refine below_set ?_ GE203.out | refine below_set ?_ GE232.out) | exact HB.out)⟩
            · replace c49 := Bool.eq_false_iff.mpr c49
              subst c49
              have H1 : (some false) = some r := by rw [if_neg (show ¬ (false = true) by decide)] at H; exact H
              clear H
              have H := H1
              clear H1
              obtain rfl := Option.some.inj H
              try go_wp2
              have n0_ := Aside0.mk (Kd.Rc_drew HO_6.out)
              have n1_ := Aside0.mk (Kd.Rc_drew HO_9.out)
              have n2_ := Aside0.mk (Kd.Rc_drew HO_10.out)
              have n3_ := Aside0.mk (Kd.Rc_drew HO_233002.out)
              have n4_ := Aside0.mk (Kd.Rc_drew HO_233005.out)
              have n5_ := Aside0.mk (blk_drew BK203.out)
              have n6_ := Aside0.mk (blk_drew BK232.out)
              have n7_ := Aside0.mk (below_drew1 HB.out)
              clear HO_6
              clear HO_9
              clear HO_10
              clear HO_233002
              clear HO_233005
              clear BK203
              clear BK232
              clear HB
              have HO_6 := n0_
              have HO_9 := n1_
              have HO_10 := n2_
              have HO_233002 := n3_
              have HO_233005 := n4_
              have BK203 := n5_
              have BK232 := n6_
              have HB := n7_
              clear n0_ n1_ n2_ n3_ n4_ n5_ n6_ n7_
              refine start_ (n := 5) (S := fun w' => w'.cell? ⟨gb232, 0, none⟩ = some (.int .u8 t222) ∧ w'.cell? ⟨gb232, 1, none⟩ = some (.int .u8 t223) ∧ w'.cell? ⟨gb232, 2, none⟩ = some (.slice Ao32 t224.length co32) ∧ w'.cell? ⟨gb232, 3, none⟩ = some (.int .u8 t227) ∧ w'.cell? ⟨gb232, 4, none⟩ = some (.int .u8 t228) ∧ w'.cell? ⟨gb232, 5, none⟩ = some (.slice Ao33 t229.length co33) ∧ w'.cell? ⟨gb203, 0, none⟩ = some (.int .u8 a0_0) ∧ w'.cell? ⟨gb203, 1, none⟩ = some (.int .u8 a0_1) ∧ w'.cell? ⟨gb203, 2, none⟩ = some (.slice A0_2 l0_2.length c0_2) ∧ w'.cell? ⟨gb203, 3, none⟩ = some (.int .u8 a0_3) ∧ w'.cell? ⟨gb203, 4, none⟩ = some (.int .u8 a0_4) ∧ w'.cell? ⟨gb203, 5, none⟩ = some (.slice A0_5 l0_5.length c0_5)) (ds := []) #[false, false, false, false, false] (by kernel_rfl) rfl rfl ⟨(blk_cell BK232.out 0).trans rfl, (blk_cell BK232.out 1).trans rfl, (blk_cell BK232.out 2).trans rfl, (blk_cell BK232.out 3).trans rfl, (blk_cell BK232.out 4).trans rfl, (blk_cell BK232.out 5).trans rfl, (blk_cell BK203.out 0).trans rfl, (blk_cell BK203.out 1).trans rfl, (blk_cell BK203.out 2).trans rfl, (blk_cell BK203.out 3).trans rfl, (blk_cell BK203.out 4).trans rfl, (blk_cell BK203.out 5).trans rfl⟩ (fun hHeld => ?_)
              generalize wc.drew = w118 at HO_6 HO_9 HO_10 HO_233002 HO_233005 BK203 BK232 HB hHeld ⊢
              refine take_ (i := 0) (N := some 52) (v := ?_) (a' := ?_) #[true, false, false, false, false] rfl rfl (by kernel_rfl) (fun _ _ _ h => h) (Or.inl ⟨by rfl, ?_⟩) hHeld ?_ ?_
              rotate_left
              · rintro w' ⟨s0, s1, s2, s3, s4, s5, s6, s7, s8, s9, s10, s11⟩
                go_simp
                with_reducible rfl
              rotate_left
              · simp only [Act.put, List.setIfInBounds_toArray, List.set_cons_zero, List.set_cons_succ, i64_w, i32_w]
                rfl
              refine take_ (i := 1) (N := some 53) (v := ?_) (a' := ?_) #[true, true, false, false, false] rfl rfl (by kernel_rfl) (fun _ _ _ h => h) (Or.inl ⟨by rfl, ?_⟩) hHeld ?_ ?_
              rotate_left
              · rintro w' ⟨s0, s1, s2, s3, s4, s5, s6, s7, s8, s9, s10, s11⟩
                go_simp
                with_reducible rfl
              rotate_left
              · simp only [Act.put, List.setIfInBounds_toArray, List.set_cons_zero, List.set_cons_succ, i64_w, i32_w]
                rfl
              refine one_ (i := 2) (N := some 54) #[true, true, true, false, false] rfl rfl (by kernel_rfl) (by decide) (fun K hK => ?_)
              refine goes_ Try.func40 (by kernel_rfl) rfl #[.agg #[.int .u8 a0_0, .int .u8 a0_1, .slice A0_2 l0_2.length c0_2, .int .u8 a0_3, .int .u8 a0_4, .slice A0_5 l0_5.length c0_5]] (by rfl) rfl rfl (by (try simp only [List.map_toArray, List.map_cons, List.map_nil]); first | done | rfl | (simp only [List.length_drop, List.length_take]; rfl)) ?_
              with_reducible refine (laws_toHoldRom.callsC kj15 a0_0 a0_1 _ _ l0_2 a0_3 a0_4 _ _ l0_5 t241 t242 t243 t246 t247 t248 _ ?side1 ?side2 ?side3 ?side4 A47.out).mono ?_
              (case side1 => repeat (first | exact (Kd.C_below HR0_2.out HB.out) | (with_reducible refine Kd.C_alloc ?_ _) | (with_reducible refine Kd.C_drewN ?_ _) | (with_reducible refine Kd.C_drew ?_)))
              (case side2 => exact HC0_2.out)
              (case side3 => repeat (first | exact (Kd.C_below HR0_5.out HB.out) | (with_reducible refine Kd.C_alloc ?_ _) | (with_reducible refine Kd.C_drewN ?_ _) | (with_reducible refine Kd.C_drew ?_)))
              (case side4 => exact HC0_5.out)
              rintro e w119 ⟨v244, v249, rfl, ho0, ho1, hb⟩
              refine ⟨_, rfl, ?_⟩
              have n0_ := Aside0.mk (Kd.Rc_below (by (with_reducible repeat (first | apply Kd.Rc_alloc | apply Kd.Rc_drewN | apply Kd.Rc_drew)); exact HO_6.out) hb)
              have n1_ := Aside0.mk (Kd.Rc_mono (Kd.Rc_told (Kd.Rc_told (Kd.Rc_old (by (with_reducible repeat (first | apply Kd.Rc_alloc | apply Kd.Rc_drewN | apply Kd.Rc_drew)); exact HO_9.out) hb) (Kd.Rc_base ho0)) (Kd.Rc_base ho1)) (fun _ h_ => h_.1))
              have n2_ := Aside0.mk (Kd.Rc_below (by (with_reducible repeat (first | apply Kd.Rc_alloc | apply Kd.Rc_drewN | apply Kd.Rc_drew)); exact HO_10.out) hb)
              have n3_ := Aside0.mk (Kd.Rc_mono (Kd.Rc_told (Kd.Rc_told (Kd.Rc_old (by (with_reducible repeat (first | apply Kd.Rc_alloc | apply Kd.Rc_drewN | apply Kd.Rc_drew)); exact HO_233002.out) hb) (Kd.Rc_base ho0)) (Kd.Rc_base ho1)) (fun _ h_ => h_.1))
              have n4_ := Aside0.mk (Kd.Rc_mono (Kd.Rc_told (Kd.Rc_told (Kd.Rc_old (by (with_reducible repeat (first | apply Kd.Rc_alloc | apply Kd.Rc_drewN | apply Kd.Rc_drew)); exact HO_233005.out) hb) (Kd.Rc_base ho0)) (Kd.Rc_base ho1)) (fun _ h_ => h_.1))
              have n5_ := Aside0.mk (Kd.Rc_lower (Kd.Rc_new' (Kd.Rc_new' (Kd.Rc_new' ho0 (Kd.Rc_lt (by (with_reducible repeat (first | apply Kd.Rc_alloc | apply Kd.Rc_drewN | apply Kd.Rc_drew)); exact HO_9.out))) (Kd.Rc_lt (by (with_reducible repeat (first | apply Kd.Rc_alloc | apply Kd.Rc_drewN | apply Kd.Rc_drew)); exact HO_233002.out))) (Kd.Rc_lt (by (with_reducible repeat (first | apply Kd.Rc_alloc | apply Kd.Rc_drewN | apply Kd.Rc_drew)); exact HO_233005.out))) (below_size (by repeat (first | (with_reducible first | exact HB.out | apply below_alloc | apply pw_below_drewN | apply below_drew1 | refine below_set ?_ GE203.out | refine below_set ?_ GE232.out) | exact HB.out))))
              have n6_ := Aside0.mk (Kd.Rc_lower (Kd.Rc_new' (Kd.Rc_new' (Kd.Rc_new' ho1 (Kd.Rc_lt (by (with_reducible repeat (first | apply Kd.Rc_alloc | apply Kd.Rc_drewN | apply Kd.Rc_drew)); exact HO_9.out))) (Kd.Rc_lt (by (with_reducible repeat (first | apply Kd.Rc_alloc | apply Kd.Rc_drewN | apply Kd.Rc_drew)); exact HO_233002.out))) (Kd.Rc_lt (by (with_reducible repeat (first | apply Kd.Rc_alloc | apply Kd.Rc_drewN | apply Kd.Rc_drew)); exact HO_233005.out))) (below_size (by repeat (first | (with_reducible first | exact HB.out | apply below_alloc | apply pw_below_drewN | apply below_drew1 | refine below_set ?_ GE203.out | refine below_set ?_ GE232.out) | exact HB.out))))
              have n7_ := Aside0.mk (blk_below (g := gb203) (o := .cells #[.int .u8 a0_0, .int .u8 a0_1, .slice A0_2 l0_2.length c0_2, .int .u8 a0_3, .int .u8 a0_4, .slice A0_5 l0_5.length c0_5] 47 (0, 0)) (by (with_reducible repeat (first | refine blk_drewN ?_ _ | refine blk_drew ?_ | refine blk_alloc ?_ _)); exact BK203.out) hb)
              have n8_ := Aside0.mk (blk_below (g := gb232) (o := .cells #[.int .u8 t222, .int .u8 t223, .slice Ao32 t224.length co32, .int .u8 t227, .int .u8 t228, .slice Ao33 t229.length co33] 52 (0, 0)) (by (with_reducible repeat (first | refine blk_drewN ?_ _ | refine blk_drew ?_ | refine blk_alloc ?_ _)); exact BK232.out) hb)
              have n9_ := Aside0.mk (below_step (by repeat (first | (with_reducible first | exact HB.out | apply below_alloc | apply pw_below_drewN | apply below_drew1 | refine below_set ?_ GE203.out | refine below_set ?_ GE232.out) | exact HB.out)) hb)
              clear HO_6
              clear HO_9
              clear HO_10
              clear HO_233002
              clear HO_233005
              clear BK203
              clear BK232
              clear HB
              have HO_6 := n0_
              have HO_9 := n1_
              have HO_10 := n2_
              have HO_233002 := n3_
              have HO_233005 := n4_
              have HO245 := n5_
              have HO250 := n6_
              have BK203 := n7_
              have BK232 := n8_
              have HB := n9_
              clear n0_ n1_ n2_ n3_ n4_ n5_ n6_ n7_ n8_ n9_
              (try clear hb)
              (try clear hb2)
              (try clear hk)
              (try clear hi)
              (try clear ho0)
              (try clear ho1)
              obtain ⟨Ao120, co120, eo120⟩ := Kd.Rc_slice HO245.out
              (first | subst eo120 | (injection eo120 with f1_ f2_ f3_; have f4_ := f1_.symm; have f5_ := f3_.symm; clear f1_ f2_ f3_; subst f4_; subst f5_))
              obtain ⟨Ao121, co121, eo121⟩ := Kd.Rc_slice HO250.out
              (first | subst eo121 | (injection eo121 with f1_ f2_ f3_; have f4_ := f1_.symm; have f5_ := f3_.symm; clear f1_ f2_ f3_; subst f4_; subst f5_))
              refine hK.out _ _ ⟨(blk_cell BK232.out 0).trans rfl, (blk_cell BK232.out 1).trans rfl, (blk_cell BK232.out 2).trans rfl, (blk_cell BK232.out 3).trans rfl, (blk_cell BK232.out 4).trans rfl, (blk_cell BK232.out 5).trans rfl, (blk_cell BK203.out 0).trans rfl, (blk_cell BK203.out 1).trans rfl, (blk_cell BK203.out 2).trans rfl, (blk_cell BK203.out 3).trans rfl, (blk_cell BK203.out 4).trans rfl, (blk_cell BK203.out 5).trans rfl⟩ (fun hHeld => ?_)
              clear hK K
              refine norm_ (a' := ?_) ?_ ?_
              rotate_left
              · show Act.put _ (some 54) _ = _
                simp only [Act.put, List.setIfInBounds_toArray, List.set_cons_zero, List.set_cons_succ, i64_w, i32_w]
                rfl
              refine one_ (i := 3) (N := some 55) #[true, true, true, true, false] rfl rfl (by kernel_rfl) (by decide) (fun K hK => ?_)
              refine goes_ Try.func42 (by kernel_rfl) rfl #[.agg #[.int .u8 t222, .int .u8 t223, .slice Ao32 t224.length co32, .int .u8 t227, .int .u8 t228, .slice Ao33 t229.length co33], .agg #[.int .u8 t241, .int .u8 t242, .slice Ao120 t243.length co120, .int .u8 t246, .int .u8 t247, .slice Ao121 t248.length co121]] (by rfl) rfl rfl (by (try simp only [List.map_toArray, List.map_cons, List.map_nil]); first | done | rfl | (simp only [List.length_drop, List.length_take]; rfl)) ?_
              with_reducible refine (laws_eqHoldRom.calls kj15 t222 t223 _ _ t224 t227 t228 _ _ t229 t241 t242 _ _ t243 t246 t247 _ _ t248 false _ ?side1 ?side2 ?side3 ?side4 ?side5 ?side6 ?side7 ?side8 A48.out).mono ?_
              (case side1 => repeat (first | exact (Kd.Rc_reads' HO_233002.out).2.2 | (with_reducible refine Kd.C_alloc ?_ _) | (with_reducible refine Kd.C_drewN ?_ _) | (with_reducible refine Kd.C_drew ?_)))
              (case side2 => exact (Kd.Rc_reads' HO_233002.out).2.1)
              (case side3 => repeat (first | exact (Kd.Rc_reads' HO_233005.out).2.2 | (with_reducible refine Kd.C_alloc ?_ _) | (with_reducible refine Kd.C_drewN ?_ _) | (with_reducible refine Kd.C_drew ?_)))
              (case side4 => exact (Kd.Rc_reads' HO_233005.out).2.1)
              (case side5 => repeat (first | exact (Kd.Rc_reads' HO245.out).2.2 | (with_reducible refine Kd.C_alloc ?_ _) | (with_reducible refine Kd.C_drewN ?_ _) | (with_reducible refine Kd.C_drew ?_)))
              (case side6 => exact (Kd.Rc_reads' HO245.out).2.1)
              (case side7 => repeat (first | exact (Kd.Rc_reads' HO250.out).2.2 | (with_reducible refine Kd.C_alloc ?_ _) | (with_reducible refine Kd.C_drewN ?_ _) | (with_reducible refine Kd.C_drew ?_)))
              (case side8 => exact (Kd.Rc_reads' HO250.out).2.1)
              rintro e w122 ⟨rfl, hb⟩
              refine ⟨_, rfl, ?_⟩
              have n0_ := Aside0.mk (Kd.Rc_below (by (with_reducible repeat (first | apply Kd.Rc_alloc | apply Kd.Rc_drewN | apply Kd.Rc_drew)); exact HO_6.out) hb)
              have n1_ := Aside0.mk (Kd.Rc_below (by (with_reducible repeat (first | apply Kd.Rc_alloc | apply Kd.Rc_drewN | apply Kd.Rc_drew)); exact HO_9.out) hb)
              have n2_ := Aside0.mk (Kd.Rc_below (by (with_reducible repeat (first | apply Kd.Rc_alloc | apply Kd.Rc_drewN | apply Kd.Rc_drew)); exact HO_10.out) hb)
              have n3_ := Aside0.mk (Kd.Rc_below (by (with_reducible repeat (first | apply Kd.Rc_alloc | apply Kd.Rc_drewN | apply Kd.Rc_drew)); exact HO_233002.out) hb)
              have n4_ := Aside0.mk (Kd.Rc_below (by (with_reducible repeat (first | apply Kd.Rc_alloc | apply Kd.Rc_drewN | apply Kd.Rc_drew)); exact HO_233005.out) hb)
              have n5_ := Aside0.mk (Kd.Rc_below (by (with_reducible repeat (first | apply Kd.Rc_alloc | apply Kd.Rc_drewN | apply Kd.Rc_drew)); exact HO245.out) hb)
              have n6_ := Aside0.mk (Kd.Rc_below (by (with_reducible repeat (first | apply Kd.Rc_alloc | apply Kd.Rc_drewN | apply Kd.Rc_drew)); exact HO250.out) hb)
              have n7_ := Aside0.mk (blk_below (g := gb203) (o := .cells #[.int .u8 a0_0, .int .u8 a0_1, .slice A0_2 l0_2.length c0_2, .int .u8 a0_3, .int .u8 a0_4, .slice A0_5 l0_5.length c0_5] 47 (0, 0)) (by (with_reducible repeat (first | refine blk_drewN ?_ _ | refine blk_drew ?_ | refine blk_alloc ?_ _)); exact BK203.out) hb)
              have n8_ := Aside0.mk (blk_below (g := gb232) (o := .cells #[.int .u8 t222, .int .u8 t223, .slice Ao32 t224.length co32, .int .u8 t227, .int .u8 t228, .slice Ao33 t229.length co33] 52 (0, 0)) (by (with_reducible repeat (first | refine blk_drewN ?_ _ | refine blk_drew ?_ | refine blk_alloc ?_ _)); exact BK232.out) hb)
              have n9_ := Aside0.mk (below_step (by repeat (first | (with_reducible first | exact HB.out | apply below_alloc | apply pw_below_drewN | apply below_drew1 | refine below_set ?_ GE203.out | refine below_set ?_ GE232.out) | exact HB.out)) hb)
              clear HO_6
              clear HO_9
              clear HO_10
              clear HO_233002
              clear HO_233005
              clear HO245
              clear HO250
              clear BK203
              clear BK232
              clear HB
              have HO_6 := n0_
              have HO_9 := n1_
              have HO_10 := n2_
              have HO_233002 := n3_
              have HO_233005 := n4_
              have HO245 := n5_
              have HO250 := n6_
              have BK203 := n7_
              have BK232 := n8_
              have HB := n9_
              clear n0_ n1_ n2_ n3_ n4_ n5_ n6_ n7_ n8_ n9_
              (try clear hb)
              (try clear hb2)
              (try clear hk)
              (try clear hi)
              refine hK.out _ _ ⟨(blk_cell BK232.out 0).trans rfl, (blk_cell BK232.out 1).trans rfl, (blk_cell BK232.out 2).trans rfl, (blk_cell BK232.out 3).trans rfl, (blk_cell BK232.out 4).trans rfl, (blk_cell BK232.out 5).trans rfl, (blk_cell BK203.out 0).trans rfl, (blk_cell BK203.out 1).trans rfl, (blk_cell BK203.out 2).trans rfl, (blk_cell BK203.out 3).trans rfl, (blk_cell BK203.out 4).trans rfl, (blk_cell BK203.out 5).trans rfl⟩ (fun hHeld => ?_)
              clear hK K
              refine norm_ (a' := ?_) ?_ ?_
              rotate_left
              · show Act.put _ (some 55) _ = _
                simp only [Act.put, List.setIfInBounds_toArray, List.set_cons_zero, List.set_cons_succ, i64_w, i32_w]
                rfl
              refine pure_ (i := 4) (N := some 56) (v := ?_) (a' := ?_) #[true, true, true, true, true] rfl rfl (by kernel_rfl) (fun _ _ _ h => h) (Or.inl ⟨by rfl, ?_⟩) ?_ ?_
              rotate_left
              · intro w'
                go_simp
                with_reducible rfl
              rotate_left
              · simp only [Act.put, List.setIfInBounds_toArray, List.set_cons_zero, List.set_cons_succ, i64_w, i32_w]
                rfl
              refine done_ (by kernel_rfl) ?_
              try go_wp2
              go_ret
              exact ⟨by first | rfl | (simp [errW_none, errW_some] <;> rfl) | (simp [*, errW_none, errW_some] <;> rfl), by repeat (first | (with_reducible first | exact HB.out | apply below_alloc | apply pw_below_drewN | apply below_drew1 | refine below_set ?_ GE203.out | refine below_set ?_ GE232.out) | exact HB.out)⟩

end Go.Proofs.Ytoeijldmebocmaa.P
