/- Functions of this seat as Lean functions, and that the Go code comes to their answers: laid by a program (the kit's printer over all laws of the seat at once, some walks turned by the session's own fix.py). -/
import Derived.Test.YtoeijldmebocmaaCcHoldNow
import Derived.Test.YtoeijldmebocmaaFx0
import Derived.Test.YtoeijldmebocmaaFx1
import Derived.Test.YtoeijldmebocmaaFx9
import Derived.Test.YtoeijldmebocmaaFx18
import Derived.Test.YtoeijldmebocmaaFx19
import Derived.Test.YtoeijldmebocmaaFx20
import Derived.Test.YtoeijldmebocmaaFx28
namespace Go.Proofs.Ytoeijldmebocmaa.F
open Go.RowKit Go.Proofs.YtoeijldmebocmaaW.PrintWords Go.Proofs.YtoeijldmebocmaaW.PrintLast Go.Proofs.YtoeijldmebocmaaW.PrintMore
attribute [local go_sem] max2_int min2_int max_two min_two max_three min_three max_four min_four   -- for this text's walks alone
set_option linter.unusedVariables false
set_option linter.unusedSimpArgs false

/-! ### laws_FnExactHoldNow: function 12 -/
mutual
def laws_FnExactHoldNow.j0 : Nat → List Int → Bool → List Int → Bool → Bool → Int → Int → List Int → Int → Int → List Int → Int → Int → List Int → Int → Int → List Int → Option (Bool)
  | 0, _, _, _, _, _, _, _, _, _, _, _, _, _, _, _, _, _ => none
  | k + 1, x4, x5, x7, x8, x40, x576000, x576001, x576002, x576003, x576004, x576005, x602000, x602001, x602002, x602003, x602004, x602005 => if x40 = true then (some false) else ((laws_toHoldRom.f k x576000 x576001 x576002 x576003 x576004 x576005).bind fun bt607 => ((laws_eqHoldRom.f k x602000 x602001 x602002 x602003 x602004 x602005 bt607.1 bt607.2.1 bt607.2.2.1 bt607.2.2.2.1 bt607.2.2.2.2.1 bt607.2.2.2.2.2).bind fun t617 => (if t617 = true then ((laws_markHoldRom.f k x602000 x602001 x602002 x602003 x602004 x602005 1).bind fun bt618 => (if bt618.1 < 0 then (laws_FnExactHoldNow.j1 k x4 x5 x7 true x576000 x576001 x576002 x576003 x576004 x576005) else ((laws_eqByteS.f k x7 x4).bind fun t621 => (if t621 = true then (laws_FnExactHoldNow.j1 k x4 x5 x7 (x8 != x5) x576000 x576001 x576002 x576003 x576004 x576005) else (laws_FnExactHoldNow.j1 k x4 x5 x7 true x576000 x576001 x576002 x576003 x576004 x576005))))) else (some false))))
def laws_FnExactHoldNow.j1 : Nat → List Int → Bool → List Int → Bool → Int → Int → List Int → Int → Int → List Int → Option (Bool)
  | 0, _, _, _, _, _, _, _, _, _, _ => none
  | k + 1, x4, x5, x7, x61, x576000, x576001, x576002, x576003, x576004, x576005 => if x61 = true then (some false) else ((laws_markByteS.f k x7 1).bind fun bt622 => ((laws_heldByteS.f k bt622.2 1).bind fun t624 => (if t624 < 0 then (some false) else (if t624 = bt622.1 then ((laws_toHoldRom.f k x576000 x576001 x576002 x576003 x576004 x576005).bind fun bt625 => ((impl_HoldNow.f k bt625.1 bt625.2.1 bt625.2.2.1 bt625.2.2.2.1 bt625.2.2.2.2.1 bt625.2.2.2.2.2).bind fun bt635 => ((laws_eqByteS.f k bt635.1 x4).bind fun t639 => (if t639 = true then (laws_FnExactHoldNow.j2 k bt622.2 bt622.1 (bt635.2 != x5)) else (laws_FnExactHoldNow.j2 k bt622.2 bt622.1 true))))) else (some false)))))
def laws_FnExactHoldNow.j2 : Nat → List Int → Int → Bool → Option (Bool)
  | 0, _, _, _ => none
  | k + 1, x7, x10, x87 => if x87 = true then (some false) else ((laws_heldByteS.f k x7 1).bind fun t640 => (if t640 < 0 then (some false) else (if t640 = x10 then (some true) else (some false))))
end
def laws_FnExactHoldNow.f (k : Nat) (a0_0 : Int) (a0_1 : Int) (l0_2 : List Int) (a0_3 : Int) (a0_4 : Int) (l0_5 : List Int) : Option (Bool) := (laws_szHoldRom.f a0_0 a0_1 l0_2 a0_3 a0_4 l0_5 1048576).bind fun t576 => (if t576 < 0 then (some true) else ((laws_toHoldRom.f k a0_0 a0_1 l0_2 a0_3 a0_4 l0_5).bind fun bt577 => ((spec_HoldNow.f k bt577.1 bt577.2.1 bt577.2.2.1 bt577.2.2.2.1 bt577.2.2.2.2.1 bt577.2.2.2.2.2).bind fun bt587 => ((laws_toHoldRom.f k a0_0 a0_1 l0_2 a0_3 a0_4 l0_5).bind fun bt591 => ((impl_HoldNow.f k bt591.1 bt591.2.1 bt591.2.2.1 bt591.2.2.2.1 bt591.2.2.2.2.1 bt591.2.2.2.2.2).bind fun bt602 => ((laws_eqByteS.f k bt602.1 bt587.1).bind fun t606 => (if t606 = true then (laws_FnExactHoldNow.j0 k bt587.1 bt587.2 bt602.1 bt602.2 (bt602.2 != bt587.2) a0_0 a0_1 l0_2 a0_3 a0_4 l0_5 bt591.1 bt591.2.1 bt591.2.2.1 bt591.2.2.2.1 bt591.2.2.2.2.1 bt591.2.2.2.2.2) else (laws_FnExactHoldNow.j0 k bt587.1 bt587.2 bt602.1 bt602.2 true a0_0 a0_1 l0_2 a0_3 a0_4 l0_5 bt591.1 bt591.2.1 bt591.2.2.1 bt591.2.2.2.1 bt591.2.2.2.2.1 bt591.2.2.2.2.2))))))))
theorem laws_FnExactHoldNow.mono_l : ∀ k, (∀ y0 y1 y2 y3 y4 y5 y6 y7 y8 y9 y10 y11 y12 y13 y14 y15 y16, LeO (laws_FnExactHoldNow.j0 k y0 y1 y2 y3 y4 y5 y6 y7 y8 y9 y10 y11 y12 y13 y14 y15 y16) (laws_FnExactHoldNow.j0 (k + 1) y0 y1 y2 y3 y4 y5 y6 y7 y8 y9 y10 y11 y12 y13 y14 y15 y16)) ∧ (∀ y0 y1 y2 y3 y4 y5 y6 y7 y8 y9, LeO (laws_FnExactHoldNow.j1 k y0 y1 y2 y3 y4 y5 y6 y7 y8 y9) (laws_FnExactHoldNow.j1 (k + 1) y0 y1 y2 y3 y4 y5 y6 y7 y8 y9)) ∧ (∀ y0 y1 y2, LeO (laws_FnExactHoldNow.j2 k y0 y1 y2) (laws_FnExactHoldNow.j2 (k + 1) y0 y1 y2))
  | 0 => ⟨fun _ _ _ _ _ _ _ _ _ _ _ _ _ _ _ _ _ r h => by simp [laws_FnExactHoldNow.j0] at h, fun _ _ _ _ _ _ _ _ _ _ r h => by simp [laws_FnExactHoldNow.j1] at h, fun _ _ _ r h => by simp [laws_FnExactHoldNow.j2] at h⟩
  | k + 1 => by
    obtain ⟨ih0, ih1, ih2⟩ := laws_FnExactHoldNow.mono_l k
    refine ⟨?_, ?_, ?_⟩
    · intro y0 y1 y2 y3 y4 y5 y6 y7 y8 y9 y10 y11 y12 y13 y14 y15 y16
      unfold laws_FnExactHoldNow.j0
      repeat' first
      | (with_reducible exact ih0 _ _ _ _ _ _ _ _ _ _ _ _ _ _ _ _ _)
      | (with_reducible exact ih1 _ _ _ _ _ _ _ _ _ _)
      | (with_reducible exact ih2 _ _ _)
      | (with_reducible exact impl_HoldNow.mono _ _ _ _ _ _ _)
      | (with_reducible exact laws_eqByteS.mono _ _ _)
      | (with_reducible exact laws_eqHoldRom.mono _ _ _ _ _ _ _ _ _ _ _ _ _)
      | (with_reducible exact laws_heldByteS.mono _ _ _)
      | (with_reducible exact laws_markByteS.mono _ _ _)
      | (with_reducible exact laws_markHoldRom.mono _ _ _ _ _ _ _ _)
      | (with_reducible exact laws_toHoldRom.mono _ _ _ _ _ _ _)
      | (with_reducible exact spec_HoldNow.mono _ _ _ _ _ _ _)
      | (with_reducible exact LeO.refl _)
      | (with_reducible exact LeO.none _)
      | (with_reducible refine LeO.ite ?_ ?_)
      | (with_reducible refine LeO.bind ?_ (fun _ => ?_))
      | exact ih0 _ _ _ _ _ _ _ _ _ _ _ _ _ _ _ _ _
      | exact ih1 _ _ _ _ _ _ _ _ _ _
      | exact ih2 _ _ _
      | exact impl_HoldNow.mono _ _ _ _ _ _ _
      | exact laws_eqByteS.mono _ _ _
      | exact laws_eqHoldRom.mono _ _ _ _ _ _ _ _ _ _ _ _ _
      | exact laws_heldByteS.mono _ _ _
      | exact laws_markByteS.mono _ _ _
      | exact laws_markHoldRom.mono _ _ _ _ _ _ _ _
      | exact laws_toHoldRom.mono _ _ _ _ _ _ _
      | exact spec_HoldNow.mono _ _ _ _ _ _ _
      | exact LeO.none _
      | refine LeO.ite ?_ ?_
      | refine LeO.bind ?_ (fun _ => ?_)
    · intro y0 y1 y2 y3 y4 y5 y6 y7 y8 y9
      unfold laws_FnExactHoldNow.j1
      repeat' first
      | (with_reducible exact ih0 _ _ _ _ _ _ _ _ _ _ _ _ _ _ _ _ _)
      | (with_reducible exact ih1 _ _ _ _ _ _ _ _ _ _)
      | (with_reducible exact ih2 _ _ _)
      | (with_reducible exact impl_HoldNow.mono _ _ _ _ _ _ _)
      | (with_reducible exact laws_eqByteS.mono _ _ _)
      | (with_reducible exact laws_eqHoldRom.mono _ _ _ _ _ _ _ _ _ _ _ _ _)
      | (with_reducible exact laws_heldByteS.mono _ _ _)
      | (with_reducible exact laws_markByteS.mono _ _ _)
      | (with_reducible exact laws_markHoldRom.mono _ _ _ _ _ _ _ _)
      | (with_reducible exact laws_toHoldRom.mono _ _ _ _ _ _ _)
      | (with_reducible exact spec_HoldNow.mono _ _ _ _ _ _ _)
      | (with_reducible exact LeO.refl _)
      | (with_reducible exact LeO.none _)
      | (with_reducible refine LeO.ite ?_ ?_)
      | (with_reducible refine LeO.bind ?_ (fun _ => ?_))
      | exact ih0 _ _ _ _ _ _ _ _ _ _ _ _ _ _ _ _ _
      | exact ih1 _ _ _ _ _ _ _ _ _ _
      | exact ih2 _ _ _
      | exact impl_HoldNow.mono _ _ _ _ _ _ _
      | exact laws_eqByteS.mono _ _ _
      | exact laws_eqHoldRom.mono _ _ _ _ _ _ _ _ _ _ _ _ _
      | exact laws_heldByteS.mono _ _ _
      | exact laws_markByteS.mono _ _ _
      | exact laws_markHoldRom.mono _ _ _ _ _ _ _ _
      | exact laws_toHoldRom.mono _ _ _ _ _ _ _
      | exact spec_HoldNow.mono _ _ _ _ _ _ _
      | exact LeO.none _
      | refine LeO.ite ?_ ?_
      | refine LeO.bind ?_ (fun _ => ?_)
    · intro y0 y1 y2
      unfold laws_FnExactHoldNow.j2
      repeat' first
      | (with_reducible exact ih0 _ _ _ _ _ _ _ _ _ _ _ _ _ _ _ _ _)
      | (with_reducible exact ih1 _ _ _ _ _ _ _ _ _ _)
      | (with_reducible exact ih2 _ _ _)
      | (with_reducible exact impl_HoldNow.mono _ _ _ _ _ _ _)
      | (with_reducible exact laws_eqByteS.mono _ _ _)
      | (with_reducible exact laws_eqHoldRom.mono _ _ _ _ _ _ _ _ _ _ _ _ _)
      | (with_reducible exact laws_heldByteS.mono _ _ _)
      | (with_reducible exact laws_markByteS.mono _ _ _)
      | (with_reducible exact laws_markHoldRom.mono _ _ _ _ _ _ _ _)
      | (with_reducible exact laws_toHoldRom.mono _ _ _ _ _ _ _)
      | (with_reducible exact spec_HoldNow.mono _ _ _ _ _ _ _)
      | (with_reducible exact LeO.refl _)
      | (with_reducible exact LeO.none _)
      | (with_reducible refine LeO.ite ?_ ?_)
      | (with_reducible refine LeO.bind ?_ (fun _ => ?_))
      | exact ih0 _ _ _ _ _ _ _ _ _ _ _ _ _ _ _ _ _
      | exact ih1 _ _ _ _ _ _ _ _ _ _
      | exact ih2 _ _ _
      | exact impl_HoldNow.mono _ _ _ _ _ _ _
      | exact laws_eqByteS.mono _ _ _
      | exact laws_eqHoldRom.mono _ _ _ _ _ _ _ _ _ _ _ _ _
      | exact laws_heldByteS.mono _ _ _
      | exact laws_markByteS.mono _ _ _
      | exact laws_markHoldRom.mono _ _ _ _ _ _ _ _
      | exact laws_toHoldRom.mono _ _ _ _ _ _ _
      | exact spec_HoldNow.mono _ _ _ _ _ _ _
      | exact LeO.none _
      | refine LeO.ite ?_ ?_
      | refine LeO.bind ?_ (fun _ => ?_)
theorem laws_FnExactHoldNow.mono : ∀ a0 a1 a2 a3 a4 a5 k, LeO (laws_FnExactHoldNow.f k a0 a1 a2 a3 a4 a5) (laws_FnExactHoldNow.f (k + 1) a0 a1 a2 a3 a4 a5) := by
  intro a0 a1 a2 a3 a4 a5 k
  obtain ⟨ih0, ih1, ih2⟩ := laws_FnExactHoldNow.mono_l k
  unfold laws_FnExactHoldNow.f
  repeat' first
      | (with_reducible exact ih0 _ _ _ _ _ _ _ _ _ _ _ _ _ _ _ _ _)
      | (with_reducible exact ih1 _ _ _ _ _ _ _ _ _ _)
      | (with_reducible exact ih2 _ _ _)
      | (with_reducible exact impl_HoldNow.mono _ _ _ _ _ _ _)
      | (with_reducible exact laws_eqByteS.mono _ _ _)
      | (with_reducible exact laws_eqHoldRom.mono _ _ _ _ _ _ _ _ _ _ _ _ _)
      | (with_reducible exact laws_heldByteS.mono _ _ _)
      | (with_reducible exact laws_markByteS.mono _ _ _)
      | (with_reducible exact laws_markHoldRom.mono _ _ _ _ _ _ _ _)
      | (with_reducible exact laws_toHoldRom.mono _ _ _ _ _ _ _)
      | (with_reducible exact spec_HoldNow.mono _ _ _ _ _ _ _)
      | (with_reducible exact LeO.refl _)
      | (with_reducible exact LeO.none _)
      | (with_reducible refine LeO.ite ?_ ?_)
      | (with_reducible refine LeO.bind ?_ (fun _ => ?_))
      | exact ih0 _ _ _ _ _ _ _ _ _ _ _ _ _ _ _ _ _
      | exact ih1 _ _ _ _ _ _ _ _ _ _
      | exact ih2 _ _ _
      | exact impl_HoldNow.mono _ _ _ _ _ _ _
      | exact laws_eqByteS.mono _ _ _
      | exact laws_eqHoldRom.mono _ _ _ _ _ _ _ _ _ _ _ _ _
      | exact laws_heldByteS.mono _ _ _
      | exact laws_markByteS.mono _ _ _
      | exact laws_markHoldRom.mono _ _ _ _ _ _ _ _
      | exact laws_toHoldRom.mono _ _ _ _ _ _ _
      | exact spec_HoldNow.mono _ _ _ _ _ _ _
      | exact LeO.none _
      | refine LeO.ite ?_ ?_
      | refine LeO.bind ?_ (fun _ => ?_)
set_option maxHeartbeats 8000000 in
set_option maxRecDepth 100000 in
theorem laws_FnExactHoldNow.calls (k : Nat) (a0_0 : Int) (a0_1 : Int) (A0_2 : Option Addr) (c0_2 : Nat) (l0_2 : List Int) (a0_3 : Int) (a0_4 : Int) (A0_5 : Option Addr) (c0_5 : Nat) (l0_5 : List Int) (r : Bool) (w : World) (hr0_2 : Kd.C (Kd.int .u8) w A0_2 l0_2.length l0_2) (hc0_2 : l0_2.length ≤ c0_2) (hr0_5 : Kd.C (Kd.int .u8) w A0_5 l0_5.length l0_5) (hc0_5 : l0_5.length ≤ c0_5) (h : laws_FnExactHoldNow.f k a0_0 a0_1 l0_2 a0_3 a0_4 l0_5 = some r) :
    Calls Try.prog 12 #[.agg #[.int .u8 a0_0, .int .u8 a0_1, .slice A0_2 l0_2.length c0_2, .int .u8 a0_3, .int .u8 a0_4, .slice A0_5 l0_5.length c0_5]] w fun e w' => e = .returned (.bool r) ∧ Below w.heap.size w w' := by
  have hu47 := Try.underlying47
  have hu52 := Try.underlying52
  have HR0_2 := Aside0.mk hr0_2
  have HC0_2 := Aside0.mk hc0_2
  clear hr0_2 hc0_2
  have HR0_5 := Aside0.mk hr0_5
  have HC0_5 := Aside0.mk hc0_5
  clear hr0_5 hc0_5
  have HB := Aside0.mk (Below.refl w.heap.size w)
  have H : ((laws_szHoldRom.f a0_0 a0_1 l0_2 a0_3 a0_4 l0_5 1048576).bind fun t576 => (if t576 < 0 then (some true) else ((laws_toHoldRom.f k a0_0 a0_1 l0_2 a0_3 a0_4 l0_5).bind fun bt577 => ((spec_HoldNow.f k bt577.1 bt577.2.1 bt577.2.2.1 bt577.2.2.2.1 bt577.2.2.2.2.1 bt577.2.2.2.2.2).bind fun bt587 => ((laws_toHoldRom.f k a0_0 a0_1 l0_2 a0_3 a0_4 l0_5).bind fun bt591 => ((impl_HoldNow.f k bt591.1 bt591.2.1 bt591.2.2.1 bt591.2.2.2.1 bt591.2.2.2.2.1 bt591.2.2.2.2.2).bind fun bt602 => ((laws_eqByteS.f k bt602.1 bt587.1).bind fun t606 => (if t606 = true then (laws_FnExactHoldNow.j0 k bt587.1 bt587.2 bt602.1 bt602.2 (bt602.2 != bt587.2) a0_0 a0_1 l0_2 a0_3 a0_4 l0_5 bt591.1 bt591.2.1 bt591.2.2.1 bt591.2.2.2.1 bt591.2.2.2.2.1 bt591.2.2.2.2.2) else (laws_FnExactHoldNow.j0 k bt587.1 bt587.2 bt602.1 bt602.2 true a0_0 a0_1 l0_2 a0_3 a0_4 l0_5 bt591.1 bt591.2.1 bt591.2.2.1 bt591.2.2.2.1 bt591.2.2.2.2.1 bt591.2.2.2.2.2))))))))) = some r := h
  clear h
  replace H := Option.bind_eq_some_iff.mp H
  obtain ⟨t576, A20, H⟩ := H
  replace H : (if t576 < 0 then (some true) else ((laws_toHoldRom.f k a0_0 a0_1 l0_2 a0_3 a0_4 l0_5).bind fun bt577 => ((spec_HoldNow.f k bt577.1 bt577.2.1 bt577.2.2.1 bt577.2.2.2.1 bt577.2.2.2.2.1 bt577.2.2.2.2.2).bind fun bt587 => ((laws_toHoldRom.f k a0_0 a0_1 l0_2 a0_3 a0_4 l0_5).bind fun bt591 => ((impl_HoldNow.f k bt591.1 bt591.2.1 bt591.2.2.1 bt591.2.2.2.1 bt591.2.2.2.2.1 bt591.2.2.2.2.2).bind fun bt602 => ((laws_eqByteS.f k bt602.1 bt587.1).bind fun t606 => (if t606 = true then (laws_FnExactHoldNow.j0 k bt587.1 bt587.2 bt602.1 bt602.2 (bt602.2 != bt587.2) a0_0 a0_1 l0_2 a0_3 a0_4 l0_5 bt591.1 bt591.2.1 bt591.2.2.1 bt591.2.2.2.1 bt591.2.2.2.2.1 bt591.2.2.2.2.2) else (laws_FnExactHoldNow.j0 k bt587.1 bt587.2 bt602.1 bt602.2 true a0_0 a0_1 l0_2 a0_3 a0_4 l0_5 bt591.1 bt591.2.1 bt591.2.2.1 bt591.2.2.2.1 bt591.2.2.2.2.1 bt591.2.2.2.2.2)))))))) = some r := H
  have A2 := Aside0.mk A20
  clear A20
  by_cases c3 : t576 < 0
  · rw [if_pos c3] at H
    have c3b0 : decide (t576 < 0) = true := decide_eq_true c3
    clear c3
    obtain rfl := Option.some.inj H
    go_enter Try.func12, Try.ntmps12
    go_wp2_with (first | ((with_reducible refine gate_dst (N := 1) rfl ?_); refine box_event ?hg (N := 1) ?hd (cs := #[.int .u8 a0_0, .int .u8 a0_1, .slice A0_2 l0_2.length c0_2, .int .u8 a0_3, .int .u8 a0_4, .slice A0_5 l0_5.length c0_5]) (t := 47) ?hr ?_; (case hd => rfl); (case hg => rfl); (case hr => first | (go_simp; done) | (go_simp; rfl)); intro gb575 hg w4 hbox hb; have n0_ := Aside0.mk (below_step (by repeat (first | (with_reducible first | exact HB.out | apply below_alloc | apply pw_below_drewN | apply below_drew1) | exact HB.out)) hb); have n1_ := Aside0.mk (hbox); have n2_ := Aside0.mk ((by rw [hg]; exact (below_size (by repeat (first | (with_reducible first | exact HB.out | apply below_alloc | apply pw_below_drewN | apply below_drew1) | exact HB.out))) : w.heap.size ≤ gb575)); have n3_ := Aside0.mk ((by rw [hg]; exact (below_size (by repeat (first | (with_reducible first | exact HB.out | apply below_alloc | apply pw_below_drewN | apply below_drew1) | exact HB.out))) : w.heap.size ≤ gb575)); clear HB; have HB := n0_; have BK575 := n1_; have GW575 := n2_; have GE575 := n3_; clear n0_ n1_ n2_ n3_; clear hb hbox hg; have hcz5_0 : w4.cell? ⟨gb575, 0, none⟩ = some (.int .u8 a0_0) := (blk_cell BK575.out 0).trans rfl; have hcz5_1 : w4.cell? ⟨gb575, 1, none⟩ = some (.int .u8 a0_1) := (blk_cell BK575.out 1).trans rfl; have hcz5_2 : w4.cell? ⟨gb575, 2, none⟩ = some (.slice A0_2 l0_2.length c0_2) := (blk_cell BK575.out 2).trans rfl; have hcz5_3 : w4.cell? ⟨gb575, 3, none⟩ = some (.int .u8 a0_3) := (blk_cell BK575.out 3).trans rfl; have hcz5_4 : w4.cell? ⟨gb575, 4, none⟩ = some (.int .u8 a0_4) := (blk_cell BK575.out 4).trans rfl; have hcz5_5 : w4.cell? ⟨gb575, 5, none⟩ = some (.slice A0_5 l0_5.length c0_5) := (blk_cell BK575.out 5).trans rfl; have hfz5_0 := blk_frozen BK575.out 0; have hfz5_1 := blk_frozen BK575.out 1; have hfz5_2 := blk_frozen BK575.out 2; have hfz5_3 := blk_frozen BK575.out 3; have hfz5_4 := blk_frozen BK575.out 4; have hfz5_5 := blk_frozen BK575.out 5) | ((with_reducible refine gate_callee (f := 38) rfl ?_); refine goesL_ (some 16) rfl rfl Try.func38 (by kernel_rfl) rfl #[.agg #[.int .u8 a0_0, .int .u8 a0_1, .slice A0_2 l0_2.length c0_2, .int .u8 a0_3, .int .u8 a0_4, .slice A0_5 l0_5.length c0_5], .int .i64 1048576] rfl (by (try simp only [List.map_toArray, List.map_cons, List.map_nil]); first | done | rfl | (simp only [List.length_drop, List.length_take]; rfl)) ?_; (with_reducible refine (laws_szHoldRom.calls a0_0 a0_1 _ _ l0_2 a0_3 a0_4 _ _ l0_5 1048576 t576 _ ?side1 ?side2 ?side3 ?side4 A2.out).mono ?_); (case side1 => repeat (first | exact (Kd.C_below HR0_2.out HB.out) | (with_reducible refine Kd.C_alloc ?_ _) | (with_reducible refine Kd.C_drewN ?_ _) | (with_reducible refine Kd.C_drew ?_))); (case side2 => exact HC0_2.out); (case side3 => repeat (first | exact (Kd.C_below HR0_5.out HB.out) | (with_reducible refine Kd.C_alloc ?_ _) | (with_reducible refine Kd.C_drewN ?_ _) | (with_reducible refine Kd.C_drew ?_))); (case side4 => exact HC0_5.out); rintro e w6 ⟨rfl, hb⟩; refine ⟨_, rfl, ?_⟩; have n0_ := Aside0.mk (blk_below (g := gb575) (o := .cells #[.int .u8 a0_0, .int .u8 a0_1, .slice A0_2 l0_2.length c0_2, .int .u8 a0_3, .int .u8 a0_4, .slice A0_5 l0_5.length c0_5] 47 (0, 0)) (by (with_reducible repeat (first | refine blk_drewN ?_ _ | refine blk_drew ?_ | refine blk_alloc ?_ _)); exact BK575.out) hb); have n1_ := Aside0.mk (below_step (by repeat (first | (with_reducible first | exact HB.out | apply below_alloc | apply pw_below_drewN | apply below_drew1 | refine below_set ?_ GE575.out) | exact HB.out)) hb); clear BK575; clear HB; have BK575 := n0_; have HB := n1_; clear n0_ n1_; (try clear hb); (try clear hb2); (try clear hk); (try clear hi)))
    go_ret
    exact ⟨by first | rfl | (simp [errW_none, errW_some] <;> rfl) | (simp [*, errW_none, errW_some] <;> rfl), by repeat (first | (with_reducible first | exact HB.out | apply below_alloc | apply pw_below_drewN | apply below_drew1 | refine below_set ?_ GE575.out) | exact HB.out)⟩
  · rw [if_neg c3] at H
    have c3b0 : decide (t576 < 0) = false := decide_eq_false c3
    clear c3
    replace H := Option.bind_eq_some_iff.mp H
    obtain ⟨⟨t577, t578, t579, t582, t583, t584⟩, A70, H⟩ := H
    replace H : ((spec_HoldNow.f k t577 t578 t579 t582 t583 t584).bind fun bt587 => ((laws_toHoldRom.f k a0_0 a0_1 l0_2 a0_3 a0_4 l0_5).bind fun bt591 => ((impl_HoldNow.f k bt591.1 bt591.2.1 bt591.2.2.1 bt591.2.2.2.1 bt591.2.2.2.2.1 bt591.2.2.2.2.2).bind fun bt602 => ((laws_eqByteS.f k bt602.1 bt587.1).bind fun t606 => (if t606 = true then (laws_FnExactHoldNow.j0 k bt587.1 bt587.2 bt602.1 bt602.2 (bt602.2 != bt587.2) a0_0 a0_1 l0_2 a0_3 a0_4 l0_5 bt591.1 bt591.2.1 bt591.2.2.1 bt591.2.2.2.1 bt591.2.2.2.2.1 bt591.2.2.2.2.2) else (laws_FnExactHoldNow.j0 k bt587.1 bt587.2 bt602.1 bt602.2 true a0_0 a0_1 l0_2 a0_3 a0_4 l0_5 bt591.1 bt591.2.1 bt591.2.2.1 bt591.2.2.2.1 bt591.2.2.2.2.1 bt591.2.2.2.2.2)))))) = some r := H
    have A7 := Aside0.mk A70
    clear A70
    replace H := Option.bind_eq_some_iff.mp H
    obtain ⟨⟨t587, t590⟩, A80, H⟩ := H
    replace H : ((laws_toHoldRom.f k a0_0 a0_1 l0_2 a0_3 a0_4 l0_5).bind fun bt591 => ((impl_HoldNow.f k bt591.1 bt591.2.1 bt591.2.2.1 bt591.2.2.2.1 bt591.2.2.2.2.1 bt591.2.2.2.2.2).bind fun bt602 => ((laws_eqByteS.f k bt602.1 t587).bind fun t606 => (if t606 = true then (laws_FnExactHoldNow.j0 k t587 t590 bt602.1 bt602.2 (bt602.2 != t590) a0_0 a0_1 l0_2 a0_3 a0_4 l0_5 bt591.1 bt591.2.1 bt591.2.2.1 bt591.2.2.2.1 bt591.2.2.2.2.1 bt591.2.2.2.2.2) else (laws_FnExactHoldNow.j0 k t587 t590 bt602.1 bt602.2 true a0_0 a0_1 l0_2 a0_3 a0_4 l0_5 bt591.1 bt591.2.1 bt591.2.2.1 bt591.2.2.2.1 bt591.2.2.2.2.1 bt591.2.2.2.2.2))))) = some r := H
    have A8 := Aside0.mk A80
    clear A80
    replace H := Option.bind_eq_some_iff.mp H
    obtain ⟨⟨t591, t592, t593, t596, t597, t598⟩, A90, H⟩ := H
    replace H : ((impl_HoldNow.f k t591 t592 t593 t596 t597 t598).bind fun bt602 => ((laws_eqByteS.f k bt602.1 t587).bind fun t606 => (if t606 = true then (laws_FnExactHoldNow.j0 k t587 t590 bt602.1 bt602.2 (bt602.2 != t590) a0_0 a0_1 l0_2 a0_3 a0_4 l0_5 t591 t592 t593 t596 t597 t598) else (laws_FnExactHoldNow.j0 k t587 t590 bt602.1 bt602.2 true a0_0 a0_1 l0_2 a0_3 a0_4 l0_5 t591 t592 t593 t596 t597 t598)))) = some r := H
    have A9 := Aside0.mk A90
    clear A90
    replace H := Option.bind_eq_some_iff.mp H
    obtain ⟨⟨t602, t605⟩, A100, H⟩ := H
    replace H : ((laws_eqByteS.f k t602 t587).bind fun t606 => (if t606 = true then (laws_FnExactHoldNow.j0 k t587 t590 t602 t605 (t605 != t590) a0_0 a0_1 l0_2 a0_3 a0_4 l0_5 t591 t592 t593 t596 t597 t598) else (laws_FnExactHoldNow.j0 k t587 t590 t602 t605 true a0_0 a0_1 l0_2 a0_3 a0_4 l0_5 t591 t592 t593 t596 t597 t598))) = some r := H
    have A10 := Aside0.mk A100
    clear A100
    have HC11 := Aside0.mk H
    clear H
    go_enter Try.func12, Try.ntmps12
    go_upto_region 8 with (first | ((with_reducible refine gate_dst (N := 1) rfl ?_); refine box_event ?hg (N := 1) ?hd (cs := #[.int .u8 a0_0, .int .u8 a0_1, .slice A0_2 l0_2.length c0_2, .int .u8 a0_3, .int .u8 a0_4, .slice A0_5 l0_5.length c0_5]) (t := 47) ?hr ?_; (case hd => rfl); (case hg => rfl); (case hr => first | (go_simp; done) | (go_simp; rfl)); intro gb575 hg w12 hbox hb; have n0_ := Aside0.mk (below_step (by repeat (first | (with_reducible first | exact HB.out | apply below_alloc | apply pw_below_drewN | apply below_drew1) | exact HB.out)) hb); have n1_ := Aside0.mk (hbox); have n2_ := Aside0.mk ((by rw [hg]; exact (below_size (by repeat (first | (with_reducible first | exact HB.out | apply below_alloc | apply pw_below_drewN | apply below_drew1) | exact HB.out))) : w.heap.size ≤ gb575)); have n3_ := Aside0.mk ((by rw [hg]; exact (below_size (by repeat (first | (with_reducible first | exact HB.out | apply below_alloc | apply pw_below_drewN | apply below_drew1) | exact HB.out))) : w.heap.size ≤ gb575)); clear HB; have HB := n0_; have BK575 := n1_; have GW575 := n2_; have GE575 := n3_; clear n0_ n1_ n2_ n3_; clear hb hbox hg; have hcz13_0 : w12.cell? ⟨gb575, 0, none⟩ = some (.int .u8 a0_0) := (blk_cell BK575.out 0).trans rfl; have hcz13_1 : w12.cell? ⟨gb575, 1, none⟩ = some (.int .u8 a0_1) := (blk_cell BK575.out 1).trans rfl; have hcz13_2 : w12.cell? ⟨gb575, 2, none⟩ = some (.slice A0_2 l0_2.length c0_2) := (blk_cell BK575.out 2).trans rfl; have hcz13_3 : w12.cell? ⟨gb575, 3, none⟩ = some (.int .u8 a0_3) := (blk_cell BK575.out 3).trans rfl; have hcz13_4 : w12.cell? ⟨gb575, 4, none⟩ = some (.int .u8 a0_4) := (blk_cell BK575.out 4).trans rfl; have hcz13_5 : w12.cell? ⟨gb575, 5, none⟩ = some (.slice A0_5 l0_5.length c0_5) := (blk_cell BK575.out 5).trans rfl; have hfz13_0 := blk_frozen BK575.out 0; have hfz13_1 := blk_frozen BK575.out 1; have hfz13_2 := blk_frozen BK575.out 2; have hfz13_3 := blk_frozen BK575.out 3; have hfz13_4 := blk_frozen BK575.out 4; have hfz13_5 := blk_frozen BK575.out 5) | ((with_reducible refine gate_callee (f := 38) rfl ?_); refine goesL_ (some 16) rfl rfl Try.func38 (by kernel_rfl) rfl #[.agg #[.int .u8 a0_0, .int .u8 a0_1, .slice A0_2 l0_2.length c0_2, .int .u8 a0_3, .int .u8 a0_4, .slice A0_5 l0_5.length c0_5], .int .i64 1048576] rfl (by (try simp only [List.map_toArray, List.map_cons, List.map_nil]); first | done | rfl | (simp only [List.length_drop, List.length_take]; rfl)) ?_; (with_reducible refine (laws_szHoldRom.calls a0_0 a0_1 _ _ l0_2 a0_3 a0_4 _ _ l0_5 1048576 t576 _ ?side1 ?side2 ?side3 ?side4 A2.out).mono ?_); (case side1 => repeat (first | exact (Kd.C_below HR0_2.out HB.out) | (with_reducible refine Kd.C_alloc ?_ _) | (with_reducible refine Kd.C_drewN ?_ _) | (with_reducible refine Kd.C_drew ?_))); (case side2 => exact HC0_2.out); (case side3 => repeat (first | exact (Kd.C_below HR0_5.out HB.out) | (with_reducible refine Kd.C_alloc ?_ _) | (with_reducible refine Kd.C_drewN ?_ _) | (with_reducible refine Kd.C_drew ?_))); (case side4 => exact HC0_5.out); rintro e w14 ⟨rfl, hb⟩; refine ⟨_, rfl, ?_⟩; have n0_ := Aside0.mk (blk_below (g := gb575) (o := .cells #[.int .u8 a0_0, .int .u8 a0_1, .slice A0_2 l0_2.length c0_2, .int .u8 a0_3, .int .u8 a0_4, .slice A0_5 l0_5.length c0_5] 47 (0, 0)) (by (with_reducible repeat (first | refine blk_drewN ?_ _ | refine blk_drew ?_ | refine blk_alloc ?_ _)); exact BK575.out) hb); have n1_ := Aside0.mk (below_step (by repeat (first | (with_reducible first | exact HB.out | apply below_alloc | apply pw_below_drewN | apply below_drew1 | refine below_set ?_ GE575.out) | exact HB.out)) hb); clear BK575; clear HB; have BK575 := n0_; have HB := n1_; clear n0_ n1_; (try clear hb); (try clear hb2); (try clear hk); (try clear hi); have hcz15_0 : w14.cell? ⟨gb575, 0, none⟩ = some (.int .u8 a0_0) := (blk_cell BK575.out 0).trans rfl; have hcz15_1 : w14.cell? ⟨gb575, 1, none⟩ = some (.int .u8 a0_1) := (blk_cell BK575.out 1).trans rfl; have hcz15_2 : w14.cell? ⟨gb575, 2, none⟩ = some (.slice A0_2 l0_2.length c0_2) := (blk_cell BK575.out 2).trans rfl; have hcz15_3 : w14.cell? ⟨gb575, 3, none⟩ = some (.int .u8 a0_3) := (blk_cell BK575.out 3).trans rfl; have hcz15_4 : w14.cell? ⟨gb575, 4, none⟩ = some (.int .u8 a0_4) := (blk_cell BK575.out 4).trans rfl; have hcz15_5 : w14.cell? ⟨gb575, 5, none⟩ = some (.slice A0_5 l0_5.length c0_5) := (blk_cell BK575.out 5).trans rfl; have hfz15_0 := blk_frozen BK575.out 0; have hfz15_1 := blk_frozen BK575.out 1; have hfz15_2 := blk_frozen BK575.out 2; have hfz15_3 := blk_frozen BK575.out 3; have hfz15_4 := blk_frozen BK575.out 4; have hfz15_5 := blk_frozen BK575.out 5) | ((with_reducible refine gate_callee (f := 40) rfl ?_); refine goesL_ (some 21) rfl rfl Try.func40 (by kernel_rfl) rfl #[.agg #[.int .u8 a0_0, .int .u8 a0_1, .slice A0_2 l0_2.length c0_2, .int .u8 a0_3, .int .u8 a0_4, .slice A0_5 l0_5.length c0_5]] rfl (by (try simp only [List.map_toArray, List.map_cons, List.map_nil]); first | done | rfl | (simp only [List.length_drop, List.length_take]; rfl)) ?_; (with_reducible refine (laws_toHoldRom.callsC k a0_0 a0_1 _ _ l0_2 a0_3 a0_4 _ _ l0_5 t577 t578 t579 t582 t583 t584 _ ?side1 ?side2 ?side3 ?side4 A7.out).mono ?_); (case side1 => repeat (first | exact (Kd.C_below HR0_2.out HB.out) | (with_reducible refine Kd.C_alloc ?_ _) | (with_reducible refine Kd.C_drewN ?_ _) | (with_reducible refine Kd.C_drew ?_))); (case side2 => exact HC0_2.out); (case side3 => repeat (first | exact (Kd.C_below HR0_5.out HB.out) | (with_reducible refine Kd.C_alloc ?_ _) | (with_reducible refine Kd.C_drewN ?_ _) | (with_reducible refine Kd.C_drew ?_))); (case side4 => exact HC0_5.out); rintro e w16 ⟨v580, v585, rfl, ho0, ho1, hb⟩; refine ⟨_, rfl, ?_⟩; have n0_ := Aside0.mk (Kd.Rc_lower ho0 (below_size (by repeat (first | (with_reducible first | exact HB.out | apply below_alloc | apply pw_below_drewN | apply below_drew1 | refine below_set ?_ GE575.out) | exact HB.out)))); have n1_ := Aside0.mk (Kd.Rc_lower ho1 (below_size (by repeat (first | (with_reducible first | exact HB.out | apply below_alloc | apply pw_below_drewN | apply below_drew1 | refine below_set ?_ GE575.out) | exact HB.out)))); have n2_ := Aside0.mk (blk_below (g := gb575) (o := .cells #[.int .u8 a0_0, .int .u8 a0_1, .slice A0_2 l0_2.length c0_2, .int .u8 a0_3, .int .u8 a0_4, .slice A0_5 l0_5.length c0_5] 47 (0, 0)) (by (with_reducible repeat (first | refine blk_drewN ?_ _ | refine blk_drew ?_ | refine blk_alloc ?_ _)); exact BK575.out) hb); have n3_ := Aside0.mk (below_step (by repeat (first | (with_reducible first | exact HB.out | apply below_alloc | apply pw_below_drewN | apply below_drew1 | refine below_set ?_ GE575.out) | exact HB.out)) hb); clear BK575; clear HB; have HO581 := n0_; have HO586 := n1_; have BK575 := n2_; have HB := n3_; clear n0_ n1_ n2_ n3_; (try clear hb); (try clear hb2); (try clear hk); (try clear hi); (try clear ho0); (try clear ho1); obtain ⟨Ao17, co17, eo17⟩ := Kd.Rc_slice HO581.out; subst eo17; obtain ⟨Ao18, co18, eo18⟩ := Kd.Rc_slice HO586.out; subst eo18) | ((with_reducible refine gate_callee (f := 47) rfl ?_); refine goesL_ (some 22) rfl rfl Try.func47 (by kernel_rfl) rfl #[.agg #[.int .u8 t577, .int .u8 t578, .slice Ao17 t579.length co17, .int .u8 t582, .int .u8 t583, .slice Ao18 t584.length co18]] rfl (by (try simp only [List.map_toArray, List.map_cons, List.map_nil]); first | done | rfl | (simp only [List.length_drop, List.length_take]; rfl)) ?_; (with_reducible refine (spec_HoldNow.callsC k t577 t578 _ _ t579 t582 t583 _ _ t584 t587 t590 _ ?side1 ?side2 ?side3 ?side4 A8.out).mono ?_); (case side1 => repeat (first | exact (Kd.Rc_reads' HO581.out).2.2 | (with_reducible refine Kd.C_alloc ?_ _) | (with_reducible refine Kd.C_drewN ?_ _) | (with_reducible refine Kd.C_drew ?_))); (case side2 => exact (Kd.Rc_reads' HO581.out).2.1); (case side3 => repeat (first | exact (Kd.Rc_reads' HO586.out).2.2 | (with_reducible refine Kd.C_alloc ?_ _) | (with_reducible refine Kd.C_drewN ?_ _) | (with_reducible refine Kd.C_drew ?_))); (case side4 => exact (Kd.Rc_reads' HO586.out).2.1); rintro e w19 ⟨v588, rfl, ho0, hb⟩; refine ⟨_, rfl, ?_⟩; have n0_ := Aside0.mk (Kd.Rc_elder' (by (with_reducible repeat (first | apply Kd.Rc_alloc | apply Kd.Rc_drewN | apply Kd.Rc_drew)); exact HO581.out) (Kd.Rc_base ho0) hb); have n1_ := Aside0.mk (Kd.Rc_elder' (by (with_reducible repeat (first | apply Kd.Rc_alloc | apply Kd.Rc_drewN | apply Kd.Rc_drew)); exact HO586.out) (Kd.Rc_base ho0) hb); have n2_ := Aside0.mk (Kd.Rc_lower (Kd.Rc_new' (Kd.Rc_new' ho0 (Kd.Rc_lt (by (with_reducible repeat (first | apply Kd.Rc_alloc | apply Kd.Rc_drewN | apply Kd.Rc_drew)); exact HO581.out))) (Kd.Rc_lt (by (with_reducible repeat (first | apply Kd.Rc_alloc | apply Kd.Rc_drewN | apply Kd.Rc_drew)); exact HO586.out))) (below_size (by repeat (first | (with_reducible first | exact HB.out | apply below_alloc | apply pw_below_drewN | apply below_drew1 | refine below_set ?_ GE575.out) | exact HB.out)))); have n3_ := Aside0.mk (blk_below (g := gb575) (o := .cells #[.int .u8 a0_0, .int .u8 a0_1, .slice A0_2 l0_2.length c0_2, .int .u8 a0_3, .int .u8 a0_4, .slice A0_5 l0_5.length c0_5] 47 (0, 0)) (by (with_reducible repeat (first | refine blk_drewN ?_ _ | refine blk_drew ?_ | refine blk_alloc ?_ _)); exact BK575.out) hb); have n4_ := Aside0.mk (below_step (by repeat (first | (with_reducible first | exact HB.out | apply below_alloc | apply pw_below_drewN | apply below_drew1 | refine below_set ?_ GE575.out) | exact HB.out)) hb); clear HO581; clear HO586; clear BK575; clear HB; have HO581 := n0_; have HO586 := n1_; have HO589 := n2_; have BK575 := n3_; have HB := n4_; clear n0_ n1_ n2_ n3_ n4_; (try clear hb); (try clear hb2); (try clear hk); (try clear hi); (try clear ho0); have hcz20_0 : w19.cell? ⟨gb575, 0, none⟩ = some (.int .u8 a0_0) := (blk_cell BK575.out 0).trans rfl; have hcz20_1 : w19.cell? ⟨gb575, 1, none⟩ = some (.int .u8 a0_1) := (blk_cell BK575.out 1).trans rfl; have hcz20_2 : w19.cell? ⟨gb575, 2, none⟩ = some (.slice A0_2 l0_2.length c0_2) := (blk_cell BK575.out 2).trans rfl; have hcz20_3 : w19.cell? ⟨gb575, 3, none⟩ = some (.int .u8 a0_3) := (blk_cell BK575.out 3).trans rfl; have hcz20_4 : w19.cell? ⟨gb575, 4, none⟩ = some (.int .u8 a0_4) := (blk_cell BK575.out 4).trans rfl; have hcz20_5 : w19.cell? ⟨gb575, 5, none⟩ = some (.slice A0_5 l0_5.length c0_5) := (blk_cell BK575.out 5).trans rfl; have hfz20_0 := blk_frozen BK575.out 0; have hfz20_1 := blk_frozen BK575.out 1; have hfz20_2 := blk_frozen BK575.out 2; have hfz20_3 := blk_frozen BK575.out 3; have hfz20_4 := blk_frozen BK575.out 4; have hfz20_5 := blk_frozen BK575.out 5) | ((with_reducible refine gate_callee (f := 40) rfl ?_); refine goesL_ (some 26) rfl rfl Try.func40 (by kernel_rfl) rfl #[.agg #[.int .u8 a0_0, .int .u8 a0_1, .slice A0_2 l0_2.length c0_2, .int .u8 a0_3, .int .u8 a0_4, .slice A0_5 l0_5.length c0_5]] rfl (by (try simp only [List.map_toArray, List.map_cons, List.map_nil]); first | done | rfl | (simp only [List.length_drop, List.length_take]; rfl)) ?_; (with_reducible refine (laws_toHoldRom.callsC k a0_0 a0_1 _ _ l0_2 a0_3 a0_4 _ _ l0_5 t591 t592 t593 t596 t597 t598 _ ?side1 ?side2 ?side3 ?side4 A9.out).mono ?_); (case side1 => repeat (first | exact (Kd.C_below HR0_2.out HB.out) | (with_reducible refine Kd.C_alloc ?_ _) | (with_reducible refine Kd.C_drewN ?_ _) | (with_reducible refine Kd.C_drew ?_))); (case side2 => exact HC0_2.out); (case side3 => repeat (first | exact (Kd.C_below HR0_5.out HB.out) | (with_reducible refine Kd.C_alloc ?_ _) | (with_reducible refine Kd.C_drewN ?_ _) | (with_reducible refine Kd.C_drew ?_))); (case side4 => exact HC0_5.out); rintro e w21 ⟨v594, v599, rfl, ho0, ho1, hb⟩; refine ⟨_, rfl, ?_⟩; have n0_ := Aside0.mk (Kd.Rc_mono (Kd.Rc_told (Kd.Rc_told (Kd.Rc_old (by (with_reducible repeat (first | apply Kd.Rc_alloc | apply Kd.Rc_drewN | apply Kd.Rc_drew)); exact HO581.out) hb) (Kd.Rc_base ho0)) (Kd.Rc_base ho1)) (fun _ h_ => h_.1)); have n1_ := Aside0.mk (Kd.Rc_mono (Kd.Rc_told (Kd.Rc_told (Kd.Rc_old (by (with_reducible repeat (first | apply Kd.Rc_alloc | apply Kd.Rc_drewN | apply Kd.Rc_drew)); exact HO586.out) hb) (Kd.Rc_base ho0)) (Kd.Rc_base ho1)) (fun _ h_ => h_.1)); have n2_ := Aside0.mk (Kd.Rc_mono (Kd.Rc_told (Kd.Rc_told (Kd.Rc_old (by (with_reducible repeat (first | apply Kd.Rc_alloc | apply Kd.Rc_drewN | apply Kd.Rc_drew)); exact HO589.out) hb) (Kd.Rc_base ho0)) (Kd.Rc_base ho1)) (fun _ h_ => h_.1)); have n3_ := Aside0.mk (Kd.Rc_lower (Kd.Rc_new' (Kd.Rc_new' (Kd.Rc_new' ho0 (Kd.Rc_lt (by (with_reducible repeat (first | apply Kd.Rc_alloc | apply Kd.Rc_drewN | apply Kd.Rc_drew)); exact HO581.out))) (Kd.Rc_lt (by (with_reducible repeat (first | apply Kd.Rc_alloc | apply Kd.Rc_drewN | apply Kd.Rc_drew)); exact HO586.out))) (Kd.Rc_lt (by (with_reducible repeat (first | apply Kd.Rc_alloc | apply Kd.Rc_drewN | apply Kd.Rc_drew)); exact HO589.out))) (below_size (by repeat (first | (with_reducible first | exact HB.out | apply below_alloc | apply pw_below_drewN | apply below_drew1 | refine below_set ?_ GE575.out) | exact HB.out)))); have n4_ := Aside0.mk (Kd.Rc_lower (Kd.Rc_new' (Kd.Rc_new' (Kd.Rc_new' ho1 (Kd.Rc_lt (by (with_reducible repeat (first | apply Kd.Rc_alloc | apply Kd.Rc_drewN | apply Kd.Rc_drew)); exact HO581.out))) (Kd.Rc_lt (by (with_reducible repeat (first | apply Kd.Rc_alloc | apply Kd.Rc_drewN | apply Kd.Rc_drew)); exact HO586.out))) (Kd.Rc_lt (by (with_reducible repeat (first | apply Kd.Rc_alloc | apply Kd.Rc_drewN | apply Kd.Rc_drew)); exact HO589.out))) (below_size (by repeat (first | (with_reducible first | exact HB.out | apply below_alloc | apply pw_below_drewN | apply below_drew1 | refine below_set ?_ GE575.out) | exact HB.out)))); have n5_ := Aside0.mk (blk_below (g := gb575) (o := .cells #[.int .u8 a0_0, .int .u8 a0_1, .slice A0_2 l0_2.length c0_2, .int .u8 a0_3, .int .u8 a0_4, .slice A0_5 l0_5.length c0_5] 47 (0, 0)) (by (with_reducible repeat (first | refine blk_drewN ?_ _ | refine blk_drew ?_ | refine blk_alloc ?_ _)); exact BK575.out) hb); have n6_ := Aside0.mk (below_step (by repeat (first | (with_reducible first | exact HB.out | apply below_alloc | apply pw_below_drewN | apply below_drew1 | refine below_set ?_ GE575.out) | exact HB.out)) hb); clear HO581; clear HO586; clear HO589; clear BK575; clear HB; have HO581 := n0_; have HO586 := n1_; have HO589 := n2_; have HO595 := n3_; have HO600 := n4_; have BK575 := n5_; have HB := n6_; clear n0_ n1_ n2_ n3_ n4_ n5_ n6_; (try clear hb); (try clear hb2); (try clear hk); (try clear hi); (try clear ho0); (try clear ho1)) | ((with_reducible refine gate_dst (N := 6) rfl ?_); refine box_event ?hg (N := 6) ?hd (cs := #[.int .u8 0, .int .u8 0, .slice none 0 0, .int .u8 0, .int .u8 0, .slice none 0 0]) (t := 52) ?hr ?_; (case hd => rfl); (case hg => rfl); (case hr => first | (go_simp; done) | (go_simp; rfl)); intro gb601 hg w22 hbox hb; have n0_ := Aside0.mk (Kd.Rc_below (by (with_reducible repeat (first | apply Kd.Rc_alloc | apply Kd.Rc_drewN | apply Kd.Rc_drew)); exact HO581.out) hb); have n1_ := Aside0.mk (Kd.Rc_below (by (with_reducible repeat (first | apply Kd.Rc_alloc | apply Kd.Rc_drewN | apply Kd.Rc_drew)); exact HO586.out) hb); have n2_ := Aside0.mk (Kd.Rc_below (by (with_reducible repeat (first | apply Kd.Rc_alloc | apply Kd.Rc_drewN | apply Kd.Rc_drew)); exact HO589.out) hb); have n3_ := Aside0.mk (Kd.Rc_below (by (with_reducible repeat (first | apply Kd.Rc_alloc | apply Kd.Rc_drewN | apply Kd.Rc_drew)); exact HO595.out) hb); have n4_ := Aside0.mk (Kd.Rc_below (by (with_reducible repeat (first | apply Kd.Rc_alloc | apply Kd.Rc_drewN | apply Kd.Rc_drew)); exact HO600.out) hb); have n5_ := Aside0.mk (blk_below (g := gb575) (o := .cells #[.int .u8 a0_0, .int .u8 a0_1, .slice A0_2 l0_2.length c0_2, .int .u8 a0_3, .int .u8 a0_4, .slice A0_5 l0_5.length c0_5] 47 (0, 0)) (by (with_reducible repeat (first | refine blk_drewN ?_ _ | refine blk_drew ?_ | refine blk_alloc ?_ _)); exact BK575.out) hb); have n6_ := Aside0.mk (below_step (by repeat (first | (with_reducible first | exact HB.out | apply below_alloc | apply pw_below_drewN | apply below_drew1 | refine below_set ?_ GE575.out) | exact HB.out)) hb); have n7_ := Aside0.mk (hbox); have n8_ := Aside0.mk ((by rw [hg]; exact (below_size (by repeat (first | (with_reducible first | exact HB.out | apply below_alloc | apply pw_below_drewN | apply below_drew1 | refine below_set ?_ GE575.out) | exact HB.out))) : w.heap.size ≤ gb601)); have n9_ := Aside0.mk ((by rw [hg]; exact (below_size (by repeat (first | (with_reducible first | exact HB.out | apply below_alloc | apply pw_below_drewN | apply below_drew1 | refine below_set ?_ GE575.out) | exact HB.out))) : w.heap.size ≤ gb601)); have n10_ := Aside0.mk ((by rw [hg]; exact Nat.ne_of_lt (blk_lt (g := gb575) (o := .cells #[.int .u8 a0_0, .int .u8 a0_1, .slice A0_2 l0_2.length c0_2, .int .u8 a0_3, .int .u8 a0_4, .slice A0_5 l0_5.length c0_5] 47 (0, 0)) (by (with_reducible repeat (first | refine blk_drewN ?_ _ | refine blk_drew ?_ | refine blk_alloc ?_ _)); exact BK575.out)) : gb575 ≠ gb601)); have n11_ := Aside0.mk ((by rw [hg]; exact Nat.ne_of_gt (blk_lt (g := gb575) (o := .cells #[.int .u8 a0_0, .int .u8 a0_1, .slice A0_2 l0_2.length c0_2, .int .u8 a0_3, .int .u8 a0_4, .slice A0_5 l0_5.length c0_5] 47 (0, 0)) (by (with_reducible repeat (first | refine blk_drewN ?_ _ | refine blk_drew ?_ | refine blk_alloc ?_ _)); exact BK575.out)) : gb601 ≠ gb575)); clear HO581; clear HO586; clear HO589; clear HO595; clear HO600; clear BK575; clear HB; have HO581 := n0_; have HO586 := n1_; have HO589 := n2_; have HO595 := n3_; have HO600 := n4_; have BK575 := n5_; have HB := n6_; have BK601 := n7_; have GW601 := n8_; have GE601 := n9_; have NB575_601 := n10_; have NB601_575 := n11_; clear n0_ n1_ n2_ n3_ n4_ n5_ n6_ n7_ n8_ n9_ n10_ n11_; clear hb hbox hg; have hnb23 := NB601_575.out; have hnc23 := NB575_601.out; have hcz24_0 : w22.cell? ⟨gb601, 0, none⟩ = some (.int .u8 0) := (blk_cell BK601.out 0).trans rfl; have hcz24_1 : w22.cell? ⟨gb601, 1, none⟩ = some (.int .u8 0) := (blk_cell BK601.out 1).trans rfl; have hcz24_2 : w22.cell? ⟨gb601, 2, none⟩ = some (.slice none 0 0) := (blk_cell BK601.out 2).trans rfl; have hcz24_3 : w22.cell? ⟨gb601, 3, none⟩ = some (.int .u8 0) := (blk_cell BK601.out 3).trans rfl; have hcz24_4 : w22.cell? ⟨gb601, 4, none⟩ = some (.int .u8 0) := (blk_cell BK601.out 4).trans rfl; have hcz24_5 : w22.cell? ⟨gb601, 5, none⟩ = some (.slice none 0 0) := (blk_cell BK601.out 5).trans rfl; have hfz24_0 := blk_frozen BK601.out 0; have hfz24_1 := blk_frozen BK601.out 1; have hfz24_2 := blk_frozen BK601.out 2; have hfz24_3 := blk_frozen BK601.out 3; have hfz24_4 := blk_frozen BK601.out 4; have hfz24_5 := blk_frozen BK601.out 5; obtain ⟨Ao25, co25, eo25⟩ := Kd.Rc_slice HO595.out; subst eo25; obtain ⟨Ao26, co26, eo26⟩ := Kd.Rc_slice HO600.out; subst eo26) | ((with_reducible refine gate_callee (f := 48) rfl ?_); refine goesL_ (some 29) rfl rfl Try.func48 (by kernel_rfl) rfl #[.agg #[.int .u8 t591, .int .u8 t592, .slice Ao25 t593.length co25, .int .u8 t596, .int .u8 t597, .slice Ao26 t598.length co26]] rfl (by (try simp only [List.map_toArray, List.map_cons, List.map_nil]); first | done | rfl | (simp only [List.length_drop, List.length_take]; rfl)) ?_; (with_reducible refine (impl_HoldNow.calls k t591 t592 _ _ t593 t596 t597 _ _ t598 t602 t605 _ ?side1 ?side2 ?side3 ?side4 A10.out).mono ?_); (case side1 => refine (Kd.Rc_reads' (e := 5) (base := w.heap.size) (ok := fun k_ => (((some k_ ≠ (.slice Ao26 t598.length co26 : Value).ownBlock ∧ some k_ ≠ (.slice Ao17 t579.length co17 : Value).ownBlock) ∧ some k_ ≠ (.slice Ao18 t584.length co18 : Value).ownBlock) ∧ some k_ ≠ (v588 : Value).ownBlock)) (n := t593.length) (c := co25) ?_).2.2; exact (by (with_reducible repeat (first | apply Kd.Rc_alloc | apply Kd.Rc_drewN | apply Kd.Rc_drew)); exact (Kd.Rc_mono (Kd.Rc_far (p := ⟨gb601, 5, none⟩) (Kd.Rc_far (p := ⟨gb601, 4, none⟩) (Kd.Rc_far (p := ⟨gb601, 3, none⟩) (Kd.Rc_far (p := ⟨gb601, 2, none⟩) (Kd.Rc_far (p := ⟨gb601, 1, none⟩) (Kd.Rc_far (p := ⟨gb601, 0, none⟩) (Kd.Rc_types HO595.out BK601.out (by decide)) (fun _ hk => hk.2) (.int .u8 t591)) (fun _ hk => hk.2) (.int .u8 t592)) (fun _ hk => hk.2) (.slice Ao25 t593.length co25)) (fun _ hk => hk.2) (.int .u8 t596)) (fun _ hk => hk.2) (.int .u8 t597)) (fun _ hk => hk.2) (.slice Ao26 t598.length co26)) (fun _ h_ => h_.1)))); (case side2 => exact (Kd.Rc_reads' HO595.out).2.1); (case side3 => refine (Kd.Rc_reads' (e := 5) (base := w.heap.size) (ok := fun k_ => (((some k_ ≠ (.slice Ao25 t593.length co25 : Value).ownBlock ∧ some k_ ≠ (.slice Ao17 t579.length co17 : Value).ownBlock) ∧ some k_ ≠ (.slice Ao18 t584.length co18 : Value).ownBlock) ∧ some k_ ≠ (v588 : Value).ownBlock)) (n := t598.length) (c := co26) ?_).2.2; exact (by (with_reducible repeat (first | apply Kd.Rc_alloc | apply Kd.Rc_drewN | apply Kd.Rc_drew)); exact (Kd.Rc_mono (Kd.Rc_far (p := ⟨gb601, 5, none⟩) (Kd.Rc_far (p := ⟨gb601, 4, none⟩) (Kd.Rc_far (p := ⟨gb601, 3, none⟩) (Kd.Rc_far (p := ⟨gb601, 2, none⟩) (Kd.Rc_far (p := ⟨gb601, 1, none⟩) (Kd.Rc_far (p := ⟨gb601, 0, none⟩) (Kd.Rc_types HO600.out BK601.out (by decide)) (fun _ hk => hk.2) (.int .u8 t591)) (fun _ hk => hk.2) (.int .u8 t592)) (fun _ hk => hk.2) (.slice Ao25 t593.length co25)) (fun _ hk => hk.2) (.int .u8 t596)) (fun _ hk => hk.2) (.int .u8 t597)) (fun _ hk => hk.2) (.slice Ao26 t598.length co26)) (fun _ h_ => h_.1)))); (case side4 => exact (Kd.Rc_reads' HO600.out).2.1); rintro e w27 ⟨v603, rfl, ho0, hb⟩; refine ⟨_, rfl, ?_⟩; have n0_ := Aside0.mk (Kd.Rc_elder' (by (with_reducible repeat (first | apply Kd.Rc_alloc | apply Kd.Rc_drewN | apply Kd.Rc_drew)); exact (Kd.Rc_mono (Kd.Rc_far (p := ⟨gb601, 5, none⟩) (Kd.Rc_far (p := ⟨gb601, 4, none⟩) (Kd.Rc_far (p := ⟨gb601, 3, none⟩) (Kd.Rc_far (p := ⟨gb601, 2, none⟩) (Kd.Rc_far (p := ⟨gb601, 1, none⟩) (Kd.Rc_far (p := ⟨gb601, 0, none⟩) (Kd.Rc_types HO581.out BK601.out (by decide)) (fun _ hk => hk.2) (.int .u8 t591)) (fun _ hk => hk.2) (.int .u8 t592)) (fun _ hk => hk.2) (.slice Ao25 t593.length co25)) (fun _ hk => hk.2) (.int .u8 t596)) (fun _ hk => hk.2) (.int .u8 t597)) (fun _ hk => hk.2) (.slice Ao26 t598.length co26)) (fun _ h_ => h_.1))) (Kd.Rc_base ho0) hb); have n1_ := Aside0.mk (Kd.Rc_elder' (by (with_reducible repeat (first | apply Kd.Rc_alloc | apply Kd.Rc_drewN | apply Kd.Rc_drew)); exact (Kd.Rc_mono (Kd.Rc_far (p := ⟨gb601, 5, none⟩) (Kd.Rc_far (p := ⟨gb601, 4, none⟩) (Kd.Rc_far (p := ⟨gb601, 3, none⟩) (Kd.Rc_far (p := ⟨gb601, 2, none⟩) (Kd.Rc_far (p := ⟨gb601, 1, none⟩) (Kd.Rc_far (p := ⟨gb601, 0, none⟩) (Kd.Rc_types HO586.out BK601.out (by decide)) (fun _ hk => hk.2) (.int .u8 t591)) (fun _ hk => hk.2) (.int .u8 t592)) (fun _ hk => hk.2) (.slice Ao25 t593.length co25)) (fun _ hk => hk.2) (.int .u8 t596)) (fun _ hk => hk.2) (.int .u8 t597)) (fun _ hk => hk.2) (.slice Ao26 t598.length co26)) (fun _ h_ => h_.1))) (Kd.Rc_base ho0) hb); have n2_ := Aside0.mk (Kd.Rc_elder' (by (with_reducible repeat (first | apply Kd.Rc_alloc | apply Kd.Rc_drewN | apply Kd.Rc_drew)); exact (Kd.Rc_mono (Kd.Rc_far (p := ⟨gb601, 5, none⟩) (Kd.Rc_far (p := ⟨gb601, 4, none⟩) (Kd.Rc_far (p := ⟨gb601, 3, none⟩) (Kd.Rc_far (p := ⟨gb601, 2, none⟩) (Kd.Rc_far (p := ⟨gb601, 1, none⟩) (Kd.Rc_far (p := ⟨gb601, 0, none⟩) (Kd.Rc_types HO589.out BK601.out (by decide)) (fun _ hk => hk.2) (.int .u8 t591)) (fun _ hk => hk.2) (.int .u8 t592)) (fun _ hk => hk.2) (.slice Ao25 t593.length co25)) (fun _ hk => hk.2) (.int .u8 t596)) (fun _ hk => hk.2) (.int .u8 t597)) (fun _ hk => hk.2) (.slice Ao26 t598.length co26)) (fun _ h_ => h_.1))) (Kd.Rc_base ho0) hb); have n3_ := Aside0.mk (Kd.Rc_elder' (by (with_reducible repeat (first | apply Kd.Rc_alloc | apply Kd.Rc_drewN | apply Kd.Rc_drew)); exact (Kd.Rc_mono (Kd.Rc_far (p := ⟨gb601, 5, none⟩) (Kd.Rc_far (p := ⟨gb601, 4, none⟩) (Kd.Rc_far (p := ⟨gb601, 3, none⟩) (Kd.Rc_far (p := ⟨gb601, 2, none⟩) (Kd.Rc_far (p := ⟨gb601, 1, none⟩) (Kd.Rc_far (p := ⟨gb601, 0, none⟩) (Kd.Rc_types HO595.out BK601.out (by decide)) (fun _ hk => hk.2) (.int .u8 t591)) (fun _ hk => hk.2) (.int .u8 t592)) (fun _ hk => hk.2) (.slice Ao25 t593.length co25)) (fun _ hk => hk.2) (.int .u8 t596)) (fun _ hk => hk.2) (.int .u8 t597)) (fun _ hk => hk.2) (.slice Ao26 t598.length co26)) (fun _ h_ => h_.1))) (Kd.Rc_base ho0) hb); have n4_ := Aside0.mk (Kd.Rc_elder' (by (with_reducible repeat (first | apply Kd.Rc_alloc | apply Kd.Rc_drewN | apply Kd.Rc_drew)); exact (Kd.Rc_mono (Kd.Rc_far (p := ⟨gb601, 5, none⟩) (Kd.Rc_far (p := ⟨gb601, 4, none⟩) (Kd.Rc_far (p := ⟨gb601, 3, none⟩) (Kd.Rc_far (p := ⟨gb601, 2, none⟩) (Kd.Rc_far (p := ⟨gb601, 1, none⟩) (Kd.Rc_far (p := ⟨gb601, 0, none⟩) (Kd.Rc_types HO600.out BK601.out (by decide)) (fun _ hk => hk.2) (.int .u8 t591)) (fun _ hk => hk.2) (.int .u8 t592)) (fun _ hk => hk.2) (.slice Ao25 t593.length co25)) (fun _ hk => hk.2) (.int .u8 t596)) (fun _ hk => hk.2) (.int .u8 t597)) (fun _ hk => hk.2) (.slice Ao26 t598.length co26)) (fun _ h_ => h_.1))) (Kd.Rc_base ho0) hb); have n5_ := Aside0.mk (Kd.Rc_lower (Kd.Rc_new' (Kd.Rc_new' (Kd.Rc_new' (Kd.Rc_new' (Kd.Rc_new' ho0 (Kd.Rc_lt (by (with_reducible repeat (first | apply Kd.Rc_alloc | apply Kd.Rc_drewN | apply Kd.Rc_drew)); exact (Kd.Rc_mono (Kd.Rc_far (p := ⟨gb601, 5, none⟩) (Kd.Rc_far (p := ⟨gb601, 4, none⟩) (Kd.Rc_far (p := ⟨gb601, 3, none⟩) (Kd.Rc_far (p := ⟨gb601, 2, none⟩) (Kd.Rc_far (p := ⟨gb601, 1, none⟩) (Kd.Rc_far (p := ⟨gb601, 0, none⟩) (Kd.Rc_types HO581.out BK601.out (by decide)) (fun _ hk => hk.2) (.int .u8 t591)) (fun _ hk => hk.2) (.int .u8 t592)) (fun _ hk => hk.2) (.slice Ao25 t593.length co25)) (fun _ hk => hk.2) (.int .u8 t596)) (fun _ hk => hk.2) (.int .u8 t597)) (fun _ hk => hk.2) (.slice Ao26 t598.length co26)) (fun _ h_ => h_.1))))) (Kd.Rc_lt (by (with_reducible repeat (first | apply Kd.Rc_alloc | apply Kd.Rc_drewN | apply Kd.Rc_drew)); exact (Kd.Rc_mono (Kd.Rc_far (p := ⟨gb601, 5, none⟩) (Kd.Rc_far (p := ⟨gb601, 4, none⟩) (Kd.Rc_far (p := ⟨gb601, 3, none⟩) (Kd.Rc_far (p := ⟨gb601, 2, none⟩) (Kd.Rc_far (p := ⟨gb601, 1, none⟩) (Kd.Rc_far (p := ⟨gb601, 0, none⟩) (Kd.Rc_types HO586.out BK601.out (by decide)) (fun _ hk => hk.2) (.int .u8 t591)) (fun _ hk => hk.2) (.int .u8 t592)) (fun _ hk => hk.2) (.slice Ao25 t593.length co25)) (fun _ hk => hk.2) (.int .u8 t596)) (fun _ hk => hk.2) (.int .u8 t597)) (fun _ hk => hk.2) (.slice Ao26 t598.length co26)) (fun _ h_ => h_.1))))) (Kd.Rc_lt (by (with_reducible repeat (first | apply Kd.Rc_alloc | apply Kd.Rc_drewN | apply Kd.Rc_drew)); exact (Kd.Rc_mono (Kd.Rc_far (p := ⟨gb601, 5, none⟩) (Kd.Rc_far (p := ⟨gb601, 4, none⟩) (Kd.Rc_far (p := ⟨gb601, 3, none⟩) (Kd.Rc_far (p := ⟨gb601, 2, none⟩) (Kd.Rc_far (p := ⟨gb601, 1, none⟩) (Kd.Rc_far (p := ⟨gb601, 0, none⟩) (Kd.Rc_types HO589.out BK601.out (by decide)) (fun _ hk => hk.2) (.int .u8 t591)) (fun _ hk => hk.2) (.int .u8 t592)) (fun _ hk => hk.2) (.slice Ao25 t593.length co25)) (fun _ hk => hk.2) (.int .u8 t596)) (fun _ hk => hk.2) (.int .u8 t597)) (fun _ hk => hk.2) (.slice Ao26 t598.length co26)) (fun _ h_ => h_.1))))) (Kd.Rc_lt (by (with_reducible repeat (first | apply Kd.Rc_alloc | apply Kd.Rc_drewN | apply Kd.Rc_drew)); exact (Kd.Rc_mono (Kd.Rc_far (p := ⟨gb601, 5, none⟩) (Kd.Rc_far (p := ⟨gb601, 4, none⟩) (Kd.Rc_far (p := ⟨gb601, 3, none⟩) (Kd.Rc_far (p := ⟨gb601, 2, none⟩) (Kd.Rc_far (p := ⟨gb601, 1, none⟩) (Kd.Rc_far (p := ⟨gb601, 0, none⟩) (Kd.Rc_types HO595.out BK601.out (by decide)) (fun _ hk => hk.2) (.int .u8 t591)) (fun _ hk => hk.2) (.int .u8 t592)) (fun _ hk => hk.2) (.slice Ao25 t593.length co25)) (fun _ hk => hk.2) (.int .u8 t596)) (fun _ hk => hk.2) (.int .u8 t597)) (fun _ hk => hk.2) (.slice Ao26 t598.length co26)) (fun _ h_ => h_.1))))) (Kd.Rc_lt (by (with_reducible repeat (first | apply Kd.Rc_alloc | apply Kd.Rc_drewN | apply Kd.Rc_drew)); exact (Kd.Rc_mono (Kd.Rc_far (p := ⟨gb601, 5, none⟩) (Kd.Rc_far (p := ⟨gb601, 4, none⟩) (Kd.Rc_far (p := ⟨gb601, 3, none⟩) (Kd.Rc_far (p := ⟨gb601, 2, none⟩) (Kd.Rc_far (p := ⟨gb601, 1, none⟩) (Kd.Rc_far (p := ⟨gb601, 0, none⟩) (Kd.Rc_types HO600.out BK601.out (by decide)) (fun _ hk => hk.2) (.int .u8 t591)) (fun _ hk => hk.2) (.int .u8 t592)) (fun _ hk => hk.2) (.slice Ao25 t593.length co25)) (fun _ hk => hk.2) (.int .u8 t596)) (fun _ hk => hk.2) (.int .u8 t597)) (fun _ hk => hk.2) (.slice Ao26 t598.length co26)) (fun _ h_ => h_.1))))) (below_size (by repeat (first | (with_reducible first | exact HB.out | apply below_alloc | apply pw_below_drewN | apply below_drew1 | refine below_set ?_ GE575.out | refine below_set ?_ GE601.out) | exact HB.out)))); have n6_ := Aside0.mk (blk_below (g := gb575) (o := .cells #[.int .u8 a0_0, .int .u8 a0_1, .slice A0_2 l0_2.length c0_2, .int .u8 a0_3, .int .u8 a0_4, .slice A0_5 l0_5.length c0_5] 47 (0, 0)) (by (with_reducible repeat (first | refine blk_drewN ?_ _ | refine blk_drew ?_ | refine blk_alloc ?_ _)); refine blk_far ?_ NB575_601.out _; (with_reducible repeat (first | refine blk_drewN ?_ _ | refine blk_drew ?_ | refine blk_alloc ?_ _)); refine blk_far ?_ NB575_601.out _; (with_reducible repeat (first | refine blk_drewN ?_ _ | refine blk_drew ?_ | refine blk_alloc ?_ _)); refine blk_far ?_ NB575_601.out _; (with_reducible repeat (first | refine blk_drewN ?_ _ | refine blk_drew ?_ | refine blk_alloc ?_ _)); refine blk_far ?_ NB575_601.out _; (with_reducible repeat (first | refine blk_drewN ?_ _ | refine blk_drew ?_ | refine blk_alloc ?_ _)); refine blk_far ?_ NB575_601.out _; (with_reducible repeat (first | refine blk_drewN ?_ _ | refine blk_drew ?_ | refine blk_alloc ?_ _)); refine blk_far ?_ NB575_601.out _; (with_reducible repeat (first | refine blk_drewN ?_ _ | refine blk_drew ?_ | refine blk_alloc ?_ _)); exact BK575.out) hb); have n7_ := Aside0.mk (blk_below (g := gb601) (o := .cells #[.int .u8 t591, .int .u8 t592, .slice Ao25 t593.length co25, .int .u8 t596, .int .u8 t597, .slice Ao26 t598.length co26] 52 (0, 0)) (by (with_reducible repeat (first | refine blk_drewN ?_ _ | refine blk_drew ?_ | refine blk_alloc ?_ _)); refine blk_put (cs := #[.int .u8 t591, .int .u8 t592, .slice Ao25 t593.length co25, .int .u8 t596, .int .u8 t597, .slice none 0 0]) ?_ 5 _ rfl; (with_reducible repeat (first | refine blk_drewN ?_ _ | refine blk_drew ?_ | refine blk_alloc ?_ _)); refine blk_put (cs := #[.int .u8 t591, .int .u8 t592, .slice Ao25 t593.length co25, .int .u8 t596, .int .u8 0, .slice none 0 0]) ?_ 4 _ rfl; (with_reducible repeat (first | refine blk_drewN ?_ _ | refine blk_drew ?_ | refine blk_alloc ?_ _)); refine blk_put (cs := #[.int .u8 t591, .int .u8 t592, .slice Ao25 t593.length co25, .int .u8 0, .int .u8 0, .slice none 0 0]) ?_ 3 _ rfl; (with_reducible repeat (first | refine blk_drewN ?_ _ | refine blk_drew ?_ | refine blk_alloc ?_ _)); refine blk_put (cs := #[.int .u8 t591, .int .u8 t592, .slice none 0 0, .int .u8 0, .int .u8 0, .slice none 0 0]) ?_ 2 _ rfl; (with_reducible repeat (first | refine blk_drewN ?_ _ | refine blk_drew ?_ | refine blk_alloc ?_ _)); refine blk_put (cs := #[.int .u8 t591, .int .u8 0, .slice none 0 0, .int .u8 0, .int .u8 0, .slice none 0 0]) ?_ 1 _ rfl; (with_reducible repeat (first | refine blk_drewN ?_ _ | refine blk_drew ?_ | refine blk_alloc ?_ _)); refine blk_put (cs := #[.int .u8 0, .int .u8 0, .slice none 0 0, .int .u8 0, .int .u8 0, .slice none 0 0]) ?_ 0 _ rfl; (with_reducible repeat (first | refine blk_drewN ?_ _ | refine blk_drew ?_ | refine blk_alloc ?_ _)); exact BK601.out) hb); have n8_ := Aside0.mk (below_step (by repeat (first | (with_reducible first | exact HB.out | apply below_alloc | apply pw_below_drewN | apply below_drew1 | refine below_set ?_ GE575.out | refine below_set ?_ GE601.out) | exact HB.out)) hb); clear HO581; clear HO586; clear HO589; clear HO595; clear HO600; clear BK575; clear BK601; clear HB; have HO581 := n0_; have HO586 := n1_; have HO589 := n2_; have HO595 := n3_; have HO600 := n4_; have HO604 := n5_; have BK575 := n6_; have BK601 := n7_; have HB := n8_; clear n0_ n1_ n2_ n3_ n4_ n5_ n6_ n7_ n8_; (try clear hb); (try clear hb2); (try clear hk); (try clear hi); (try clear ho0)))
    (try simp only [Act.put, List.setIfInBounds_toArray, List.set_cons_zero, List.set_cons_succ])
    go_cut [40] (fun v40 wc => ∃ (kq : Nat) (x40_10 : Bool), v40 = .bool x40_10 ∧ Aside0 (laws_FnExactHoldNow.j0 kq t587 t590 t602 t605 x40_10 a0_0 a0_1 l0_2 a0_3 a0_4 l0_5 t591 t592 t593 t596 t597 t598 = some r) ∧ Aside0 (kq ≤ k) ∧ Aside0 (Kd.Rc (Kd.int .u8) 5 wc w.heap.size (fun k_ => some k_ ≠ (v603 : Value).ownBlock ∧ some k_ ≠ ((.slice Ao25 t593.length co25) : Value).ownBlock ∧ some k_ ≠ ((.slice Ao26 t598.length co26) : Value).ownBlock) v588 t587) ∧ Aside0 (Kd.Rc (Kd.int .u8) 5 wc w.heap.size (fun k_ => some k_ ≠ (v588 : Value).ownBlock ∧ some k_ ≠ ((.slice Ao25 t593.length co25) : Value).ownBlock ∧ some k_ ≠ ((.slice Ao26 t598.length co26) : Value).ownBlock) v603 t602) ∧ Aside0 (Kd.Rc (Kd.int .u8) 5 wc w.heap.size (fun k_ => some k_ ≠ (v588 : Value).ownBlock ∧ some k_ ≠ (v603 : Value).ownBlock ∧ some k_ ≠ ((.slice Ao26 t598.length co26) : Value).ownBlock) (.slice Ao25 t593.length co25) t593) ∧ Aside0 (Kd.Rc (Kd.int .u8) 5 wc w.heap.size (fun k_ => some k_ ≠ (v588 : Value).ownBlock ∧ some k_ ≠ (v603 : Value).ownBlock ∧ some k_ ≠ ((.slice Ao25 t593.length co25) : Value).ownBlock) (.slice Ao26 t598.length co26) t598) ∧ Aside0 (wc.heap[gb575]? = some (.cells #[.int .u8 a0_0, .int .u8 a0_1, (.slice A0_2 l0_2.length c0_2), .int .u8 a0_3, .int .u8 a0_4, (.slice A0_5 l0_5.length c0_5)] 47 (0, 0))) ∧ Aside0 (wc.heap[gb601]? = some (.cells #[.int .u8 t591, .int .u8 t592, (.slice Ao25 t593.length co25), .int .u8 t596, .int .u8 t597, (.slice Ao26 t598.length co26)] 52 (0, 0))) ∧ Aside0 (Below w.heap.size w wc))
    case first =>
      have H := HC11.out
      clear HC11
      replace H := Option.bind_eq_some_iff.mp H
      obtain ⟨t606, A280, H⟩ := H
      replace H : (if t606 = true then (laws_FnExactHoldNow.j0 k t587 t590 t602 t605 (t605 != t590) a0_0 a0_1 l0_2 a0_3 a0_4 l0_5 t591 t592 t593 t596 t597 t598) else (laws_FnExactHoldNow.j0 k t587 t590 t602 t605 true a0_0 a0_1 l0_2 a0_3 a0_4 l0_5 t591 t592 t593 t596 t597 t598)) = some r := H
      have A28 := Aside0.mk A280
      clear A280
      by_cases c29 : t606 = true
      · subst c29
        have H1 : (laws_FnExactHoldNow.j0 k t587 t590 t602 t605 (t605 != t590) a0_0 a0_1 l0_2 a0_3 a0_4 l0_5 t591 t592 t593 t596 t597 t598) = some r := by rw [if_pos rfl] at H; exact H
        clear H
        have H := H1
        clear H1
        have H' := Aside0.mk H
        clear H
        obtain ⟨Ao30, co30, eo30⟩ := Kd.Rc_slice HO604.out
        subst eo30
        obtain ⟨Ao31, co31, eo31⟩ := Kd.Rc_slice HO589.out
        subst eo31
        go_wp2_with (first | ((with_reducible refine gate_callee (f := 20) rfl ?_); refine goesL_ (some 34) rfl rfl Try.func20 (by kernel_rfl) rfl #[.slice Ao30 t602.length co30, .slice Ao31 t587.length co31] rfl (by (try simp only [List.map_toArray, List.map_cons, List.map_nil]); first | done | rfl | (simp only [List.length_drop, List.length_take]; rfl)) ?_; (with_reducible refine (laws_eqByteS.calls k _ _ t602 _ _ t587 true _ ?side1 ?side2 ?side3 ?side4 A28.out).mono ?_); (case side1 => repeat (first | exact (Kd.Rc_reads' HO604.out).2.2 | (with_reducible refine Kd.C_alloc ?_ _) | (with_reducible refine Kd.C_drewN ?_ _) | (with_reducible refine Kd.C_drew ?_))); (case side2 => exact (Kd.Rc_reads' HO604.out).2.1); (case side3 => repeat (first | exact (Kd.Rc_reads' HO589.out).2.2 | (with_reducible refine Kd.C_alloc ?_ _) | (with_reducible refine Kd.C_drewN ?_ _) | (with_reducible refine Kd.C_drew ?_))); (case side4 => exact (Kd.Rc_reads' HO589.out).2.1); rintro e w' ⟨rfl, ⟨nd, rfl⟩⟩; refine ⟨_, rfl, ?_⟩))
        go_meet
        case rel => exact ⟨_, ((t605 != t590)), (by first | rfl | (simp; done) | (simp [*]; done)), H', ⟨by first | omega | exact Nat.le_refl _⟩, ⟨by (with_reducible repeat (first | apply Kd.Rc_alloc | apply Kd.Rc_drewN | apply Kd.Rc_drew)); exact Kd.Rc_mono HO589.out (fun _ hk => ⟨hk.2, ⟨hk.1.1.2, hk.1.2⟩⟩)⟩, ⟨by (with_reducible repeat (first | apply Kd.Rc_alloc | apply Kd.Rc_drewN | apply Kd.Rc_drew)); exact Kd.Rc_mono HO604.out (fun _ hk => ⟨hk.1.1.2, ⟨hk.1.2, hk.2⟩⟩)⟩, ⟨by (with_reducible repeat (first | apply Kd.Rc_alloc | apply Kd.Rc_drewN | apply Kd.Rc_drew)); exact Kd.Rc_mono HO595.out (fun _ hk => ⟨hk.1.2, ⟨hk.2, hk.1.1.1.1⟩⟩)⟩, ⟨by (with_reducible repeat (first | apply Kd.Rc_alloc | apply Kd.Rc_drewN | apply Kd.Rc_drew)); exact Kd.Rc_mono HO600.out (fun _ hk => ⟨hk.1.2, ⟨hk.2, hk.1.1.1.1⟩⟩)⟩, ⟨by (with_reducible repeat (first | refine blk_drewN ?_ _ | refine blk_drew ?_ | refine blk_alloc ?_ _)); exact BK575.out⟩, ⟨by (with_reducible repeat (first | refine blk_drewN ?_ _ | refine blk_drew ?_ | refine blk_alloc ?_ _)); exact BK601.out⟩, ⟨by repeat (first | (with_reducible first | exact HB.out | apply below_alloc | apply pw_below_drewN | apply below_drew1 | refine below_set ?_ GE575.out | refine below_set ?_ GE601.out) | exact HB.out)⟩⟩
      · replace c29 := Bool.eq_false_iff.mpr c29
        subst c29
        have H1 : (laws_FnExactHoldNow.j0 k t587 t590 t602 t605 true a0_0 a0_1 l0_2 a0_3 a0_4 l0_5 t591 t592 t593 t596 t597 t598) = some r := by rw [if_neg (show ¬ (false = true) by decide)] at H; exact H
        clear H
        have H := H1
        clear H1
        have H' := Aside0.mk H
        clear H
        obtain ⟨Ao32, co32, eo32⟩ := Kd.Rc_slice HO604.out
        subst eo32
        obtain ⟨Ao33, co33, eo33⟩ := Kd.Rc_slice HO589.out
        subst eo33
        go_wp2_with (first | ((with_reducible refine gate_callee (f := 20) rfl ?_); refine goesL_ (some 34) rfl rfl Try.func20 (by kernel_rfl) rfl #[.slice Ao32 t602.length co32, .slice Ao33 t587.length co33] rfl (by (try simp only [List.map_toArray, List.map_cons, List.map_nil]); first | done | rfl | (simp only [List.length_drop, List.length_take]; rfl)) ?_; (with_reducible refine (laws_eqByteS.calls k _ _ t602 _ _ t587 false _ ?side1 ?side2 ?side3 ?side4 A28.out).mono ?_); (case side1 => repeat (first | exact (Kd.Rc_reads' HO604.out).2.2 | (with_reducible refine Kd.C_alloc ?_ _) | (with_reducible refine Kd.C_drewN ?_ _) | (with_reducible refine Kd.C_drew ?_))); (case side2 => exact (Kd.Rc_reads' HO604.out).2.1); (case side3 => repeat (first | exact (Kd.Rc_reads' HO589.out).2.2 | (with_reducible refine Kd.C_alloc ?_ _) | (with_reducible refine Kd.C_drewN ?_ _) | (with_reducible refine Kd.C_drew ?_))); (case side4 => exact (Kd.Rc_reads' HO589.out).2.1); rintro e w' ⟨rfl, ⟨nd, rfl⟩⟩; refine ⟨_, rfl, ?_⟩))
        go_meet
        case rel => exact ⟨_, (true), (by first | rfl | (simp; done) | (simp [*]; done)), H', ⟨by first | omega | exact Nat.le_refl _⟩, ⟨by (with_reducible repeat (first | apply Kd.Rc_alloc | apply Kd.Rc_drewN | apply Kd.Rc_drew)); exact Kd.Rc_mono HO589.out (fun _ hk => ⟨hk.2, ⟨hk.1.1.2, hk.1.2⟩⟩)⟩, ⟨by (with_reducible repeat (first | apply Kd.Rc_alloc | apply Kd.Rc_drewN | apply Kd.Rc_drew)); exact Kd.Rc_mono HO604.out (fun _ hk => ⟨hk.1.1.2, ⟨hk.1.2, hk.2⟩⟩)⟩, ⟨by (with_reducible repeat (first | apply Kd.Rc_alloc | apply Kd.Rc_drewN | apply Kd.Rc_drew)); exact Kd.Rc_mono HO595.out (fun _ hk => ⟨hk.1.2, ⟨hk.2, hk.1.1.1.1⟩⟩)⟩, ⟨by (with_reducible repeat (first | apply Kd.Rc_alloc | apply Kd.Rc_drewN | apply Kd.Rc_drew)); exact Kd.Rc_mono HO600.out (fun _ hk => ⟨hk.1.2, ⟨hk.2, hk.1.1.1.1⟩⟩)⟩, ⟨by (with_reducible repeat (first | refine blk_drewN ?_ _ | refine blk_drew ?_ | refine blk_alloc ?_ _)); exact BK575.out⟩, ⟨by (with_reducible repeat (first | refine blk_drewN ?_ _ | refine blk_drew ?_ | refine blk_alloc ?_ _)); exact BK601.out⟩, ⟨by repeat (first | (with_reducible first | exact HB.out | apply below_alloc | apply pw_below_drewN | apply below_drew1 | refine below_set ?_ GE575.out | refine below_set ?_ GE601.out) | exact HB.out)⟩⟩
    case rest =>
      clear HC11
      try clear c1
      try clear c2
      try clear p2
      try clear c3
      try clear c3b0
      try clear c4
      try clear c12
      try clear c20
      try clear c23
      try clear c29
      try clear hcz13_0
      try clear hcz13_1
      try clear hcz13_2
      try clear hcz13_3
      try clear hcz13_4
      try clear hcz13_5
      try clear hcz15_0
      try clear hcz15_1
      try clear hcz15_2
      try clear hcz15_3
      try clear hcz15_4
      try clear hcz15_5
      try clear hcz20_0
      try clear hcz20_1
      try clear hcz20_2
      try clear hcz20_3
      try clear hcz20_4
      try clear hcz20_5
      try clear hcz24_0
      try clear hcz24_1
      try clear hcz24_2
      try clear hcz24_3
      try clear hcz24_4
      try clear hcz24_5
      try clear hcz5_0
      try clear hcz5_1
      try clear hcz5_2
      try clear hcz5_3
      try clear hcz5_4
      try clear hcz5_5
      try clear hfz13_0
      try clear hfz13_1
      try clear hfz13_2
      try clear hfz13_3
      try clear hfz13_4
      try clear hfz13_5
      try clear hfz15_0
      try clear hfz15_1
      try clear hfz15_2
      try clear hfz15_3
      try clear hfz15_4
      try clear hfz15_5
      try clear hfz20_0
      try clear hfz20_1
      try clear hfz20_2
      try clear hfz20_3
      try clear hfz20_4
      try clear hfz20_5
      try clear hfz24_0
      try clear hfz24_1
      try clear hfz24_2
      try clear hfz24_3
      try clear hfz24_4
      try clear hfz24_5
      try clear hfz5_0
      try clear hfz5_1
      try clear hfz5_2
      try clear hfz5_3
      try clear hfz5_4
      try clear hfz5_5
      obtain ⟨kq, x40_10, rfl, HA, HJ10, HO_4, HO_7, HO_602002, HO_602005, BK575, BK601, HB⟩ := hcut
      cases kq with
      | zero => exact absurd HA.out (by simp [laws_FnExactHoldNow.j0])
      | succ kj10 =>
        have H := HA.out
        clear HA
        simp only [laws_FnExactHoldNow.j0] at H
        by_cases c34 : x40_10 = true
        · subst c34
          have H1 : (some false) = some r := by rw [if_pos rfl] at H; exact H
          clear H
          have H := H1
          clear H1
          obtain rfl := Option.some.inj H
          go_wp2
          go_ret
          exact ⟨by first | rfl | (simp [errW_none, errW_some] <;> rfl) | (simp [*, errW_none, errW_some] <;> rfl), by repeat (first | (with_reducible first | exact HB.out | apply below_alloc | apply pw_below_drewN | apply below_drew1 | refine below_set ?_ GE575.out | refine below_set ?_ GE601.out) | exact HB.out)⟩
        · replace c34 := Bool.eq_false_iff.mpr c34
          subst c34
          have H1 : ((laws_toHoldRom.f kj10 a0_0 a0_1 l0_2 a0_3 a0_4 l0_5).bind fun bt607 => ((laws_eqHoldRom.f kj10 t591 t592 t593 t596 t597 t598 bt607.1 bt607.2.1 bt607.2.2.1 bt607.2.2.2.1 bt607.2.2.2.2.1 bt607.2.2.2.2.2).bind fun t617 => (if t617 = true then ((laws_markHoldRom.f kj10 t591 t592 t593 t596 t597 t598 1).bind fun bt618 => (if bt618.1 < 0 then (laws_FnExactHoldNow.j1 kj10 t587 t590 t602 true a0_0 a0_1 l0_2 a0_3 a0_4 l0_5) else ((laws_eqByteS.f kj10 t602 t587).bind fun t621 => (if t621 = true then (laws_FnExactHoldNow.j1 kj10 t587 t590 t602 (t605 != t590) a0_0 a0_1 l0_2 a0_3 a0_4 l0_5) else (laws_FnExactHoldNow.j1 kj10 t587 t590 t602 true a0_0 a0_1 l0_2 a0_3 a0_4 l0_5))))) else (some false)))) = some r := by rw [if_neg (show ¬ (false = true) by decide)] at H; exact H
          clear H
          have H := H1
          clear H1
          replace H := Option.bind_eq_some_iff.mp H
          obtain ⟨⟨t607, t608, t609, t612, t613, t614⟩, A350, H⟩ := H
          replace H : ((laws_eqHoldRom.f kj10 t591 t592 t593 t596 t597 t598 t607 t608 t609 t612 t613 t614).bind fun t617 => (if t617 = true then ((laws_markHoldRom.f kj10 t591 t592 t593 t596 t597 t598 1).bind fun bt618 => (if bt618.1 < 0 then (laws_FnExactHoldNow.j1 kj10 t587 t590 t602 true a0_0 a0_1 l0_2 a0_3 a0_4 l0_5) else ((laws_eqByteS.f kj10 t602 t587).bind fun t621 => (if t621 = true then (laws_FnExactHoldNow.j1 kj10 t587 t590 t602 (t605 != t590) a0_0 a0_1 l0_2 a0_3 a0_4 l0_5) else (laws_FnExactHoldNow.j1 kj10 t587 t590 t602 true a0_0 a0_1 l0_2 a0_3 a0_4 l0_5))))) else (some false))) = some r := H
          have A35 := Aside0.mk A350
          clear A350
          replace H := Option.bind_eq_some_iff.mp H
          obtain ⟨t617, A360, H⟩ := H
          replace H : (if t617 = true then ((laws_markHoldRom.f kj10 t591 t592 t593 t596 t597 t598 1).bind fun bt618 => (if bt618.1 < 0 then (laws_FnExactHoldNow.j1 kj10 t587 t590 t602 true a0_0 a0_1 l0_2 a0_3 a0_4 l0_5) else ((laws_eqByteS.f kj10 t602 t587).bind fun t621 => (if t621 = true then (laws_FnExactHoldNow.j1 kj10 t587 t590 t602 (t605 != t590) a0_0 a0_1 l0_2 a0_3 a0_4 l0_5) else (laws_FnExactHoldNow.j1 kj10 t587 t590 t602 true a0_0 a0_1 l0_2 a0_3 a0_4 l0_5))))) else (some false)) = some r := H
          have A36 := Aside0.mk A360
          clear A360
          by_cases c37 : t617 = true
          · subst c37
            have H1 : ((laws_markHoldRom.f kj10 t591 t592 t593 t596 t597 t598 1).bind fun bt618 => (if bt618.1 < 0 then (laws_FnExactHoldNow.j1 kj10 t587 t590 t602 true a0_0 a0_1 l0_2 a0_3 a0_4 l0_5) else ((laws_eqByteS.f kj10 t602 t587).bind fun t621 => (if t621 = true then (laws_FnExactHoldNow.j1 kj10 t587 t590 t602 (t605 != t590) a0_0 a0_1 l0_2 a0_3 a0_4 l0_5) else (laws_FnExactHoldNow.j1 kj10 t587 t590 t602 true a0_0 a0_1 l0_2 a0_3 a0_4 l0_5))))) = some r := by rw [if_pos rfl] at H; exact H
            clear H
            have H := H1
            clear H1
            replace H := Option.bind_eq_some_iff.mp H
            obtain ⟨⟨t618, t619, t620⟩, A380, H⟩ := H
            replace H : (if t618 < 0 then (laws_FnExactHoldNow.j1 kj10 t587 t590 t602 true a0_0 a0_1 l0_2 a0_3 a0_4 l0_5) else ((laws_eqByteS.f kj10 t602 t587).bind fun t621 => (if t621 = true then (laws_FnExactHoldNow.j1 kj10 t587 t590 t602 (t605 != t590) a0_0 a0_1 l0_2 a0_3 a0_4 l0_5) else (laws_FnExactHoldNow.j1 kj10 t587 t590 t602 true a0_0 a0_1 l0_2 a0_3 a0_4 l0_5)))) = some r := H
            have A38 := Aside0.mk A380
            clear A380
            have HC39 := Aside0.mk H
            clear H
            try go_wp2
            have n0_ := Aside0.mk (Kd.Rc_drew HO_4.out)
            have n1_ := Aside0.mk (Kd.Rc_drew HO_7.out)
            have n2_ := Aside0.mk (Kd.Rc_drew HO_602002.out)
            have n3_ := Aside0.mk (Kd.Rc_drew HO_602005.out)
            have n4_ := Aside0.mk (blk_drew BK575.out)
            have n5_ := Aside0.mk (blk_drew BK601.out)
            have n6_ := Aside0.mk (below_drew1 HB.out)
            clear HO_4
            clear HO_7
            clear HO_602002
            clear HO_602005
            clear BK575
            clear BK601
            clear HB
            have HO_4 := n0_
            have HO_7 := n1_
            have HO_602002 := n2_
            have HO_602005 := n3_
            have BK575 := n4_
            have BK601 := n5_
            have HB := n6_
            clear n0_ n1_ n2_ n3_ n4_ n5_ n6_
            refine start_ (n := 5) (S := fun w' => w'.cell? ⟨gb601, 0, none⟩ = some (.int .u8 t591) ∧ w'.cell? ⟨gb601, 1, none⟩ = some (.int .u8 t592) ∧ w'.cell? ⟨gb601, 2, none⟩ = some (.slice Ao25 t593.length co25) ∧ w'.cell? ⟨gb601, 3, none⟩ = some (.int .u8 t596) ∧ w'.cell? ⟨gb601, 4, none⟩ = some (.int .u8 t597) ∧ w'.cell? ⟨gb601, 5, none⟩ = some (.slice Ao26 t598.length co26) ∧ w'.cell? ⟨gb575, 0, none⟩ = some (.int .u8 a0_0) ∧ w'.cell? ⟨gb575, 1, none⟩ = some (.int .u8 a0_1) ∧ w'.cell? ⟨gb575, 2, none⟩ = some (.slice A0_2 l0_2.length c0_2) ∧ w'.cell? ⟨gb575, 3, none⟩ = some (.int .u8 a0_3) ∧ w'.cell? ⟨gb575, 4, none⟩ = some (.int .u8 a0_4) ∧ w'.cell? ⟨gb575, 5, none⟩ = some (.slice A0_5 l0_5.length c0_5)) (ds := []) #[false, false, false, false, false] (by kernel_rfl) rfl rfl ⟨(blk_cell BK601.out 0).trans rfl, (blk_cell BK601.out 1).trans rfl, (blk_cell BK601.out 2).trans rfl, (blk_cell BK601.out 3).trans rfl, (blk_cell BK601.out 4).trans rfl, (blk_cell BK601.out 5).trans rfl, (blk_cell BK575.out 0).trans rfl, (blk_cell BK575.out 1).trans rfl, (blk_cell BK575.out 2).trans rfl, (blk_cell BK575.out 3).trans rfl, (blk_cell BK575.out 4).trans rfl, (blk_cell BK575.out 5).trans rfl⟩ (fun hHeld => ?_)
            generalize wc.drew = w40 at HO_4 HO_7 HO_602002 HO_602005 BK575 BK601 HB hHeld ⊢
            refine take_ (i := 0) (N := some 41) (v := ?_) (a' := ?_) #[true, false, false, false, false] rfl rfl (by kernel_rfl) (fun _ _ _ h => h) (Or.inl ⟨by rfl, ?_⟩) hHeld ?_ ?_
            rotate_left
            · rintro w' ⟨s0, s1, s2, s3, s4, s5, s6, s7, s8, s9, s10, s11⟩
              go_simp
              with_reducible rfl
            rotate_left
            · simp only [Act.put, List.setIfInBounds_toArray, List.set_cons_zero, List.set_cons_succ, i64_w, i32_w]
              rfl
            refine take_ (i := 1) (N := some 42) (v := ?_) (a' := ?_) #[true, true, false, false, false] rfl rfl (by kernel_rfl) (fun _ _ _ h => h) (Or.inl ⟨by rfl, ?_⟩) hHeld ?_ ?_
            rotate_left
            · rintro w' ⟨s0, s1, s2, s3, s4, s5, s6, s7, s8, s9, s10, s11⟩
              go_simp
              with_reducible rfl
            rotate_left
            · simp only [Act.put, List.setIfInBounds_toArray, List.set_cons_zero, List.set_cons_succ, i64_w, i32_w]
              rfl
            refine one_ (i := 2) (N := some 43) #[true, true, true, false, false] rfl rfl (by kernel_rfl) (by decide) (fun K hK => ?_)
            refine goes_ Try.func40 (by kernel_rfl) rfl #[.agg #[.int .u8 a0_0, .int .u8 a0_1, .slice A0_2 l0_2.length c0_2, .int .u8 a0_3, .int .u8 a0_4, .slice A0_5 l0_5.length c0_5]] (by rfl) rfl rfl (by (try simp only [List.map_toArray, List.map_cons, List.map_nil]); first | done | rfl | (simp only [List.length_drop, List.length_take]; rfl)) ?_
            with_reducible refine (laws_toHoldRom.callsC kj10 a0_0 a0_1 _ _ l0_2 a0_3 a0_4 _ _ l0_5 t607 t608 t609 t612 t613 t614 _ ?side1 ?side2 ?side3 ?side4 A35.out).mono ?_
            (case side1 => repeat (first | exact (Kd.C_below HR0_2.out HB.out) | (with_reducible refine Kd.C_alloc ?_ _) | (with_reducible refine Kd.C_drewN ?_ _) | (with_reducible refine Kd.C_drew ?_)))
            (case side2 => exact HC0_2.out)
            (case side3 => repeat (first | exact (Kd.C_below HR0_5.out HB.out) | (with_reducible refine Kd.C_alloc ?_ _) | (with_reducible refine Kd.C_drewN ?_ _) | (with_reducible refine Kd.C_drew ?_)))
            (case side4 => exact HC0_5.out)
            rintro e w41 ⟨v610, v615, rfl, ho0, ho1, hb⟩
            refine ⟨_, rfl, ?_⟩
            have n0_ := Aside0.mk (Kd.Rc_mono (Kd.Rc_told (Kd.Rc_told (Kd.Rc_old (by (with_reducible repeat (first | apply Kd.Rc_alloc | apply Kd.Rc_drewN | apply Kd.Rc_drew)); exact HO_4.out) hb) (Kd.Rc_base ho0)) (Kd.Rc_base ho1)) (fun _ h_ => h_.1))
            have n1_ := Aside0.mk (Kd.Rc_mono (Kd.Rc_told (Kd.Rc_told (Kd.Rc_old (by (with_reducible repeat (first | apply Kd.Rc_alloc | apply Kd.Rc_drewN | apply Kd.Rc_drew)); exact HO_7.out) hb) (Kd.Rc_base ho0)) (Kd.Rc_base ho1)) (fun _ h_ => h_.1))
            have n2_ := Aside0.mk (Kd.Rc_mono (Kd.Rc_told (Kd.Rc_told (Kd.Rc_old (by (with_reducible repeat (first | apply Kd.Rc_alloc | apply Kd.Rc_drewN | apply Kd.Rc_drew)); exact HO_602002.out) hb) (Kd.Rc_base ho0)) (Kd.Rc_base ho1)) (fun _ h_ => h_.1))
            have n3_ := Aside0.mk (Kd.Rc_mono (Kd.Rc_told (Kd.Rc_told (Kd.Rc_old (by (with_reducible repeat (first | apply Kd.Rc_alloc | apply Kd.Rc_drewN | apply Kd.Rc_drew)); exact HO_602005.out) hb) (Kd.Rc_base ho0)) (Kd.Rc_base ho1)) (fun _ h_ => h_.1))
            have n4_ := Aside0.mk (Kd.Rc_lower (Kd.Rc_new' (Kd.Rc_new' (Kd.Rc_new' (Kd.Rc_new' ho0 (Kd.Rc_lt (by (with_reducible repeat (first | apply Kd.Rc_alloc | apply Kd.Rc_drewN | apply Kd.Rc_drew)); exact HO_4.out))) (Kd.Rc_lt (by (with_reducible repeat (first | apply Kd.Rc_alloc | apply Kd.Rc_drewN | apply Kd.Rc_drew)); exact HO_7.out))) (Kd.Rc_lt (by (with_reducible repeat (first | apply Kd.Rc_alloc | apply Kd.Rc_drewN | apply Kd.Rc_drew)); exact HO_602002.out))) (Kd.Rc_lt (by (with_reducible repeat (first | apply Kd.Rc_alloc | apply Kd.Rc_drewN | apply Kd.Rc_drew)); exact HO_602005.out))) (below_size (by repeat (first | (with_reducible first | exact HB.out | apply below_alloc | apply pw_below_drewN | apply below_drew1 | refine below_set ?_ GE575.out | refine below_set ?_ GE601.out) | exact HB.out))))
            have n5_ := Aside0.mk (Kd.Rc_lower (Kd.Rc_new' (Kd.Rc_new' (Kd.Rc_new' (Kd.Rc_new' ho1 (Kd.Rc_lt (by (with_reducible repeat (first | apply Kd.Rc_alloc | apply Kd.Rc_drewN | apply Kd.Rc_drew)); exact HO_4.out))) (Kd.Rc_lt (by (with_reducible repeat (first | apply Kd.Rc_alloc | apply Kd.Rc_drewN | apply Kd.Rc_drew)); exact HO_7.out))) (Kd.Rc_lt (by (with_reducible repeat (first | apply Kd.Rc_alloc | apply Kd.Rc_drewN | apply Kd.Rc_drew)); exact HO_602002.out))) (Kd.Rc_lt (by (with_reducible repeat (first | apply Kd.Rc_alloc | apply Kd.Rc_drewN | apply Kd.Rc_drew)); exact HO_602005.out))) (below_size (by repeat (first | (with_reducible first | exact HB.out | apply below_alloc | apply pw_below_drewN | apply below_drew1 | refine below_set ?_ GE575.out | refine below_set ?_ GE601.out) | exact HB.out))))
            have n6_ := Aside0.mk (blk_below (g := gb575) (o := .cells #[.int .u8 a0_0, .int .u8 a0_1, .slice A0_2 l0_2.length c0_2, .int .u8 a0_3, .int .u8 a0_4, .slice A0_5 l0_5.length c0_5] 47 (0, 0)) (by (with_reducible repeat (first | refine blk_drewN ?_ _ | refine blk_drew ?_ | refine blk_alloc ?_ _)); exact BK575.out) hb)
            have n7_ := Aside0.mk (blk_below (g := gb601) (o := .cells #[.int .u8 t591, .int .u8 t592, .slice Ao25 t593.length co25, .int .u8 t596, .int .u8 t597, .slice Ao26 t598.length co26] 52 (0, 0)) (by (with_reducible repeat (first | refine blk_drewN ?_ _ | refine blk_drew ?_ | refine blk_alloc ?_ _)); exact BK601.out) hb)
            have n8_ := Aside0.mk (below_step (by repeat (first | (with_reducible first | exact HB.out | apply below_alloc | apply pw_below_drewN | apply below_drew1 | refine below_set ?_ GE575.out | refine below_set ?_ GE601.out) | exact HB.out)) hb)
            clear HO_4
            clear HO_7
            clear HO_602002
            clear HO_602005
            clear BK575
            clear BK601
            clear HB
            have HO_4 := n0_
            have HO_7 := n1_
            have HO_602002 := n2_
            have HO_602005 := n3_
            have HO611 := n4_
            have HO616 := n5_
            have BK575 := n6_
            have BK601 := n7_
            have HB := n8_
            clear n0_ n1_ n2_ n3_ n4_ n5_ n6_ n7_ n8_
            (try clear hb)
            (try clear hb2)
            (try clear hk)
            (try clear hi)
            (try clear ho0)
            (try clear ho1)
            obtain ⟨Ao42, co42, eo42⟩ := Kd.Rc_slice HO611.out
            (first | subst eo42 | (injection eo42 with f1_ f2_ f3_; have f4_ := f1_.symm; have f5_ := f3_.symm; clear f1_ f2_ f3_; subst f4_; subst f5_))
            obtain ⟨Ao43, co43, eo43⟩ := Kd.Rc_slice HO616.out
            (first | subst eo43 | (injection eo43 with f1_ f2_ f3_; have f4_ := f1_.symm; have f5_ := f3_.symm; clear f1_ f2_ f3_; subst f4_; subst f5_))
            refine hK.out _ _ ⟨(blk_cell BK601.out 0).trans rfl, (blk_cell BK601.out 1).trans rfl, (blk_cell BK601.out 2).trans rfl, (blk_cell BK601.out 3).trans rfl, (blk_cell BK601.out 4).trans rfl, (blk_cell BK601.out 5).trans rfl, (blk_cell BK575.out 0).trans rfl, (blk_cell BK575.out 1).trans rfl, (blk_cell BK575.out 2).trans rfl, (blk_cell BK575.out 3).trans rfl, (blk_cell BK575.out 4).trans rfl, (blk_cell BK575.out 5).trans rfl⟩ (fun hHeld => ?_)
            clear hK K
            refine norm_ (a' := ?_) ?_ ?_
            rotate_left
            · show Act.put _ (some 43) _ = _
              simp only [Act.put, List.setIfInBounds_toArray, List.set_cons_zero, List.set_cons_succ, i64_w, i32_w]
              rfl
            refine one_ (i := 3) (N := some 44) #[true, true, true, true, false] rfl rfl (by kernel_rfl) (by decide) (fun K hK => ?_)
            refine goes_ Try.func42 (by kernel_rfl) rfl #[.agg #[.int .u8 t591, .int .u8 t592, .slice Ao25 t593.length co25, .int .u8 t596, .int .u8 t597, .slice Ao26 t598.length co26], .agg #[.int .u8 t607, .int .u8 t608, .slice Ao42 t609.length co42, .int .u8 t612, .int .u8 t613, .slice Ao43 t614.length co43]] (by rfl) rfl rfl (by (try simp only [List.map_toArray, List.map_cons, List.map_nil]); first | done | rfl | (simp only [List.length_drop, List.length_take]; rfl)) ?_
            with_reducible refine (laws_eqHoldRom.calls kj10 t591 t592 _ _ t593 t596 t597 _ _ t598 t607 t608 _ _ t609 t612 t613 _ _ t614 true _ ?side1 ?side2 ?side3 ?side4 ?side5 ?side6 ?side7 ?side8 A36.out).mono ?_
            (case side1 => repeat (first | exact (Kd.Rc_reads' HO_602002.out).2.2 | (with_reducible refine Kd.C_alloc ?_ _) | (with_reducible refine Kd.C_drewN ?_ _) | (with_reducible refine Kd.C_drew ?_)))
            (case side2 => exact (Kd.Rc_reads' HO_602002.out).2.1)
            (case side3 => repeat (first | exact (Kd.Rc_reads' HO_602005.out).2.2 | (with_reducible refine Kd.C_alloc ?_ _) | (with_reducible refine Kd.C_drewN ?_ _) | (with_reducible refine Kd.C_drew ?_)))
            (case side4 => exact (Kd.Rc_reads' HO_602005.out).2.1)
            (case side5 => repeat (first | exact (Kd.Rc_reads' HO611.out).2.2 | (with_reducible refine Kd.C_alloc ?_ _) | (with_reducible refine Kd.C_drewN ?_ _) | (with_reducible refine Kd.C_drew ?_)))
            (case side6 => exact (Kd.Rc_reads' HO611.out).2.1)
            (case side7 => repeat (first | exact (Kd.Rc_reads' HO616.out).2.2 | (with_reducible refine Kd.C_alloc ?_ _) | (with_reducible refine Kd.C_drewN ?_ _) | (with_reducible refine Kd.C_drew ?_)))
            (case side8 => exact (Kd.Rc_reads' HO616.out).2.1)
            rintro e w44 ⟨rfl, hb⟩
            refine ⟨_, rfl, ?_⟩
            have n0_ := Aside0.mk (Kd.Rc_below (by (with_reducible repeat (first | apply Kd.Rc_alloc | apply Kd.Rc_drewN | apply Kd.Rc_drew)); exact HO_4.out) hb)
            have n1_ := Aside0.mk (Kd.Rc_below (by (with_reducible repeat (first | apply Kd.Rc_alloc | apply Kd.Rc_drewN | apply Kd.Rc_drew)); exact HO_7.out) hb)
            have n2_ := Aside0.mk (Kd.Rc_below (by (with_reducible repeat (first | apply Kd.Rc_alloc | apply Kd.Rc_drewN | apply Kd.Rc_drew)); exact HO_602002.out) hb)
            have n3_ := Aside0.mk (Kd.Rc_below (by (with_reducible repeat (first | apply Kd.Rc_alloc | apply Kd.Rc_drewN | apply Kd.Rc_drew)); exact HO_602005.out) hb)
            have n4_ := Aside0.mk (Kd.Rc_below (by (with_reducible repeat (first | apply Kd.Rc_alloc | apply Kd.Rc_drewN | apply Kd.Rc_drew)); exact HO611.out) hb)
            have n5_ := Aside0.mk (Kd.Rc_below (by (with_reducible repeat (first | apply Kd.Rc_alloc | apply Kd.Rc_drewN | apply Kd.Rc_drew)); exact HO616.out) hb)
            have n6_ := Aside0.mk (blk_below (g := gb575) (o := .cells #[.int .u8 a0_0, .int .u8 a0_1, .slice A0_2 l0_2.length c0_2, .int .u8 a0_3, .int .u8 a0_4, .slice A0_5 l0_5.length c0_5] 47 (0, 0)) (by (with_reducible repeat (first | refine blk_drewN ?_ _ | refine blk_drew ?_ | refine blk_alloc ?_ _)); exact BK575.out) hb)
            have n7_ := Aside0.mk (blk_below (g := gb601) (o := .cells #[.int .u8 t591, .int .u8 t592, .slice Ao25 t593.length co25, .int .u8 t596, .int .u8 t597, .slice Ao26 t598.length co26] 52 (0, 0)) (by (with_reducible repeat (first | refine blk_drewN ?_ _ | refine blk_drew ?_ | refine blk_alloc ?_ _)); exact BK601.out) hb)
            have n8_ := Aside0.mk (below_step (by repeat (first | (with_reducible first | exact HB.out | apply below_alloc | apply pw_below_drewN | apply below_drew1 | refine below_set ?_ GE575.out | refine below_set ?_ GE601.out) | exact HB.out)) hb)
            clear HO_4
            clear HO_7
            clear HO_602002
            clear HO_602005
            clear HO611
            clear HO616
            clear BK575
            clear BK601
            clear HB
            have HO_4 := n0_
            have HO_7 := n1_
            have HO_602002 := n2_
            have HO_602005 := n3_
            have HO611 := n4_
            have HO616 := n5_
            have BK575 := n6_
            have BK601 := n7_
            have HB := n8_
            clear n0_ n1_ n2_ n3_ n4_ n5_ n6_ n7_ n8_
            (try clear hb)
            (try clear hb2)
            (try clear hk)
            (try clear hi)
            refine hK.out _ _ ⟨(blk_cell BK601.out 0).trans rfl, (blk_cell BK601.out 1).trans rfl, (blk_cell BK601.out 2).trans rfl, (blk_cell BK601.out 3).trans rfl, (blk_cell BK601.out 4).trans rfl, (blk_cell BK601.out 5).trans rfl, (blk_cell BK575.out 0).trans rfl, (blk_cell BK575.out 1).trans rfl, (blk_cell BK575.out 2).trans rfl, (blk_cell BK575.out 3).trans rfl, (blk_cell BK575.out 4).trans rfl, (blk_cell BK575.out 5).trans rfl⟩ (fun hHeld => ?_)
            clear hK K
            refine norm_ (a' := ?_) ?_ ?_
            rotate_left
            · show Act.put _ (some 44) _ = _
              simp only [Act.put, List.setIfInBounds_toArray, List.set_cons_zero, List.set_cons_succ, i64_w, i32_w]
              rfl
            refine pure_ (i := 4) (N := some 45) (v := ?_) (a' := ?_) #[true, true, true, true, true] rfl rfl (by kernel_rfl) (fun _ _ _ h => h) (Or.inl ⟨by rfl, ?_⟩) ?_ ?_
            rotate_left
            · intro w'
              go_simp
              with_reducible rfl
            rotate_left
            · simp only [Act.put, List.setIfInBounds_toArray, List.set_cons_zero, List.set_cons_succ, i64_w, i32_w]
              rfl
            refine done_ (by kernel_rfl) ?_
            have hnb45 := NB601_575.out
            have hnc45 := NB575_601.out
            have hcz46_0 : w44.cell? ⟨gb601, 0, none⟩ = some (.int .u8 t591) := (blk_cell BK601.out 0).trans rfl
            have hcz46_1 : w44.cell? ⟨gb601, 1, none⟩ = some (.int .u8 t592) := (blk_cell BK601.out 1).trans rfl
            have hcz46_2 : w44.cell? ⟨gb601, 2, none⟩ = some (.slice Ao25 t593.length co25) := (blk_cell BK601.out 2).trans rfl
            have hcz46_3 : w44.cell? ⟨gb601, 3, none⟩ = some (.int .u8 t596) := (blk_cell BK601.out 3).trans rfl
            have hcz46_4 : w44.cell? ⟨gb601, 4, none⟩ = some (.int .u8 t597) := (blk_cell BK601.out 4).trans rfl
            have hcz46_5 : w44.cell? ⟨gb601, 5, none⟩ = some (.slice Ao26 t598.length co26) := (blk_cell BK601.out 5).trans rfl
            have hfz46_0 := blk_frozen BK601.out 0
            have hfz46_1 := blk_frozen BK601.out 1
            have hfz46_2 := blk_frozen BK601.out 2
            have hfz46_3 := blk_frozen BK601.out 3
            have hfz46_4 := blk_frozen BK601.out 4
            have hfz46_5 := blk_frozen BK601.out 5
            go_upto_region 14 with (first | ((with_reducible refine gate_callee (f := 49) rfl ?_); refine goesL_ (some 48) rfl rfl Try.func49 (by kernel_rfl) rfl #[.agg #[.int .u8 t591, .int .u8 t592, .slice Ao25 t593.length co25, .int .u8 t596, .int .u8 t597, .slice Ao26 t598.length co26], .int .i64 1] rfl (by (try simp only [List.map_toArray, List.map_cons, List.map_nil]); first | done | rfl | (simp only [List.length_drop, List.length_take]; rfl)) ?_; (with_reducible refine (laws_markHoldRom.callsC kj10 t591 t592 (fun k_ => some k_ = (.slice Ao25 t593.length co25 : Value).ownBlock) (.slice Ao25 t593.length co25) t593 t596 t597 (fun k_ => some k_ = (.slice Ao26 t598.length co26 : Value).ownBlock) (.slice Ao26 t598.length co26) t598 1 t618 t619 t620 w _ ?side1 ?side2 ?side3 ?side4 ?side5 A38.out).mono ?_); (case side1 => repeat (first | (with_reducible first | exact HB.out | apply below_alloc | apply pw_below_drewN | apply below_drew1 | refine below_set ?_ GE575.out | refine below_set ?_ GE601.out) | exact HB.out)); (case side2 => exact Kd.Rc_tight rfl HO_602002.out); (case side3 => exact fun k_ e_ => (HO_602002.out.1 k_ e_.symm).1.1.2.2); (case side4 => exact Kd.Rc_tight rfl HO_602005.out); (case side5 => exact fun k_ e_ => (HO_602005.out.1 k_ e_.symm).1.1.2.2); rintro e w47 ⟨rfl, hy0, hy1, hb, hkp⟩; refine ⟨_, rfl, ?_⟩; have n0_ := Aside0.mk (Kd.Rc_mono (ok' := fun k_ => some k_ ≠ (v603 : Value).ownBlock ∧ some k_ ≠ (.slice Ao25 t593.length co25 : Value).ownBlock ∧ some k_ ≠ (.slice Ao26 t598.length co26 : Value).ownBlock ∧ some k_ ≠ (.slice Ao42 t609.length co42 : Value).ownBlock ∧ some k_ ≠ (.slice Ao43 t614.length co43 : Value).ownBlock) (Kd.Rc_keptB (HO_4.out) hkp (fun k_ hk_ hs_ => Or.elim hs_ (fun e_ => (hk_.1.1.2.1) e_) (fun e_ => (hk_.1.1.2.2) e_))) (fun k_ hk_ => ⟨hk_.1.1.1.1, hk_.1.1.1.2.1, hk_.1.1.1.2.2, hk_.1.1.2, hk_.1.2⟩)); have n1_ := Aside0.mk (Kd.Rc_mono (ok' := fun k_ => some k_ ≠ (v588 : Value).ownBlock ∧ some k_ ≠ (.slice Ao25 t593.length co25 : Value).ownBlock ∧ some k_ ≠ (.slice Ao26 t598.length co26 : Value).ownBlock ∧ some k_ ≠ (.slice Ao42 t609.length co42 : Value).ownBlock ∧ some k_ ≠ (.slice Ao43 t614.length co43 : Value).ownBlock) (Kd.Rc_keptB (HO_7.out) hkp (fun k_ hk_ hs_ => Or.elim hs_ (fun e_ => (hk_.1.1.2.1) e_) (fun e_ => (hk_.1.1.2.2) e_))) (fun k_ hk_ => ⟨hk_.1.1.1.1, hk_.1.1.1.2.1, hk_.1.1.1.2.2, hk_.1.1.2, hk_.1.2⟩)); have n2_ := Aside0.mk (Kd.Rc_reok rfl hy0 (fun k_ e_ => HO_602002.out.1 k_ e_)); have n3_ := Aside0.mk (Kd.Rc_reok rfl hy1 (fun k_ e_ => HO_602005.out.1 k_ e_)); have n4_ := Aside0.mk (blk_kept (by (with_reducible repeat (first | refine blk_drewN ?_ _ | refine blk_drew ?_ | refine blk_alloc ?_ _)); exact BK575.out) hkp (fun hs_ => Or.elim hs_ (fun e_ => (fun e_ => (Kd.Rc_ne HO_602002.out BK575.out (by decide)) e_) e_) (fun e_ => (fun e_ => (Kd.Rc_ne HO_602005.out BK575.out (by decide)) e_) e_))); have n5_ := Aside0.mk (blk_kept (by (with_reducible repeat (first | refine blk_drewN ?_ _ | refine blk_drew ?_ | refine blk_alloc ?_ _)); exact BK601.out) hkp (fun hs_ => Or.elim hs_ (fun e_ => (fun e_ => (Kd.Rc_ne HO_602002.out BK601.out (by decide)) e_) e_) (fun e_ => (fun e_ => (Kd.Rc_ne HO_602005.out BK601.out (by decide)) e_) e_))); have n6_ := Aside0.mk (Kd.Rc_mono (ok' := fun k_ => some k_ ≠ (v588 : Value).ownBlock ∧ some k_ ≠ (v603 : Value).ownBlock ∧ some k_ ≠ (.slice Ao25 t593.length co25 : Value).ownBlock ∧ some k_ ≠ (.slice Ao26 t598.length co26 : Value).ownBlock ∧ some k_ ≠ (.slice Ao43 t614.length co43 : Value).ownBlock) (Kd.Rc_keptB (HO611.out) hkp (fun k_ hk_ hs_ => Or.elim hs_ (fun e_ => (hk_.1.2) e_) (fun e_ => (hk_.2) e_))) (fun k_ hk_ => ⟨hk_.1.1.1.1.2, hk_.1.1.1.2, hk_.1.1.2, hk_.1.2, hk_.1.1.1.1.1⟩)); have n7_ := Aside0.mk (Kd.Rc_mono (ok' := fun k_ => some k_ ≠ (v588 : Value).ownBlock ∧ some k_ ≠ (v603 : Value).ownBlock ∧ some k_ ≠ (.slice Ao25 t593.length co25 : Value).ownBlock ∧ some k_ ≠ (.slice Ao26 t598.length co26 : Value).ownBlock ∧ some k_ ≠ (.slice Ao42 t609.length co42 : Value).ownBlock) (Kd.Rc_keptB (HO616.out) hkp (fun k_ hk_ hs_ => Or.elim hs_ (fun e_ => (hk_.1.2) e_) (fun e_ => (hk_.2) e_))) (fun k_ hk_ => ⟨hk_.1.1.1.1.2, hk_.1.1.1.2, hk_.1.1.2, hk_.1.2, hk_.1.1.1.1.1⟩)); have n8_ := Aside0.mk (hb); clear HO_4; clear HO_7; clear HO_602002; clear HO_602005; clear BK575; clear BK601; clear HO611; clear HO616; clear HB; have HO_4 := n0_; have HO_7 := n1_; have HO_602002 := n2_; have HO_602005 := n3_; have BK575 := n4_; have BK601 := n5_; have HO611 := n6_; have HO616 := n7_; have HB := n8_; clear n0_ n1_ n2_ n3_ n4_ n5_ n6_ n7_ n8_; (try clear hb); (try clear hkp); (try clear hy0); (try clear hy1)))
            (try simp only [Act.put, List.setIfInBounds_toArray, List.set_cons_zero, List.set_cons_succ])
            go_cut [61] (fun v61 wc => ∃ (kq : Nat) (x61_38 : Bool), v61 = .bool x61_38 ∧ Aside0 (laws_FnExactHoldNow.j1 kq t587 t590 t602 x61_38 a0_0 a0_1 l0_2 a0_3 a0_4 l0_5 = some r) ∧ Aside0 (kq ≤ kj10) ∧ Aside0 (Kd.Rc (Kd.int .u8) 5 wc w.heap.size (fun k_ => some k_ ≠ (v603 : Value).ownBlock ∧ some k_ ≠ ((.slice Ao25 t593.length co25) : Value).ownBlock ∧ some k_ ≠ ((.slice Ao26 t598.length co26) : Value).ownBlock) v588 t587) ∧ Aside0 (Kd.Rc (Kd.int .u8) 5 wc w.heap.size (fun k_ => some k_ ≠ (v588 : Value).ownBlock ∧ some k_ ≠ ((.slice Ao25 t593.length co25) : Value).ownBlock ∧ some k_ ≠ ((.slice Ao26 t598.length co26) : Value).ownBlock) v603 t602) ∧ Aside0 (Kd.Rc (Kd.int .u8) 5 wc w.heap.size (fun k_ => some k_ ≠ (v588 : Value).ownBlock ∧ some k_ ≠ (v603 : Value).ownBlock ∧ some k_ ≠ ((.slice Ao26 t598.length co26) : Value).ownBlock) (.slice Ao25 t593.length co25) t619) ∧ Aside0 (Kd.Rc (Kd.int .u8) 5 wc w.heap.size (fun k_ => some k_ ≠ (v588 : Value).ownBlock ∧ some k_ ≠ (v603 : Value).ownBlock ∧ some k_ ≠ ((.slice Ao25 t593.length co25) : Value).ownBlock) (.slice Ao26 t598.length co26) t620) ∧ Aside0 (wc.heap[gb575]? = some (.cells #[.int .u8 a0_0, .int .u8 a0_1, (.slice A0_2 l0_2.length c0_2), .int .u8 a0_3, .int .u8 a0_4, (.slice A0_5 l0_5.length c0_5)] 47 (0, 0))) ∧ Aside0 (wc.heap[gb601]? = some (.cells #[.int .u8 t591, .int .u8 t592, (.slice Ao25 t593.length co25), .int .u8 t596, .int .u8 t597, (.slice Ao26 t598.length co26)] 52 (0, 0))) ∧ Aside0 (Below w.heap.size w wc))
            case first =>
              have H := HC39.out
              clear HC39
              by_cases c48 : t618 < 0
              · rw [if_pos c48] at H
                have c48b0 : decide (t618 < 0) = true := decide_eq_true c48
                clear c48
                (first | rw [c48b0] | (simp only [i64_w, i32_w]; rw [c48b0]) | skip)
                have H' := Aside0.mk H
                clear H
                go_wp2
                go_meet
                case rel => exact ⟨_, (true), (by first | rfl | (simp; done) | (simp [*]; done)), H', ⟨by have := HJ10.out; first | omega | exact Nat.le_refl _⟩, ⟨by (with_reducible repeat (first | apply Kd.Rc_alloc | apply Kd.Rc_drewN | apply Kd.Rc_drew)); exact Kd.Rc_mono HO_4.out (fun _ hk => ⟨hk.1, ⟨hk.2.1, hk.2.2.1⟩⟩)⟩, ⟨by (with_reducible repeat (first | apply Kd.Rc_alloc | apply Kd.Rc_drewN | apply Kd.Rc_drew)); exact Kd.Rc_mono HO_7.out (fun _ hk => ⟨hk.1, ⟨hk.2.1, hk.2.2.1⟩⟩)⟩, ⟨by (with_reducible repeat (first | apply Kd.Rc_alloc | apply Kd.Rc_drewN | apply Kd.Rc_drew)); exact Kd.Rc_mono HO_602002.out (fun _ hk => ⟨hk.1.1.1, ⟨hk.1.1.2.1, hk.1.1.2.2⟩⟩)⟩, ⟨by (with_reducible repeat (first | apply Kd.Rc_alloc | apply Kd.Rc_drewN | apply Kd.Rc_drew)); exact Kd.Rc_mono HO_602005.out (fun _ hk => ⟨hk.1.1.1, ⟨hk.1.1.2.1, hk.1.1.2.2⟩⟩)⟩, ⟨by (with_reducible repeat (first | refine blk_drewN ?_ _ | refine blk_drew ?_ | refine blk_alloc ?_ _)); exact BK575.out⟩, ⟨by (with_reducible repeat (first | refine blk_drewN ?_ _ | refine blk_drew ?_ | refine blk_alloc ?_ _)); exact BK601.out⟩, ⟨by repeat (first | (with_reducible first | exact HB.out | apply below_alloc | apply pw_below_drewN | apply below_drew1 | refine below_set ?_ GE575.out | refine below_set ?_ GE601.out) | exact HB.out)⟩⟩
              · rw [if_neg c48] at H
                have c48b0 : decide (t618 < 0) = false := decide_eq_false c48
                clear c48
                (first | rw [c48b0] | (simp only [i64_w, i32_w]; rw [c48b0]) | skip)
                replace H := Option.bind_eq_some_iff.mp H
                obtain ⟨t621, A490, H⟩ := H
                replace H : (if t621 = true then (laws_FnExactHoldNow.j1 kj10 t587 t590 t602 (t605 != t590) a0_0 a0_1 l0_2 a0_3 a0_4 l0_5) else (laws_FnExactHoldNow.j1 kj10 t587 t590 t602 true a0_0 a0_1 l0_2 a0_3 a0_4 l0_5)) = some r := H
                have A49 := Aside0.mk A490
                clear A490
                by_cases c50 : t621 = true
                · subst c50
                  have H1 : (laws_FnExactHoldNow.j1 kj10 t587 t590 t602 (t605 != t590) a0_0 a0_1 l0_2 a0_3 a0_4 l0_5) = some r := by rw [if_pos rfl] at H; exact H
                  clear H
                  have H := H1
                  clear H1
                  have H' := Aside0.mk H
                  clear H
                  obtain ⟨Ao51, co51, eo51⟩ := Kd.Rc_slice HO_7.out
                  subst eo51
                  obtain ⟨Ao52, co52, eo52⟩ := Kd.Rc_slice HO_4.out
                  subst eo52
                  go_wp2_with (first | (go_at_call 20; (with_reducible refine (laws_eqByteS.calls kj10 _ _ t602 _ _ t587 true _ ?side1 ?side2 ?side3 ?side4 A49.out).mono ?_); (case side1 => repeat (first | exact (Kd.Rc_reads' HO_7.out).2.2 | (with_reducible refine Kd.C_alloc ?_ _) | (with_reducible refine Kd.C_drewN ?_ _) | (with_reducible refine Kd.C_drew ?_))); (case side2 => exact (Kd.Rc_reads' HO_7.out).2.1); (case side3 => repeat (first | exact (Kd.Rc_reads' HO_4.out).2.2 | (with_reducible refine Kd.C_alloc ?_ _) | (with_reducible refine Kd.C_drewN ?_ _) | (with_reducible refine Kd.C_drew ?_))); (case side4 => exact (Kd.Rc_reads' HO_4.out).2.1); rintro e w' ⟨rfl, ⟨nd, rfl⟩⟩))
                  go_meet
                  case rel => exact ⟨_, ((t605 != t590)), (by first | rfl | (simp; done) | (simp [*]; done)), H', ⟨by have := HJ10.out; first | omega | exact Nat.le_refl _⟩, ⟨by (with_reducible repeat (first | apply Kd.Rc_alloc | apply Kd.Rc_drewN | apply Kd.Rc_drew)); exact Kd.Rc_mono HO_4.out (fun _ hk => ⟨hk.1, ⟨hk.2.1, hk.2.2.1⟩⟩)⟩, ⟨by (with_reducible repeat (first | apply Kd.Rc_alloc | apply Kd.Rc_drewN | apply Kd.Rc_drew)); exact Kd.Rc_mono HO_7.out (fun _ hk => ⟨hk.1, ⟨hk.2.1, hk.2.2.1⟩⟩)⟩, ⟨by (with_reducible repeat (first | apply Kd.Rc_alloc | apply Kd.Rc_drewN | apply Kd.Rc_drew)); exact Kd.Rc_mono HO_602002.out (fun _ hk => ⟨hk.1.1.1, ⟨hk.1.1.2.1, hk.1.1.2.2⟩⟩)⟩, ⟨by (with_reducible repeat (first | apply Kd.Rc_alloc | apply Kd.Rc_drewN | apply Kd.Rc_drew)); exact Kd.Rc_mono HO_602005.out (fun _ hk => ⟨hk.1.1.1, ⟨hk.1.1.2.1, hk.1.1.2.2⟩⟩)⟩, ⟨by (with_reducible repeat (first | refine blk_drewN ?_ _ | refine blk_drew ?_ | refine blk_alloc ?_ _)); exact BK575.out⟩, ⟨by (with_reducible repeat (first | refine blk_drewN ?_ _ | refine blk_drew ?_ | refine blk_alloc ?_ _)); exact BK601.out⟩, ⟨by repeat (first | (with_reducible first | exact HB.out | apply below_alloc | apply pw_below_drewN | apply below_drew1 | refine below_set ?_ GE575.out | refine below_set ?_ GE601.out) | exact HB.out)⟩⟩
                · replace c50 := Bool.eq_false_iff.mpr c50
                  subst c50
                  have H1 : (laws_FnExactHoldNow.j1 kj10 t587 t590 t602 true a0_0 a0_1 l0_2 a0_3 a0_4 l0_5) = some r := by rw [if_neg (show ¬ (false = true) by decide)] at H; exact H
                  clear H
                  have H := H1
                  clear H1
                  have H' := Aside0.mk H
                  clear H
                  obtain ⟨Ao53, co53, eo53⟩ := Kd.Rc_slice HO_7.out
                  subst eo53
                  obtain ⟨Ao54, co54, eo54⟩ := Kd.Rc_slice HO_4.out
                  subst eo54
                  go_wp2_with (first | (go_at_call 20; (with_reducible refine (laws_eqByteS.calls kj10 _ _ t602 _ _ t587 false _ ?side1 ?side2 ?side3 ?side4 A49.out).mono ?_); (case side1 => repeat (first | exact (Kd.Rc_reads' HO_7.out).2.2 | (with_reducible refine Kd.C_alloc ?_ _) | (with_reducible refine Kd.C_drewN ?_ _) | (with_reducible refine Kd.C_drew ?_))); (case side2 => exact (Kd.Rc_reads' HO_7.out).2.1); (case side3 => repeat (first | exact (Kd.Rc_reads' HO_4.out).2.2 | (with_reducible refine Kd.C_alloc ?_ _) | (with_reducible refine Kd.C_drewN ?_ _) | (with_reducible refine Kd.C_drew ?_))); (case side4 => exact (Kd.Rc_reads' HO_4.out).2.1); rintro e w' ⟨rfl, ⟨nd, rfl⟩⟩))
                  go_meet
                  case rel => exact ⟨_, (true), (by first | rfl | (simp; done) | (simp [*]; done)), H', ⟨by have := HJ10.out; first | omega | exact Nat.le_refl _⟩, ⟨by (with_reducible repeat (first | apply Kd.Rc_alloc | apply Kd.Rc_drewN | apply Kd.Rc_drew)); exact Kd.Rc_mono HO_4.out (fun _ hk => ⟨hk.1, ⟨hk.2.1, hk.2.2.1⟩⟩)⟩, ⟨by (with_reducible repeat (first | apply Kd.Rc_alloc | apply Kd.Rc_drewN | apply Kd.Rc_drew)); exact Kd.Rc_mono HO_7.out (fun _ hk => ⟨hk.1, ⟨hk.2.1, hk.2.2.1⟩⟩)⟩, ⟨by (with_reducible repeat (first | apply Kd.Rc_alloc | apply Kd.Rc_drewN | apply Kd.Rc_drew)); exact Kd.Rc_mono HO_602002.out (fun _ hk => ⟨hk.1.1.1, ⟨hk.1.1.2.1, hk.1.1.2.2⟩⟩)⟩, ⟨by (with_reducible repeat (first | apply Kd.Rc_alloc | apply Kd.Rc_drewN | apply Kd.Rc_drew)); exact Kd.Rc_mono HO_602005.out (fun _ hk => ⟨hk.1.1.1, ⟨hk.1.1.2.1, hk.1.1.2.2⟩⟩)⟩, ⟨by (with_reducible repeat (first | refine blk_drewN ?_ _ | refine blk_drew ?_ | refine blk_alloc ?_ _)); exact BK575.out⟩, ⟨by (with_reducible repeat (first | refine blk_drewN ?_ _ | refine blk_drew ?_ | refine blk_alloc ?_ _)); exact BK601.out⟩, ⟨by repeat (first | (with_reducible first | exact HB.out | apply below_alloc | apply pw_below_drewN | apply below_drew1 | refine below_set ?_ GE575.out | refine below_set ?_ GE601.out) | exact HB.out)⟩⟩
            case rest =>
              clear HC39
              try clear c1
              try clear c2
              try clear p2
              try clear c3
              try clear c3b0
              try clear c4
              try clear c5
              try clear c12
              try clear c20
              try clear c23
              try clear c29
              try clear c34
              try clear c37
              try clear c38
              try clear c40
              try clear c42
              try clear c45
              try clear c47
              try clear c48
              try clear c48b0
              try clear c49
              try clear c50
              try clear hcz13_0
              try clear hcz13_1
              try clear hcz13_2
              try clear hcz13_3
              try clear hcz13_4
              try clear hcz13_5
              try clear hcz15_0
              try clear hcz15_1
              try clear hcz15_2
              try clear hcz15_3
              try clear hcz15_4
              try clear hcz15_5
              try clear hcz20_0
              try clear hcz20_1
              try clear hcz20_2
              try clear hcz20_3
              try clear hcz20_4
              try clear hcz20_5
              try clear hcz24_0
              try clear hcz24_1
              try clear hcz24_2
              try clear hcz24_3
              try clear hcz24_4
              try clear hcz24_5
              try clear hcz46_0
              try clear hcz46_1
              try clear hcz46_2
              try clear hcz46_3
              try clear hcz46_4
              try clear hcz46_5
              try clear hcz5_0
              try clear hcz5_1
              try clear hcz5_2
              try clear hcz5_3
              try clear hcz5_4
              try clear hcz5_5
              try clear hfz13_0
              try clear hfz13_1
              try clear hfz13_2
              try clear hfz13_3
              try clear hfz13_4
              try clear hfz13_5
              try clear hfz15_0
              try clear hfz15_1
              try clear hfz15_2
              try clear hfz15_3
              try clear hfz15_4
              try clear hfz15_5
              try clear hfz20_0
              try clear hfz20_1
              try clear hfz20_2
              try clear hfz20_3
              try clear hfz20_4
              try clear hfz20_5
              try clear hfz24_0
              try clear hfz24_1
              try clear hfz24_2
              try clear hfz24_3
              try clear hfz24_4
              try clear hfz24_5
              try clear hfz46_0
              try clear hfz46_1
              try clear hfz46_2
              try clear hfz46_3
              try clear hfz46_4
              try clear hfz46_5
              try clear hfz5_0
              try clear hfz5_1
              try clear hfz5_2
              try clear hfz5_3
              try clear hfz5_4
              try clear hfz5_5
              try clear p2
              obtain ⟨kq, x61_38, rfl, HA, HJ38, HO_4, HO_7, HO_602002, HO_602005, BK575, BK601, HB⟩ := hcut
              have hl602002_38 := (Kd.Rc_reads' HO_602002.out).1
              rw [hl602002_38] at HO_602002
              (try simp only [hl602002_38])
              (try simp only [hl602002_38] at BK575)
              (try simp only [hl602002_38] at BK601)
              (try simp only [hl602002_38] at HO_4)
              (try simp only [hl602002_38] at HO_7)
              (try simp only [hl602002_38] at HO_602005)
              have hl602005_38 := (Kd.Rc_reads' HO_602005.out).1
              rw [hl602005_38] at HO_602005
              (try simp only [hl602005_38])
              (try simp only [hl602005_38] at BK575)
              (try simp only [hl602005_38] at BK601)
              (try simp only [hl602005_38] at HO_4)
              (try simp only [hl602005_38] at HO_7)
              (try simp only [hl602005_38] at HO_602002)
              cases kq with
              | zero => exact absurd HA.out (by simp [laws_FnExactHoldNow.j1])
              | succ kj38 =>
                have H := HA.out
                clear HA
                simp only [laws_FnExactHoldNow.j1] at H
                by_cases c55 : x61_38 = true
                · subst c55
                  have H1 : (some false) = some r := by rw [if_pos rfl] at H; exact H
                  clear H
                  have H := H1
                  clear H1
                  obtain rfl := Option.some.inj H
                  go_wp2
                  go_ret
                  exact ⟨by first | rfl | (simp [errW_none, errW_some] <;> rfl) | (simp [*, errW_none, errW_some] <;> rfl), by repeat (first | (with_reducible first | exact HB.out | apply below_alloc | apply pw_below_drewN | apply below_drew1 | refine below_set ?_ GE575.out | refine below_set ?_ GE601.out) | exact HB.out)⟩
                · replace c55 := Bool.eq_false_iff.mpr c55
                  subst c55
                  have H1 : ((laws_markByteS.f kj38 t602 1).bind fun bt622 => ((laws_heldByteS.f kj38 bt622.2 1).bind fun t624 => (if t624 < 0 then (some false) else (if t624 = bt622.1 then ((laws_toHoldRom.f kj38 a0_0 a0_1 l0_2 a0_3 a0_4 l0_5).bind fun bt625 => ((impl_HoldNow.f kj38 bt625.1 bt625.2.1 bt625.2.2.1 bt625.2.2.2.1 bt625.2.2.2.2.1 bt625.2.2.2.2.2).bind fun bt635 => ((laws_eqByteS.f kj38 bt635.1 t587).bind fun t639 => (if t639 = true then (laws_FnExactHoldNow.j2 kj38 bt622.2 bt622.1 (bt635.2 != t590)) else (laws_FnExactHoldNow.j2 kj38 bt622.2 bt622.1 true))))) else (some false))))) = some r := by rw [if_neg (show ¬ (false = true) by decide)] at H; exact H
                  clear H
                  have H := H1
                  clear H1
                  replace H := Option.bind_eq_some_iff.mp H
                  obtain ⟨⟨t622, t623⟩, A560, H⟩ := H
                  replace H : ((laws_heldByteS.f kj38 t623 1).bind fun t624 => (if t624 < 0 then (some false) else (if t624 = t622 then ((laws_toHoldRom.f kj38 a0_0 a0_1 l0_2 a0_3 a0_4 l0_5).bind fun bt625 => ((impl_HoldNow.f kj38 bt625.1 bt625.2.1 bt625.2.2.1 bt625.2.2.2.1 bt625.2.2.2.2.1 bt625.2.2.2.2.2).bind fun bt635 => ((laws_eqByteS.f kj38 bt635.1 t587).bind fun t639 => (if t639 = true then (laws_FnExactHoldNow.j2 kj38 t623 t622 (bt635.2 != t590)) else (laws_FnExactHoldNow.j2 kj38 t623 t622 true))))) else (some false)))) = some r := H
                  have A56 := Aside0.mk A560
                  clear A560
                  replace H := Option.bind_eq_some_iff.mp H
                  obtain ⟨t624, A570, H⟩ := H
                  replace H : (if t624 < 0 then (some false) else (if t624 = t622 then ((laws_toHoldRom.f kj38 a0_0 a0_1 l0_2 a0_3 a0_4 l0_5).bind fun bt625 => ((impl_HoldNow.f kj38 bt625.1 bt625.2.1 bt625.2.2.1 bt625.2.2.2.1 bt625.2.2.2.2.1 bt625.2.2.2.2.2).bind fun bt635 => ((laws_eqByteS.f kj38 bt635.1 t587).bind fun t639 => (if t639 = true then (laws_FnExactHoldNow.j2 kj38 t623 t622 (bt635.2 != t590)) else (laws_FnExactHoldNow.j2 kj38 t623 t622 true))))) else (some false))) = some r := H
                  have A57 := Aside0.mk A570
                  clear A570
                  by_cases c58 : t624 < 0
                  · rw [if_pos c58] at H
                    have c58b0 : decide (t624 < 0) = true := decide_eq_true c58
                    clear c58
                    obtain rfl := Option.some.inj H
                    obtain ⟨Ao59, co59, eo59⟩ := Kd.Rc_slice HO_7.out
                    subst eo59
                    go_wp2_with (first | ((with_reducible refine gate_callee (f := 27) rfl ?_); refine goesL_ (some 64) rfl rfl Try.func27 (by kernel_rfl) rfl #[.slice Ao59 t602.length co59, .int .i64 1] rfl (by (try simp only [List.map_toArray, List.map_cons, List.map_nil]); first | done | rfl | (simp only [List.length_drop, List.length_take]; rfl)) ?_; (with_reducible refine (laws_markByteS.callsC kj38 (fun k_ => some k_ = (.slice Ao59 t602.length co59 : Value).ownBlock) (.slice Ao59 t602.length co59) t602 1 t622 t623 w _ ?side1 ?side2 A56.out).mono ?_); (case side1 => repeat (first | (with_reducible first | exact HB.out | apply below_alloc | apply pw_below_drewN | apply below_drew1 | refine below_set ?_ GE575.out | refine below_set ?_ GE601.out) | exact HB.out)); (case side2 => exact Kd.Rc_tight rfl HO_7.out); rintro e w60 ⟨rfl, hy0, hb, hkp⟩; refine ⟨_, rfl, ?_⟩; have n0_ := Aside0.mk (Kd.Rc_mono (ok' := fun k_ => some k_ ≠ (.slice Ao59 t602.length co59 : Value).ownBlock ∧ some k_ ≠ (.slice Ao25 t619.length co25 : Value).ownBlock ∧ some k_ ≠ (.slice Ao26 t620.length co26 : Value).ownBlock) (Kd.Rc_keptB (HO_4.out) hkp (fun k_ hk_ hs_ => (hk_.1) hs_)) (fun k_ hk_ => ⟨hk_.1.1, hk_.1.2.1, hk_.1.2.2⟩)); have n1_ := Aside0.mk (Kd.Rc_reok rfl hy0 (fun k_ e_ => HO_7.out.1 k_ e_)); have n2_ := Aside0.mk (Kd.Rc_mono (ok' := fun k_ => some k_ ≠ (v588 : Value).ownBlock ∧ some k_ ≠ (.slice Ao59 t602.length co59 : Value).ownBlock ∧ some k_ ≠ (.slice Ao26 t620.length co26 : Value).ownBlock) (Kd.Rc_keptB (HO_602002.out) hkp (fun k_ hk_ hs_ => (hk_.2.1) hs_)) (fun k_ hk_ => ⟨hk_.1.1, hk_.1.2.1, hk_.1.2.2⟩)); have n3_ := Aside0.mk (Kd.Rc_mono (ok' := fun k_ => some k_ ≠ (v588 : Value).ownBlock ∧ some k_ ≠ (.slice Ao59 t602.length co59 : Value).ownBlock ∧ some k_ ≠ (.slice Ao25 t619.length co25 : Value).ownBlock) (Kd.Rc_keptB (HO_602005.out) hkp (fun k_ hk_ hs_ => (hk_.2.1) hs_)) (fun k_ hk_ => ⟨hk_.1.1, hk_.1.2.1, hk_.1.2.2⟩)); have n4_ := Aside0.mk (blk_kept (by (with_reducible repeat (first | refine blk_drewN ?_ _ | refine blk_drew ?_ | refine blk_alloc ?_ _)); exact BK575.out) hkp (fun hs_ => (fun e_ => (Kd.Rc_ne HO_7.out BK575.out (by decide)) e_) hs_)); have n5_ := Aside0.mk (blk_kept (by (with_reducible repeat (first | refine blk_drewN ?_ _ | refine blk_drew ?_ | refine blk_alloc ?_ _)); exact BK601.out) hkp (fun hs_ => (fun e_ => (Kd.Rc_ne HO_7.out BK601.out (by decide)) e_) hs_)); have n6_ := Aside0.mk (hb); clear HO_4; clear HO_7; clear HO_602002; clear HO_602005; clear BK575; clear BK601; clear HB; have HO_4 := n0_; have HO_7 := n1_; have HO_602002 := n2_; have HO_602005 := n3_; have BK575 := n4_; have BK601 := n5_; have HB := n6_; clear n0_ n1_ n2_ n3_ n4_ n5_ n6_; (try clear hb); (try clear hkp); (try clear hy0)) | ((with_reducible refine gate_callee (f := 28) rfl ?_); refine goesL_ (some 67) rfl rfl Try.func28 (by kernel_rfl) rfl #[.slice Ao59 t623.length co59, .int .i64 1] rfl (by (try simp only [List.map_toArray, List.map_cons, List.map_nil]); first | done | (rw [show t623.length = t602.length from (Kd.Rc_reads' HO_7.out).1.symm] <;> rfl) | rfl | (simp only [List.length_drop, List.length_take]; rfl)) ?_; (with_reducible refine (laws_heldByteS.calls kj38 _ _ t623 1 t624 _ ?side1 ?side2 A57.out).mono ?_); (case side1 => repeat (first | exact (Kd.Rc_reads' HO_7.out).2.2 | (with_reducible refine Kd.C_alloc ?_ _) | (with_reducible refine Kd.C_drewN ?_ _) | (with_reducible refine Kd.C_drew ?_))); (case side2 => rw [show t623.length = t602.length from (Kd.Rc_reads' HO_7.out).1.symm]; exact (Kd.Rc_reads' HO_7.out).2.1); rintro e w' ⟨rfl, ⟨nd, rfl⟩⟩; refine ⟨_, rfl, ?_⟩))
                    go_ret
                    exact ⟨by first | rfl | (simp [errW_none, errW_some] <;> rfl) | (simp [*, errW_none, errW_some] <;> rfl), by repeat (first | (with_reducible first | exact HB.out | apply below_alloc | apply pw_below_drewN | apply below_drew1 | refine below_set ?_ GE575.out | refine below_set ?_ GE601.out) | exact HB.out)⟩
                  · rw [if_neg c58] at H
                    have c58b0 : decide (t624 < 0) = false := decide_eq_false c58
                    clear c58
                    by_cases c61 : t624 = t622
                    · rw [if_pos c61] at H
                      have c61b0 : (t624 == t622) = true := beq_iff_eq.mpr c61
                      have c61b1 : (t624 != t622) = false := bne_eq_false_iff_eq.mpr c61
                      clear c61
                      replace H := Option.bind_eq_some_iff.mp H
                      obtain ⟨⟨t625, t626, t627, t630, t631, t632⟩, A620, H⟩ := H
                      replace H : ((impl_HoldNow.f kj38 t625 t626 t627 t630 t631 t632).bind fun bt635 => ((laws_eqByteS.f kj38 bt635.1 t587).bind fun t639 => (if t639 = true then (laws_FnExactHoldNow.j2 kj38 t623 t622 (bt635.2 != t590)) else (laws_FnExactHoldNow.j2 kj38 t623 t622 true)))) = some r := H
                      have A62 := Aside0.mk A620
                      clear A620
                      replace H := Option.bind_eq_some_iff.mp H
                      obtain ⟨⟨t635, t638⟩, A630, H⟩ := H
                      replace H : ((laws_eqByteS.f kj38 t635 t587).bind fun t639 => (if t639 = true then (laws_FnExactHoldNow.j2 kj38 t623 t622 (t638 != t590)) else (laws_FnExactHoldNow.j2 kj38 t623 t622 true))) = some r := H
                      have A63 := Aside0.mk A630
                      clear A630
                      have HC64 := Aside0.mk H
                      clear H
                      obtain ⟨Ao65, co65, eo65⟩ := Kd.Rc_slice HO_7.out
                      subst eo65
                      go_upto_region 25 with (first | ((with_reducible refine gate_callee (f := 27) rfl ?_); refine goesL_ (some 64) rfl rfl Try.func27 (by kernel_rfl) rfl #[.slice Ao65 t602.length co65, .int .i64 1] rfl (by (try simp only [List.map_toArray, List.map_cons, List.map_nil]); first | done | rfl | (simp only [List.length_drop, List.length_take]; rfl)) ?_; (with_reducible refine (laws_markByteS.callsC kj38 (fun k_ => some k_ = (.slice Ao65 t602.length co65 : Value).ownBlock) (.slice Ao65 t602.length co65) t602 1 t622 t623 w _ ?side1 ?side2 A56.out).mono ?_); (case side1 => repeat (first | (with_reducible first | exact HB.out | apply below_alloc | apply pw_below_drewN | apply below_drew1 | refine below_set ?_ GE575.out | refine below_set ?_ GE601.out) | exact HB.out)); (case side2 => exact Kd.Rc_tight rfl HO_7.out); rintro e w66 ⟨rfl, hy0, hb, hkp⟩; refine ⟨_, rfl, ?_⟩; have n0_ := Aside0.mk (Kd.Rc_mono (ok' := fun k_ => some k_ ≠ (.slice Ao65 t602.length co65 : Value).ownBlock ∧ some k_ ≠ (.slice Ao25 t619.length co25 : Value).ownBlock ∧ some k_ ≠ (.slice Ao26 t620.length co26 : Value).ownBlock) (Kd.Rc_keptB (HO_4.out) hkp (fun k_ hk_ hs_ => (hk_.1) hs_)) (fun k_ hk_ => ⟨hk_.1.1, hk_.1.2.1, hk_.1.2.2⟩)); have n1_ := Aside0.mk (Kd.Rc_reok rfl hy0 (fun k_ e_ => HO_7.out.1 k_ e_)); have n2_ := Aside0.mk (Kd.Rc_mono (ok' := fun k_ => some k_ ≠ (v588 : Value).ownBlock ∧ some k_ ≠ (.slice Ao65 t602.length co65 : Value).ownBlock ∧ some k_ ≠ (.slice Ao26 t620.length co26 : Value).ownBlock) (Kd.Rc_keptB (HO_602002.out) hkp (fun k_ hk_ hs_ => (hk_.2.1) hs_)) (fun k_ hk_ => ⟨hk_.1.1, hk_.1.2.1, hk_.1.2.2⟩)); have n3_ := Aside0.mk (Kd.Rc_mono (ok' := fun k_ => some k_ ≠ (v588 : Value).ownBlock ∧ some k_ ≠ (.slice Ao65 t602.length co65 : Value).ownBlock ∧ some k_ ≠ (.slice Ao25 t619.length co25 : Value).ownBlock) (Kd.Rc_keptB (HO_602005.out) hkp (fun k_ hk_ hs_ => (hk_.2.1) hs_)) (fun k_ hk_ => ⟨hk_.1.1, hk_.1.2.1, hk_.1.2.2⟩)); have n4_ := Aside0.mk (blk_kept (by (with_reducible repeat (first | refine blk_drewN ?_ _ | refine blk_drew ?_ | refine blk_alloc ?_ _)); exact BK575.out) hkp (fun hs_ => (fun e_ => (Kd.Rc_ne HO_7.out BK575.out (by decide)) e_) hs_)); have n5_ := Aside0.mk (blk_kept (by (with_reducible repeat (first | refine blk_drewN ?_ _ | refine blk_drew ?_ | refine blk_alloc ?_ _)); exact BK601.out) hkp (fun hs_ => (fun e_ => (Kd.Rc_ne HO_7.out BK601.out (by decide)) e_) hs_)); have n6_ := Aside0.mk (hb); clear HO_4; clear HO_7; clear HO_602002; clear HO_602005; clear BK575; clear BK601; clear HB; have HO_4 := n0_; have HO_7 := n1_; have HO_602002 := n2_; have HO_602005 := n3_; have BK575 := n4_; have BK601 := n5_; have HB := n6_; clear n0_ n1_ n2_ n3_ n4_ n5_ n6_; (try clear hb); (try clear hkp); (try clear hy0)) | ((with_reducible refine gate_callee (f := 28) rfl ?_); refine goesL_ (some 67) rfl rfl Try.func28 (by kernel_rfl) rfl #[.slice Ao65 t623.length co65, .int .i64 1] rfl (by (try simp only [List.map_toArray, List.map_cons, List.map_nil]); first | done | (rw [show t623.length = t602.length from (Kd.Rc_reads' HO_7.out).1.symm] <;> rfl) | rfl | (simp only [List.length_drop, List.length_take]; rfl)) ?_; (with_reducible refine (laws_heldByteS.calls kj38 _ _ t623 1 t624 _ ?side1 ?side2 A57.out).mono ?_); (case side1 => repeat (first | exact (Kd.Rc_reads' HO_7.out).2.2 | (with_reducible refine Kd.C_alloc ?_ _) | (with_reducible refine Kd.C_drewN ?_ _) | (with_reducible refine Kd.C_drew ?_))); (case side2 => rw [show t623.length = t602.length from (Kd.Rc_reads' HO_7.out).1.symm]; exact (Kd.Rc_reads' HO_7.out).2.1); rintro e w' ⟨rfl, ⟨nd, rfl⟩⟩; refine ⟨_, rfl, ?_⟩; have hnb67 := NB575_601.out; have hnc67 := NB601_575.out; have hcz68_0 : w66.cell? ⟨gb575, 0, none⟩ = some (.int .u8 a0_0) := (blk_cell BK575.out 0).trans rfl; have hcz68_1 : w66.cell? ⟨gb575, 1, none⟩ = some (.int .u8 a0_1) := (blk_cell BK575.out 1).trans rfl; have hcz68_2 : w66.cell? ⟨gb575, 2, none⟩ = some (.slice A0_2 l0_2.length c0_2) := (blk_cell BK575.out 2).trans rfl; have hcz68_3 : w66.cell? ⟨gb575, 3, none⟩ = some (.int .u8 a0_3) := (blk_cell BK575.out 3).trans rfl; have hcz68_4 : w66.cell? ⟨gb575, 4, none⟩ = some (.int .u8 a0_4) := (blk_cell BK575.out 4).trans rfl; have hcz68_5 : w66.cell? ⟨gb575, 5, none⟩ = some (.slice A0_5 l0_5.length c0_5) := (blk_cell BK575.out 5).trans rfl; have hfz68_0 := blk_frozen BK575.out 0; have hfz68_1 := blk_frozen BK575.out 1; have hfz68_2 := blk_frozen BK575.out 2; have hfz68_3 := blk_frozen BK575.out 3; have hfz68_4 := blk_frozen BK575.out 4; have hfz68_5 := blk_frozen BK575.out 5) | ((with_reducible refine gate_callee (f := 40) rfl ?_); refine goesL_ (some 75) rfl rfl Try.func40 (by kernel_rfl) rfl #[.agg #[.int .u8 a0_0, .int .u8 a0_1, .slice A0_2 l0_2.length c0_2, .int .u8 a0_3, .int .u8 a0_4, .slice A0_5 l0_5.length c0_5]] rfl (by (try simp only [List.map_toArray, List.map_cons, List.map_nil]); first | done | rfl | (simp only [List.length_drop, List.length_take]; rfl)) ?_; (with_reducible refine (laws_toHoldRom.callsC kj38 a0_0 a0_1 _ _ l0_2 a0_3 a0_4 _ _ l0_5 t625 t626 t627 t630 t631 t632 _ ?side1 ?side2 ?side3 ?side4 A62.out).mono ?_); (case side1 => repeat (first | exact (Kd.C_below HR0_2.out (by repeat (first | (with_reducible first | exact HB.out | apply below_alloc | apply pw_below_drewN | apply below_drew1 | refine below_set ?_ GE575.out | refine below_set ?_ GE601.out) | exact HB.out))) | (with_reducible refine Kd.C_alloc ?_ _) | (with_reducible refine Kd.C_drewN ?_ _) | (with_reducible refine Kd.C_drew ?_))); (case side2 => exact HC0_2.out); (case side3 => repeat (first | exact (Kd.C_below HR0_5.out (by repeat (first | (with_reducible first | exact HB.out | apply below_alloc | apply pw_below_drewN | apply below_drew1 | refine below_set ?_ GE575.out | refine below_set ?_ GE601.out) | exact HB.out))) | (with_reducible refine Kd.C_alloc ?_ _) | (with_reducible refine Kd.C_drewN ?_ _) | (with_reducible refine Kd.C_drew ?_))); (case side4 => exact HC0_5.out); rintro e w69 ⟨v628, v633, rfl, ho0, ho1, hb⟩; refine ⟨_, rfl, ?_⟩; have n0_ := Aside0.mk (Kd.Rc_mono (Kd.Rc_told (Kd.Rc_told (Kd.Rc_old (by (with_reducible repeat (first | apply Kd.Rc_alloc | apply Kd.Rc_drewN | apply Kd.Rc_drew)); exact HO_4.out) hb) (Kd.Rc_base ho0)) (Kd.Rc_base ho1)) (fun _ h_ => h_.1)); have n1_ := Aside0.mk (Kd.Rc_mono (Kd.Rc_told (Kd.Rc_told (Kd.Rc_old (by (with_reducible repeat (first | apply Kd.Rc_alloc | apply Kd.Rc_drewN | apply Kd.Rc_drew)); exact HO_7.out) hb) (Kd.Rc_base ho0)) (Kd.Rc_base ho1)) (fun _ h_ => h_.1)); have n2_ := Aside0.mk (Kd.Rc_mono (Kd.Rc_told (Kd.Rc_told (Kd.Rc_old (by (with_reducible repeat (first | apply Kd.Rc_alloc | apply Kd.Rc_drewN | apply Kd.Rc_drew)); exact HO_602002.out) hb) (Kd.Rc_base ho0)) (Kd.Rc_base ho1)) (fun _ h_ => h_.1)); have n3_ := Aside0.mk (Kd.Rc_mono (Kd.Rc_told (Kd.Rc_told (Kd.Rc_old (by (with_reducible repeat (first | apply Kd.Rc_alloc | apply Kd.Rc_drewN | apply Kd.Rc_drew)); exact HO_602005.out) hb) (Kd.Rc_base ho0)) (Kd.Rc_base ho1)) (fun _ h_ => h_.1)); have n4_ := Aside0.mk (Kd.Rc_lower (Kd.Rc_new' (Kd.Rc_new' (Kd.Rc_new' (Kd.Rc_new' ho0 (Kd.Rc_lt (by (with_reducible repeat (first | apply Kd.Rc_alloc | apply Kd.Rc_drewN | apply Kd.Rc_drew)); exact HO_4.out))) (Kd.Rc_lt (by (with_reducible repeat (first | apply Kd.Rc_alloc | apply Kd.Rc_drewN | apply Kd.Rc_drew)); exact HO_7.out))) (Kd.Rc_lt (by (with_reducible repeat (first | apply Kd.Rc_alloc | apply Kd.Rc_drewN | apply Kd.Rc_drew)); exact HO_602002.out))) (Kd.Rc_lt (by (with_reducible repeat (first | apply Kd.Rc_alloc | apply Kd.Rc_drewN | apply Kd.Rc_drew)); exact HO_602005.out))) (below_size (by repeat (first | (with_reducible first | exact HB.out | apply below_alloc | apply pw_below_drewN | apply below_drew1 | refine below_set ?_ GE575.out | refine below_set ?_ GE601.out) | exact HB.out)))); have n5_ := Aside0.mk (Kd.Rc_lower (Kd.Rc_new' (Kd.Rc_new' (Kd.Rc_new' (Kd.Rc_new' ho1 (Kd.Rc_lt (by (with_reducible repeat (first | apply Kd.Rc_alloc | apply Kd.Rc_drewN | apply Kd.Rc_drew)); exact HO_4.out))) (Kd.Rc_lt (by (with_reducible repeat (first | apply Kd.Rc_alloc | apply Kd.Rc_drewN | apply Kd.Rc_drew)); exact HO_7.out))) (Kd.Rc_lt (by (with_reducible repeat (first | apply Kd.Rc_alloc | apply Kd.Rc_drewN | apply Kd.Rc_drew)); exact HO_602002.out))) (Kd.Rc_lt (by (with_reducible repeat (first | apply Kd.Rc_alloc | apply Kd.Rc_drewN | apply Kd.Rc_drew)); exact HO_602005.out))) (below_size (by repeat (first | (with_reducible first | exact HB.out | apply below_alloc | apply pw_below_drewN | apply below_drew1 | refine below_set ?_ GE575.out | refine below_set ?_ GE601.out) | exact HB.out)))); have n6_ := Aside0.mk (blk_below (g := gb575) (o := .cells #[.int .u8 a0_0, .int .u8 a0_1, .slice A0_2 l0_2.length c0_2, .int .u8 a0_3, .int .u8 a0_4, .slice A0_5 l0_5.length c0_5] 47 (0, 0)) (by (with_reducible repeat (first | refine blk_drewN ?_ _ | refine blk_drew ?_ | refine blk_alloc ?_ _)); exact BK575.out) hb); have n7_ := Aside0.mk (blk_below (g := gb601) (o := .cells #[.int .u8 t591, .int .u8 t592, .slice Ao25 t619.length co25, .int .u8 t596, .int .u8 t597, .slice Ao26 t620.length co26] 52 (0, 0)) (by (with_reducible repeat (first | refine blk_drewN ?_ _ | refine blk_drew ?_ | refine blk_alloc ?_ _)); exact BK601.out) hb); have n8_ := Aside0.mk (below_step (by repeat (first | (with_reducible first | exact HB.out | apply below_alloc | apply pw_below_drewN | apply below_drew1 | refine below_set ?_ GE575.out | refine below_set ?_ GE601.out) | exact HB.out)) hb); clear HO_4; clear HO_7; clear HO_602002; clear HO_602005; clear BK575; clear BK601; clear HB; have HO_4 := n0_; have HO_7 := n1_; have HO_602002 := n2_; have HO_602005 := n3_; have HO629 := n4_; have HO634 := n5_; have BK575 := n6_; have BK601 := n7_; have HB := n8_; clear n0_ n1_ n2_ n3_ n4_ n5_ n6_ n7_ n8_; (try clear hb); (try clear hb2); (try clear hk); (try clear hi); (try clear ho0); (try clear ho1); obtain ⟨Ao70, co70, eo70⟩ := Kd.Rc_slice HO629.out; subst eo70; obtain ⟨Ao71, co71, eo71⟩ := Kd.Rc_slice HO634.out; subst eo71) | ((with_reducible refine gate_callee (f := 48) rfl ?_); refine goesL_ (some 76) rfl rfl Try.func48 (by kernel_rfl) rfl #[.agg #[.int .u8 t625, .int .u8 t626, .slice Ao70 t627.length co70, .int .u8 t630, .int .u8 t631, .slice Ao71 t632.length co71]] rfl (by (try simp only [List.map_toArray, List.map_cons, List.map_nil]); first | done | rfl | (simp only [List.length_drop, List.length_take]; rfl)) ?_; (with_reducible refine (impl_HoldNow.calls kj38 t625 t626 _ _ t627 t630 t631 _ _ t632 t635 t638 _ ?side1 ?side2 ?side3 ?side4 A63.out).mono ?_); (case side1 => repeat (first | exact (Kd.Rc_reads' HO629.out).2.2 | (with_reducible refine Kd.C_alloc ?_ _) | (with_reducible refine Kd.C_drewN ?_ _) | (with_reducible refine Kd.C_drew ?_))); (case side2 => exact (Kd.Rc_reads' HO629.out).2.1); (case side3 => repeat (first | exact (Kd.Rc_reads' HO634.out).2.2 | (with_reducible refine Kd.C_alloc ?_ _) | (with_reducible refine Kd.C_drewN ?_ _) | (with_reducible refine Kd.C_drew ?_))); (case side4 => exact (Kd.Rc_reads' HO634.out).2.1); rintro e w72 ⟨v636, rfl, ho0, hb⟩; refine ⟨_, rfl, ?_⟩; have n0_ := Aside0.mk (Kd.Rc_elder' (by (with_reducible repeat (first | apply Kd.Rc_alloc | apply Kd.Rc_drewN | apply Kd.Rc_drew)); exact HO_4.out) (Kd.Rc_base ho0) hb); have n1_ := Aside0.mk (Kd.Rc_elder' (by (with_reducible repeat (first | apply Kd.Rc_alloc | apply Kd.Rc_drewN | apply Kd.Rc_drew)); exact HO_7.out) (Kd.Rc_base ho0) hb); have n2_ := Aside0.mk (Kd.Rc_elder' (by (with_reducible repeat (first | apply Kd.Rc_alloc | apply Kd.Rc_drewN | apply Kd.Rc_drew)); exact HO_602002.out) (Kd.Rc_base ho0) hb); have n3_ := Aside0.mk (Kd.Rc_elder' (by (with_reducible repeat (first | apply Kd.Rc_alloc | apply Kd.Rc_drewN | apply Kd.Rc_drew)); exact HO_602005.out) (Kd.Rc_base ho0) hb); have n4_ := Aside0.mk (Kd.Rc_elder' (by (with_reducible repeat (first | apply Kd.Rc_alloc | apply Kd.Rc_drewN | apply Kd.Rc_drew)); exact HO629.out) (Kd.Rc_base ho0) hb); have n5_ := Aside0.mk (Kd.Rc_elder' (by (with_reducible repeat (first | apply Kd.Rc_alloc | apply Kd.Rc_drewN | apply Kd.Rc_drew)); exact HO634.out) (Kd.Rc_base ho0) hb); have n6_ := Aside0.mk (Kd.Rc_lower (Kd.Rc_new' (Kd.Rc_new' (Kd.Rc_new' (Kd.Rc_new' (Kd.Rc_new' (Kd.Rc_new' ho0 (Kd.Rc_lt (by (with_reducible repeat (first | apply Kd.Rc_alloc | apply Kd.Rc_drewN | apply Kd.Rc_drew)); exact HO_4.out))) (Kd.Rc_lt (by (with_reducible repeat (first | apply Kd.Rc_alloc | apply Kd.Rc_drewN | apply Kd.Rc_drew)); exact HO_7.out))) (Kd.Rc_lt (by (with_reducible repeat (first | apply Kd.Rc_alloc | apply Kd.Rc_drewN | apply Kd.Rc_drew)); exact HO_602002.out))) (Kd.Rc_lt (by (with_reducible repeat (first | apply Kd.Rc_alloc | apply Kd.Rc_drewN | apply Kd.Rc_drew)); exact HO_602005.out))) (Kd.Rc_lt (by (with_reducible repeat (first | apply Kd.Rc_alloc | apply Kd.Rc_drewN | apply Kd.Rc_drew)); exact HO629.out))) (Kd.Rc_lt (by (with_reducible repeat (first | apply Kd.Rc_alloc | apply Kd.Rc_drewN | apply Kd.Rc_drew)); exact HO634.out))) (below_size (by repeat (first | (with_reducible first | exact HB.out | apply below_alloc | apply pw_below_drewN | apply below_drew1 | refine below_set ?_ GE575.out | refine below_set ?_ GE601.out) | exact HB.out)))); have n7_ := Aside0.mk (blk_below (g := gb575) (o := .cells #[.int .u8 a0_0, .int .u8 a0_1, .slice A0_2 l0_2.length c0_2, .int .u8 a0_3, .int .u8 a0_4, .slice A0_5 l0_5.length c0_5] 47 (0, 0)) (by (with_reducible repeat (first | refine blk_drewN ?_ _ | refine blk_drew ?_ | refine blk_alloc ?_ _)); exact BK575.out) hb); have n8_ := Aside0.mk (blk_below (g := gb601) (o := .cells #[.int .u8 t591, .int .u8 t592, .slice Ao25 t619.length co25, .int .u8 t596, .int .u8 t597, .slice Ao26 t620.length co26] 52 (0, 0)) (by (with_reducible repeat (first | refine blk_drewN ?_ _ | refine blk_drew ?_ | refine blk_alloc ?_ _)); exact BK601.out) hb); have n9_ := Aside0.mk (below_step (by repeat (first | (with_reducible first | exact HB.out | apply below_alloc | apply pw_below_drewN | apply below_drew1 | refine below_set ?_ GE575.out | refine below_set ?_ GE601.out) | exact HB.out)) hb); clear HO_4; clear HO_7; clear HO_602002; clear HO_602005; clear HO629; clear HO634; clear BK575; clear BK601; clear HB; have HO_4 := n0_; have HO_7 := n1_; have HO_602002 := n2_; have HO_602005 := n3_; have HO629 := n4_; have HO634 := n5_; have HO637 := n6_; have BK575 := n7_; have BK601 := n8_; have HB := n9_; clear n0_ n1_ n2_ n3_ n4_ n5_ n6_ n7_ n8_ n9_; (try clear hb); (try clear hb2); (try clear hk); (try clear hi); (try clear ho0)))
                      (try simp only [Act.put, List.setIfInBounds_toArray, List.set_cons_zero, List.set_cons_succ])
                      go_cut [87] (fun v87 wc => ∃ (kq : Nat) (x87_63 : Bool), v87 = .bool x87_63 ∧ Aside0 (laws_FnExactHoldNow.j2 kq t623 t622 x87_63 = some r) ∧ Aside0 (kq ≤ kj38) ∧ Aside0 (Kd.Rc (Kd.int .u8) 5 wc w.heap.size (fun k_ => some k_ ≠ ((.slice Ao25 t619.length co25) : Value).ownBlock ∧ some k_ ≠ ((.slice Ao26 t620.length co26) : Value).ownBlock) (.slice Ao65 t602.length co65) t623) ∧ Aside0 (Kd.Rc (Kd.int .u8) 5 wc w.heap.size (fun k_ => some k_ ≠ ((.slice Ao65 t602.length co65) : Value).ownBlock ∧ some k_ ≠ ((.slice Ao26 t620.length co26) : Value).ownBlock) (.slice Ao25 t619.length co25) t619) ∧ Aside0 (Kd.Rc (Kd.int .u8) 5 wc w.heap.size (fun k_ => some k_ ≠ ((.slice Ao65 t602.length co65) : Value).ownBlock ∧ some k_ ≠ ((.slice Ao25 t619.length co25) : Value).ownBlock) (.slice Ao26 t620.length co26) t620) ∧ Aside0 (wc.heap[gb575]? = some (.cells #[.int .u8 a0_0, .int .u8 a0_1, (.slice A0_2 l0_2.length c0_2), .int .u8 a0_3, .int .u8 a0_4, (.slice A0_5 l0_5.length c0_5)] 47 (0, 0))) ∧ Aside0 (wc.heap[gb601]? = some (.cells #[.int .u8 t591, .int .u8 t592, (.slice Ao25 t619.length co25), .int .u8 t596, .int .u8 t597, (.slice Ao26 t620.length co26)] 52 (0, 0))) ∧ Aside0 (Below w.heap.size w wc))
                      case first =>
                        have H := HC64.out
                        clear HC64
                        replace H := Option.bind_eq_some_iff.mp H
                        obtain ⟨t639, A730, H⟩ := H
                        replace H : (if t639 = true then (laws_FnExactHoldNow.j2 kj38 t623 t622 (t638 != t590)) else (laws_FnExactHoldNow.j2 kj38 t623 t622 true)) = some r := H
                        have A73 := Aside0.mk A730
                        clear A730
                        by_cases c74 : t639 = true
                        · subst c74
                          have H1 : (laws_FnExactHoldNow.j2 kj38 t623 t622 (t638 != t590)) = some r := by rw [if_pos rfl] at H; exact H
                          clear H
                          have H := H1
                          clear H1
                          have H' := Aside0.mk H
                          clear H
                          obtain ⟨Ao75, co75, eo75⟩ := Kd.Rc_slice HO637.out
                          subst eo75
                          obtain ⟨Ao76, co76, eo76⟩ := Kd.Rc_slice HO_4.out
                          subst eo76
                          go_wp2_with (first | ((with_reducible refine gate_callee (f := 20) rfl ?_); refine goesL_ (some 81) rfl rfl Try.func20 (by kernel_rfl) rfl #[.slice Ao75 t635.length co75, .slice Ao76 t587.length co76] rfl (by (try simp only [List.map_toArray, List.map_cons, List.map_nil]); first | done | rfl | (simp only [List.length_drop, List.length_take]; rfl)) ?_; (with_reducible refine (laws_eqByteS.calls kj38 _ _ t635 _ _ t587 true _ ?side1 ?side2 ?side3 ?side4 A73.out).mono ?_); (case side1 => repeat (first | exact (Kd.Rc_reads' HO637.out).2.2 | (with_reducible refine Kd.C_alloc ?_ _) | (with_reducible refine Kd.C_drewN ?_ _) | (with_reducible refine Kd.C_drew ?_))); (case side2 => exact (Kd.Rc_reads' HO637.out).2.1); (case side3 => repeat (first | exact (Kd.Rc_reads' HO_4.out).2.2 | (with_reducible refine Kd.C_alloc ?_ _) | (with_reducible refine Kd.C_drewN ?_ _) | (with_reducible refine Kd.C_drew ?_))); (case side4 => exact (Kd.Rc_reads' HO_4.out).2.1); rintro e w' ⟨rfl, ⟨nd, rfl⟩⟩; refine ⟨_, rfl, ?_⟩))
                          go_meet
                          case rel => exact ⟨_, ((t638 != t590)), (by first | rfl | (simp; done) | (simp [*]; done)), H', ⟨by have := HJ10.out; have := HJ38.out; first | omega | exact Nat.le_refl _⟩, ⟨by (try simp only [hl602002_38]); (try simp only [hl602005_38]); (with_reducible repeat (first | apply Kd.Rc_alloc | apply Kd.Rc_drewN | apply Kd.Rc_drew)); exact Kd.Rc_mono HO_7.out (fun _ hk => ⟨hk.1.1.1.2.1, hk.1.1.1.2.2⟩)⟩, ⟨by (try simp only [hl602002_38]); (try simp only [hl602005_38]); (with_reducible repeat (first | apply Kd.Rc_alloc | apply Kd.Rc_drewN | apply Kd.Rc_drew)); exact Kd.Rc_mono HO_602002.out (fun _ hk => ⟨hk.1.1.1.2.1, hk.1.1.1.2.2⟩)⟩, ⟨by (try simp only [hl602002_38]); (try simp only [hl602005_38]); (with_reducible repeat (first | apply Kd.Rc_alloc | apply Kd.Rc_drewN | apply Kd.Rc_drew)); exact Kd.Rc_mono HO_602005.out (fun _ hk => ⟨hk.1.1.1.2.1, hk.1.1.1.2.2⟩)⟩, ⟨by (try simp only [hl602002_38]); (try simp only [hl602005_38]); (with_reducible repeat (first | refine blk_drewN ?_ _ | refine blk_drew ?_ | refine blk_alloc ?_ _)); exact BK575.out⟩, ⟨by (try simp only [hl602002_38]); (try simp only [hl602005_38]); (with_reducible repeat (first | refine blk_drewN ?_ _ | refine blk_drew ?_ | refine blk_alloc ?_ _)); exact BK601.out⟩, ⟨by repeat (first | (with_reducible first | exact HB.out | apply below_alloc | apply pw_below_drewN | apply below_drew1 | refine below_set ?_ GE575.out | refine below_set ?_ GE601.out) | exact HB.out)⟩⟩
                        · replace c74 := Bool.eq_false_iff.mpr c74
                          subst c74
                          have H1 : (laws_FnExactHoldNow.j2 kj38 t623 t622 true) = some r := by rw [if_neg (show ¬ (false = true) by decide)] at H; exact H
                          clear H
                          have H := H1
                          clear H1
                          have H' := Aside0.mk H
                          clear H
                          obtain ⟨Ao77, co77, eo77⟩ := Kd.Rc_slice HO637.out
                          subst eo77
                          obtain ⟨Ao78, co78, eo78⟩ := Kd.Rc_slice HO_4.out
                          subst eo78
                          go_wp2_with (first | ((with_reducible refine gate_callee (f := 20) rfl ?_); refine goesL_ (some 81) rfl rfl Try.func20 (by kernel_rfl) rfl #[.slice Ao77 t635.length co77, .slice Ao78 t587.length co78] rfl (by (try simp only [List.map_toArray, List.map_cons, List.map_nil]); first | done | rfl | (simp only [List.length_drop, List.length_take]; rfl)) ?_; (with_reducible refine (laws_eqByteS.calls kj38 _ _ t635 _ _ t587 false _ ?side1 ?side2 ?side3 ?side4 A73.out).mono ?_); (case side1 => repeat (first | exact (Kd.Rc_reads' HO637.out).2.2 | (with_reducible refine Kd.C_alloc ?_ _) | (with_reducible refine Kd.C_drewN ?_ _) | (with_reducible refine Kd.C_drew ?_))); (case side2 => exact (Kd.Rc_reads' HO637.out).2.1); (case side3 => repeat (first | exact (Kd.Rc_reads' HO_4.out).2.2 | (with_reducible refine Kd.C_alloc ?_ _) | (with_reducible refine Kd.C_drewN ?_ _) | (with_reducible refine Kd.C_drew ?_))); (case side4 => exact (Kd.Rc_reads' HO_4.out).2.1); rintro e w' ⟨rfl, ⟨nd, rfl⟩⟩; refine ⟨_, rfl, ?_⟩))
                          go_meet
                          case rel => exact ⟨_, (true), (by first | rfl | (simp; done) | (simp [*]; done)), H', ⟨by have := HJ10.out; have := HJ38.out; first | omega | exact Nat.le_refl _⟩, ⟨by (try simp only [hl602002_38]); (try simp only [hl602005_38]); (with_reducible repeat (first | apply Kd.Rc_alloc | apply Kd.Rc_drewN | apply Kd.Rc_drew)); exact Kd.Rc_mono HO_7.out (fun _ hk => ⟨hk.1.1.1.2.1, hk.1.1.1.2.2⟩)⟩, ⟨by (try simp only [hl602002_38]); (try simp only [hl602005_38]); (with_reducible repeat (first | apply Kd.Rc_alloc | apply Kd.Rc_drewN | apply Kd.Rc_drew)); exact Kd.Rc_mono HO_602002.out (fun _ hk => ⟨hk.1.1.1.2.1, hk.1.1.1.2.2⟩)⟩, ⟨by (try simp only [hl602002_38]); (try simp only [hl602005_38]); (with_reducible repeat (first | apply Kd.Rc_alloc | apply Kd.Rc_drewN | apply Kd.Rc_drew)); exact Kd.Rc_mono HO_602005.out (fun _ hk => ⟨hk.1.1.1.2.1, hk.1.1.1.2.2⟩)⟩, ⟨by (try simp only [hl602002_38]); (try simp only [hl602005_38]); (with_reducible repeat (first | refine blk_drewN ?_ _ | refine blk_drew ?_ | refine blk_alloc ?_ _)); exact BK575.out⟩, ⟨by (try simp only [hl602002_38]); (try simp only [hl602005_38]); (with_reducible repeat (first | refine blk_drewN ?_ _ | refine blk_drew ?_ | refine blk_alloc ?_ _)); exact BK601.out⟩, ⟨by repeat (first | (with_reducible first | exact HB.out | apply below_alloc | apply pw_below_drewN | apply below_drew1 | refine below_set ?_ GE575.out | refine below_set ?_ GE601.out) | exact HB.out)⟩⟩
                      case rest =>
                        clear HC64
                        try clear c1
                        try clear c2
                        try clear p2
                        try clear c3
                        try clear c3b0
                        try clear c4
                        try clear c5
                        try clear c6
                        try clear c7
                        try clear c12
                        try clear c20
                        try clear c23
                        try clear c27
                        try clear c28
                        try clear c29
                        try clear c34
                        try clear c37
                        try clear c38
                        try clear c40
                        try clear c42
                        try clear c45
                        try clear c47
                        try clear c48
                        try clear c48b0
                        try clear c49
                        try clear c50
                        try clear c55
                        try clear c58
                        try clear c58b0
                        try clear c61
                        try clear c61b0
                        try clear c61b1
                        try clear c67
                        try clear c74
                        try clear hcz13_0
                        try clear hcz13_1
                        try clear hcz13_2
                        try clear hcz13_3
                        try clear hcz13_4
                        try clear hcz13_5
                        try clear hcz15_0
                        try clear hcz15_1
                        try clear hcz15_2
                        try clear hcz15_3
                        try clear hcz15_4
                        try clear hcz15_5
                        try clear hcz20_0
                        try clear hcz20_1
                        try clear hcz20_2
                        try clear hcz20_3
                        try clear hcz20_4
                        try clear hcz20_5
                        try clear hcz24_0
                        try clear hcz24_1
                        try clear hcz24_2
                        try clear hcz24_3
                        try clear hcz24_4
                        try clear hcz24_5
                        try clear hcz46_0
                        try clear hcz46_1
                        try clear hcz46_2
                        try clear hcz46_3
                        try clear hcz46_4
                        try clear hcz46_5
                        try clear hcz5_0
                        try clear hcz5_1
                        try clear hcz5_2
                        try clear hcz5_3
                        try clear hcz5_4
                        try clear hcz5_5
                        try clear hcz68_0
                        try clear hcz68_1
                        try clear hcz68_2
                        try clear hcz68_3
                        try clear hcz68_4
                        try clear hcz68_5
                        try clear hfz13_0
                        try clear hfz13_1
                        try clear hfz13_2
                        try clear hfz13_3
                        try clear hfz13_4
                        try clear hfz13_5
                        try clear hfz15_0
                        try clear hfz15_1
                        try clear hfz15_2
                        try clear hfz15_3
                        try clear hfz15_4
                        try clear hfz15_5
                        try clear hfz20_0
                        try clear hfz20_1
                        try clear hfz20_2
                        try clear hfz20_3
                        try clear hfz20_4
                        try clear hfz20_5
                        try clear hfz24_0
                        try clear hfz24_1
                        try clear hfz24_2
                        try clear hfz24_3
                        try clear hfz24_4
                        try clear hfz24_5
                        try clear hfz46_0
                        try clear hfz46_1
                        try clear hfz46_2
                        try clear hfz46_3
                        try clear hfz46_4
                        try clear hfz46_5
                        try clear hfz5_0
                        try clear hfz5_1
                        try clear hfz5_2
                        try clear hfz5_3
                        try clear hfz5_4
                        try clear hfz5_5
                        try clear hfz68_0
                        try clear hfz68_1
                        try clear hfz68_2
                        try clear hfz68_3
                        try clear hfz68_4
                        try clear hfz68_5
                        try clear p2
                        obtain ⟨kq, x87_63, rfl, HA, HJ63, HO_7, HO_602002, HO_602005, BK575, BK601, HB⟩ := hcut
                        have hl7_63 := (Kd.Rc_reads' HO_7.out).1
                        rw [hl7_63] at HO_7
                        (try simp only [hl7_63])
                        (try simp only [hl7_63] at BK575)
                        (try simp only [hl7_63] at BK601)
                        (try simp only [hl7_63] at HO_602002)
                        (try simp only [hl7_63] at HO_602005)
                        cases kq with
                        | zero => exact absurd HA.out (by simp [laws_FnExactHoldNow.j2])
                        | succ kj63 =>
                          have H := HA.out
                          clear HA
                          simp only [laws_FnExactHoldNow.j2] at H
                          by_cases c79 : x87_63 = true
                          · subst c79
                            have H1 : (some false) = some r := by rw [if_pos rfl] at H; exact H
                            clear H
                            have H := H1
                            clear H1
                            obtain rfl := Option.some.inj H
                            go_wp2
                            go_ret
                            exact ⟨by first | rfl | (simp [errW_none, errW_some] <;> rfl) | (simp [*, errW_none, errW_some] <;> rfl), by repeat (first | (with_reducible first | exact HB.out | apply below_alloc | apply pw_below_drewN | apply below_drew1 | refine below_set ?_ GE575.out | refine below_set ?_ GE601.out) | exact HB.out)⟩
                          · replace c79 := Bool.eq_false_iff.mpr c79
                            subst c79
                            have H1 : ((laws_heldByteS.f kj63 t623 1).bind fun t640 => (if t640 < 0 then (some false) else (if t640 = t622 then (some true) else (some false)))) = some r := by rw [if_neg (show ¬ (false = true) by decide)] at H; exact H
                            clear H
                            have H := H1
                            clear H1
                            replace H := Option.bind_eq_some_iff.mp H
                            obtain ⟨t640, A800, H⟩ := H
                            replace H : (if t640 < 0 then (some false) else (if t640 = t622 then (some true) else (some false))) = some r := H
                            have A80 := Aside0.mk A800
                            clear A800
                            by_cases c81 : t640 < 0
                            · rw [if_pos c81] at H
                              have c81b0 : decide (t640 < 0) = true := decide_eq_true c81
                              clear c81
                              obtain rfl := Option.some.inj H
                              go_wp2_with (first | ((with_reducible refine gate_callee (f := 28) rfl ?_); refine goesL_ (some 90) rfl rfl Try.func28 (by kernel_rfl) rfl #[.slice Ao65 t623.length co65, .int .i64 1] rfl (by (try simp only [List.map_toArray, List.map_cons, List.map_nil]); first | done | rfl | (simp only [List.length_drop, List.length_take]; rfl)) ?_; (with_reducible refine (laws_heldByteS.calls kj63 _ _ t623 1 t640 _ ?side1 ?side2 A80.out).mono ?_); (case side1 => repeat (first | exact (Kd.Rc_reads' HO_7.out).2.2 | (with_reducible refine Kd.C_alloc ?_ _) | (with_reducible refine Kd.C_drewN ?_ _) | (with_reducible refine Kd.C_drew ?_))); (case side2 => exact (Kd.Rc_reads' HO_7.out).2.1); rintro e w' ⟨rfl, ⟨nd, rfl⟩⟩; refine ⟨_, rfl, ?_⟩))
                              go_ret
                              exact ⟨by first | rfl | (simp [errW_none, errW_some] <;> rfl) | (simp [*, errW_none, errW_some] <;> rfl), by repeat (first | (with_reducible first | exact HB.out | apply below_alloc | apply pw_below_drewN | apply below_drew1 | refine below_set ?_ GE575.out | refine below_set ?_ GE601.out) | exact HB.out)⟩
                            · rw [if_neg c81] at H
                              have c81b0 : decide (t640 < 0) = false := decide_eq_false c81
                              clear c81
                              by_cases c82 : t640 = t622
                              · rw [if_pos c82] at H
                                have c82b0 : (t640 == t622) = true := beq_iff_eq.mpr c82
                                have c82b1 : (t640 != t622) = false := bne_eq_false_iff_eq.mpr c82
                                clear c82
                                obtain rfl := Option.some.inj H
                                go_wp2_with (first | ((with_reducible refine gate_callee (f := 28) rfl ?_); refine goesL_ (some 90) rfl rfl Try.func28 (by kernel_rfl) rfl #[.slice Ao65 t623.length co65, .int .i64 1] rfl (by (try simp only [List.map_toArray, List.map_cons, List.map_nil]); first | done | rfl | (simp only [List.length_drop, List.length_take]; rfl)) ?_; (with_reducible refine (laws_heldByteS.calls kj63 _ _ t623 1 t640 _ ?side1 ?side2 A80.out).mono ?_); (case side1 => repeat (first | exact (Kd.Rc_reads' HO_7.out).2.2 | (with_reducible refine Kd.C_alloc ?_ _) | (with_reducible refine Kd.C_drewN ?_ _) | (with_reducible refine Kd.C_drew ?_))); (case side2 => exact (Kd.Rc_reads' HO_7.out).2.1); rintro e w' ⟨rfl, ⟨nd, rfl⟩⟩; refine ⟨_, rfl, ?_⟩))
                                go_ret
                                exact ⟨by first | rfl | (simp [errW_none, errW_some] <;> rfl) | (simp [*, errW_none, errW_some] <;> rfl), by repeat (first | (with_reducible first | exact HB.out | apply below_alloc | apply pw_below_drewN | apply below_drew1 | refine below_set ?_ GE575.out | refine below_set ?_ GE601.out) | exact HB.out)⟩
                              · rw [if_neg c82] at H
                                have c82b0 : (t640 == t622) = false := beq_eq_false_iff_ne.mpr c82
                                have c82b1 : (t640 != t622) = true := bne_iff_ne.mpr c82
                                obtain rfl := Option.some.inj H
                                go_wp2_with (first | ((with_reducible refine gate_callee (f := 28) rfl ?_); refine goesL_ (some 90) rfl rfl Try.func28 (by kernel_rfl) rfl #[.slice Ao65 t623.length co65, .int .i64 1] rfl (by (try simp only [List.map_toArray, List.map_cons, List.map_nil]); first | done | rfl | (simp only [List.length_drop, List.length_take]; rfl)) ?_; (with_reducible refine (laws_heldByteS.calls kj63 _ _ t623 1 t640 _ ?side1 ?side2 A80.out).mono ?_); (case side1 => repeat (first | exact (Kd.Rc_reads' HO_7.out).2.2 | (with_reducible refine Kd.C_alloc ?_ _) | (with_reducible refine Kd.C_drewN ?_ _) | (with_reducible refine Kd.C_drew ?_))); (case side2 => exact (Kd.Rc_reads' HO_7.out).2.1); rintro e w' ⟨rfl, ⟨nd, rfl⟩⟩; refine ⟨_, rfl, ?_⟩))
                                go_ret
                                exact ⟨by first | rfl | (simp [errW_none, errW_some] <;> rfl) | (simp [*, errW_none, errW_some] <;> rfl), by repeat (first | (with_reducible first | exact HB.out | apply below_alloc | apply pw_below_drewN | apply below_drew1 | refine below_set ?_ GE575.out | refine below_set ?_ GE601.out) | exact HB.out)⟩
                    · rw [if_neg c61] at H
                      have c61b0 : (t624 == t622) = false := beq_eq_false_iff_ne.mpr c61
                      have c61b1 : (t624 != t622) = true := bne_iff_ne.mpr c61
                      obtain rfl := Option.some.inj H
                      obtain ⟨Ao83, co83, eo83⟩ := Kd.Rc_slice HO_7.out
                      subst eo83
                      go_wp2_with (first | ((with_reducible refine gate_callee (f := 27) rfl ?_); refine goesL_ (some 64) rfl rfl Try.func27 (by kernel_rfl) rfl #[.slice Ao83 t602.length co83, .int .i64 1] rfl (by (try simp only [List.map_toArray, List.map_cons, List.map_nil]); first | done | rfl | (simp only [List.length_drop, List.length_take]; rfl)) ?_; (with_reducible refine (laws_markByteS.callsC kj38 (fun k_ => some k_ = (.slice Ao83 t602.length co83 : Value).ownBlock) (.slice Ao83 t602.length co83) t602 1 t622 t623 w _ ?side1 ?side2 A56.out).mono ?_); (case side1 => repeat (first | (with_reducible first | exact HB.out | apply below_alloc | apply pw_below_drewN | apply below_drew1 | refine below_set ?_ GE575.out | refine below_set ?_ GE601.out) | exact HB.out)); (case side2 => exact Kd.Rc_tight rfl HO_7.out); rintro e w84 ⟨rfl, hy0, hb, hkp⟩; refine ⟨_, rfl, ?_⟩; have n0_ := Aside0.mk (Kd.Rc_mono (ok' := fun k_ => some k_ ≠ (.slice Ao83 t602.length co83 : Value).ownBlock ∧ some k_ ≠ (.slice Ao25 t619.length co25 : Value).ownBlock ∧ some k_ ≠ (.slice Ao26 t620.length co26 : Value).ownBlock) (Kd.Rc_keptB (HO_4.out) hkp (fun k_ hk_ hs_ => (hk_.1) hs_)) (fun k_ hk_ => ⟨hk_.1.1, hk_.1.2.1, hk_.1.2.2⟩)); have n1_ := Aside0.mk (Kd.Rc_reok rfl hy0 (fun k_ e_ => HO_7.out.1 k_ e_)); have n2_ := Aside0.mk (Kd.Rc_mono (ok' := fun k_ => some k_ ≠ (v588 : Value).ownBlock ∧ some k_ ≠ (.slice Ao83 t602.length co83 : Value).ownBlock ∧ some k_ ≠ (.slice Ao26 t620.length co26 : Value).ownBlock) (Kd.Rc_keptB (HO_602002.out) hkp (fun k_ hk_ hs_ => (hk_.2.1) hs_)) (fun k_ hk_ => ⟨hk_.1.1, hk_.1.2.1, hk_.1.2.2⟩)); have n3_ := Aside0.mk (Kd.Rc_mono (ok' := fun k_ => some k_ ≠ (v588 : Value).ownBlock ∧ some k_ ≠ (.slice Ao83 t602.length co83 : Value).ownBlock ∧ some k_ ≠ (.slice Ao25 t619.length co25 : Value).ownBlock) (Kd.Rc_keptB (HO_602005.out) hkp (fun k_ hk_ hs_ => (hk_.2.1) hs_)) (fun k_ hk_ => ⟨hk_.1.1, hk_.1.2.1, hk_.1.2.2⟩)); have n4_ := Aside0.mk (blk_kept (by (with_reducible repeat (first | refine blk_drewN ?_ _ | refine blk_drew ?_ | refine blk_alloc ?_ _)); exact BK575.out) hkp (fun hs_ => (fun e_ => (Kd.Rc_ne HO_7.out BK575.out (by decide)) e_) hs_)); have n5_ := Aside0.mk (blk_kept (by (with_reducible repeat (first | refine blk_drewN ?_ _ | refine blk_drew ?_ | refine blk_alloc ?_ _)); exact BK601.out) hkp (fun hs_ => (fun e_ => (Kd.Rc_ne HO_7.out BK601.out (by decide)) e_) hs_)); have n6_ := Aside0.mk (hb); clear HO_4; clear HO_7; clear HO_602002; clear HO_602005; clear BK575; clear BK601; clear HB; have HO_4 := n0_; have HO_7 := n1_; have HO_602002 := n2_; have HO_602005 := n3_; have BK575 := n4_; have BK601 := n5_; have HB := n6_; clear n0_ n1_ n2_ n3_ n4_ n5_ n6_; (try clear hb); (try clear hkp); (try clear hy0)) | ((with_reducible refine gate_callee (f := 28) rfl ?_); refine goesL_ (some 67) rfl rfl Try.func28 (by kernel_rfl) rfl #[.slice Ao83 t623.length co83, .int .i64 1] rfl (by (try simp only [List.map_toArray, List.map_cons, List.map_nil]); first | done | (rw [show t623.length = t602.length from (Kd.Rc_reads' HO_7.out).1.symm] <;> rfl) | rfl | (simp only [List.length_drop, List.length_take]; rfl)) ?_; (with_reducible refine (laws_heldByteS.calls kj38 _ _ t623 1 t624 _ ?side1 ?side2 A57.out).mono ?_); (case side1 => repeat (first | exact (Kd.Rc_reads' HO_7.out).2.2 | (with_reducible refine Kd.C_alloc ?_ _) | (with_reducible refine Kd.C_drewN ?_ _) | (with_reducible refine Kd.C_drew ?_))); (case side2 => rw [show t623.length = t602.length from (Kd.Rc_reads' HO_7.out).1.symm]; exact (Kd.Rc_reads' HO_7.out).2.1); rintro e w' ⟨rfl, ⟨nd, rfl⟩⟩; refine ⟨_, rfl, ?_⟩))
                      go_ret
                      exact ⟨by first | rfl | (simp [errW_none, errW_some] <;> rfl) | (simp [*, errW_none, errW_some] <;> rfl), by repeat (first | (with_reducible first | exact HB.out | apply below_alloc | apply pw_below_drewN | apply below_drew1 | refine below_set ?_ GE575.out | refine below_set ?_ GE601.out) | exact HB.out)⟩
          · replace c37 := Bool.eq_false_iff.mpr c37
            subst c37
            have H1 : (some false) = some r := by rw [if_neg (show ¬ (false = true) by decide)] at H; exact H
            clear H
            have H := H1
            clear H1
            obtain rfl := Option.some.inj H
            try go_wp2
            have n0_ := Aside0.mk (Kd.Rc_drew HO_4.out)
            have n1_ := Aside0.mk (Kd.Rc_drew HO_7.out)
            have n2_ := Aside0.mk (Kd.Rc_drew HO_602002.out)
            have n3_ := Aside0.mk (Kd.Rc_drew HO_602005.out)
            have n4_ := Aside0.mk (blk_drew BK575.out)
            have n5_ := Aside0.mk (blk_drew BK601.out)
            have n6_ := Aside0.mk (below_drew1 HB.out)
            clear HO_4
            clear HO_7
            clear HO_602002
            clear HO_602005
            clear BK575
            clear BK601
            clear HB
            have HO_4 := n0_
            have HO_7 := n1_
            have HO_602002 := n2_
            have HO_602005 := n3_
            have BK575 := n4_
            have BK601 := n5_
            have HB := n6_
            clear n0_ n1_ n2_ n3_ n4_ n5_ n6_
            refine start_ (n := 5) (S := fun w' => w'.cell? ⟨gb601, 0, none⟩ = some (.int .u8 t591) ∧ w'.cell? ⟨gb601, 1, none⟩ = some (.int .u8 t592) ∧ w'.cell? ⟨gb601, 2, none⟩ = some (.slice Ao25 t593.length co25) ∧ w'.cell? ⟨gb601, 3, none⟩ = some (.int .u8 t596) ∧ w'.cell? ⟨gb601, 4, none⟩ = some (.int .u8 t597) ∧ w'.cell? ⟨gb601, 5, none⟩ = some (.slice Ao26 t598.length co26) ∧ w'.cell? ⟨gb575, 0, none⟩ = some (.int .u8 a0_0) ∧ w'.cell? ⟨gb575, 1, none⟩ = some (.int .u8 a0_1) ∧ w'.cell? ⟨gb575, 2, none⟩ = some (.slice A0_2 l0_2.length c0_2) ∧ w'.cell? ⟨gb575, 3, none⟩ = some (.int .u8 a0_3) ∧ w'.cell? ⟨gb575, 4, none⟩ = some (.int .u8 a0_4) ∧ w'.cell? ⟨gb575, 5, none⟩ = some (.slice A0_5 l0_5.length c0_5)) (ds := []) #[false, false, false, false, false] (by kernel_rfl) rfl rfl ⟨(blk_cell BK601.out 0).trans rfl, (blk_cell BK601.out 1).trans rfl, (blk_cell BK601.out 2).trans rfl, (blk_cell BK601.out 3).trans rfl, (blk_cell BK601.out 4).trans rfl, (blk_cell BK601.out 5).trans rfl, (blk_cell BK575.out 0).trans rfl, (blk_cell BK575.out 1).trans rfl, (blk_cell BK575.out 2).trans rfl, (blk_cell BK575.out 3).trans rfl, (blk_cell BK575.out 4).trans rfl, (blk_cell BK575.out 5).trans rfl⟩ (fun hHeld => ?_)
            generalize wc.drew = w85 at HO_4 HO_7 HO_602002 HO_602005 BK575 BK601 HB hHeld ⊢
            refine take_ (i := 0) (N := some 41) (v := ?_) (a' := ?_) #[true, false, false, false, false] rfl rfl (by kernel_rfl) (fun _ _ _ h => h) (Or.inl ⟨by rfl, ?_⟩) hHeld ?_ ?_
            rotate_left
            · rintro w' ⟨s0, s1, s2, s3, s4, s5, s6, s7, s8, s9, s10, s11⟩
              go_simp
              with_reducible rfl
            rotate_left
            · simp only [Act.put, List.setIfInBounds_toArray, List.set_cons_zero, List.set_cons_succ, i64_w, i32_w]
              rfl
            refine take_ (i := 1) (N := some 42) (v := ?_) (a' := ?_) #[true, true, false, false, false] rfl rfl (by kernel_rfl) (fun _ _ _ h => h) (Or.inl ⟨by rfl, ?_⟩) hHeld ?_ ?_
            rotate_left
            · rintro w' ⟨s0, s1, s2, s3, s4, s5, s6, s7, s8, s9, s10, s11⟩
              go_simp
              with_reducible rfl
            rotate_left
            · simp only [Act.put, List.setIfInBounds_toArray, List.set_cons_zero, List.set_cons_succ, i64_w, i32_w]
              rfl
            refine one_ (i := 2) (N := some 43) #[true, true, true, false, false] rfl rfl (by kernel_rfl) (by decide) (fun K hK => ?_)
            refine goes_ Try.func40 (by kernel_rfl) rfl #[.agg #[.int .u8 a0_0, .int .u8 a0_1, .slice A0_2 l0_2.length c0_2, .int .u8 a0_3, .int .u8 a0_4, .slice A0_5 l0_5.length c0_5]] (by rfl) rfl rfl (by (try simp only [List.map_toArray, List.map_cons, List.map_nil]); first | done | rfl | (simp only [List.length_drop, List.length_take]; rfl)) ?_
            with_reducible refine (laws_toHoldRom.callsC kj10 a0_0 a0_1 _ _ l0_2 a0_3 a0_4 _ _ l0_5 t607 t608 t609 t612 t613 t614 _ ?side1 ?side2 ?side3 ?side4 A35.out).mono ?_
            (case side1 => repeat (first | exact (Kd.C_below HR0_2.out HB.out) | (with_reducible refine Kd.C_alloc ?_ _) | (with_reducible refine Kd.C_drewN ?_ _) | (with_reducible refine Kd.C_drew ?_)))
            (case side2 => exact HC0_2.out)
            (case side3 => repeat (first | exact (Kd.C_below HR0_5.out HB.out) | (with_reducible refine Kd.C_alloc ?_ _) | (with_reducible refine Kd.C_drewN ?_ _) | (with_reducible refine Kd.C_drew ?_)))
            (case side4 => exact HC0_5.out)
            rintro e w86 ⟨v610, v615, rfl, ho0, ho1, hb⟩
            refine ⟨_, rfl, ?_⟩
            have n0_ := Aside0.mk (Kd.Rc_mono (Kd.Rc_told (Kd.Rc_told (Kd.Rc_old (by (with_reducible repeat (first | apply Kd.Rc_alloc | apply Kd.Rc_drewN | apply Kd.Rc_drew)); exact HO_4.out) hb) (Kd.Rc_base ho0)) (Kd.Rc_base ho1)) (fun _ h_ => h_.1))
            have n1_ := Aside0.mk (Kd.Rc_mono (Kd.Rc_told (Kd.Rc_told (Kd.Rc_old (by (with_reducible repeat (first | apply Kd.Rc_alloc | apply Kd.Rc_drewN | apply Kd.Rc_drew)); exact HO_7.out) hb) (Kd.Rc_base ho0)) (Kd.Rc_base ho1)) (fun _ h_ => h_.1))
            have n2_ := Aside0.mk (Kd.Rc_mono (Kd.Rc_told (Kd.Rc_told (Kd.Rc_old (by (with_reducible repeat (first | apply Kd.Rc_alloc | apply Kd.Rc_drewN | apply Kd.Rc_drew)); exact HO_602002.out) hb) (Kd.Rc_base ho0)) (Kd.Rc_base ho1)) (fun _ h_ => h_.1))
            have n3_ := Aside0.mk (Kd.Rc_mono (Kd.Rc_told (Kd.Rc_told (Kd.Rc_old (by (with_reducible repeat (first | apply Kd.Rc_alloc | apply Kd.Rc_drewN | apply Kd.Rc_drew)); exact HO_602005.out) hb) (Kd.Rc_base ho0)) (Kd.Rc_base ho1)) (fun _ h_ => h_.1))
            have n4_ := Aside0.mk (Kd.Rc_lower (Kd.Rc_new' (Kd.Rc_new' (Kd.Rc_new' (Kd.Rc_new' ho0 (Kd.Rc_lt (by (with_reducible repeat (first | apply Kd.Rc_alloc | apply Kd.Rc_drewN | apply Kd.Rc_drew)); exact HO_4.out))) (Kd.Rc_lt (by (with_reducible repeat (first | apply Kd.Rc_alloc | apply Kd.Rc_drewN | apply Kd.Rc_drew)); exact HO_7.out))) (Kd.Rc_lt (by (with_reducible repeat (first | apply Kd.Rc_alloc | apply Kd.Rc_drewN | apply Kd.Rc_drew)); exact HO_602002.out))) (Kd.Rc_lt (by (with_reducible repeat (first | apply Kd.Rc_alloc | apply Kd.Rc_drewN | apply Kd.Rc_drew)); exact HO_602005.out))) (below_size (by repeat (first | (with_reducible first | exact HB.out | apply below_alloc | apply pw_below_drewN | apply below_drew1 | refine below_set ?_ GE575.out | refine below_set ?_ GE601.out) | exact HB.out))))
            have n5_ := Aside0.mk (Kd.Rc_lower (Kd.Rc_new' (Kd.Rc_new' (Kd.Rc_new' (Kd.Rc_new' ho1 (Kd.Rc_lt (by (with_reducible repeat (first | apply Kd.Rc_alloc | apply Kd.Rc_drewN | apply Kd.Rc_drew)); exact HO_4.out))) (Kd.Rc_lt (by (with_reducible repeat (first | apply Kd.Rc_alloc | apply Kd.Rc_drewN | apply Kd.Rc_drew)); exact HO_7.out))) (Kd.Rc_lt (by (with_reducible repeat (first | apply Kd.Rc_alloc | apply Kd.Rc_drewN | apply Kd.Rc_drew)); exact HO_602002.out))) (Kd.Rc_lt (by (with_reducible repeat (first | apply Kd.Rc_alloc | apply Kd.Rc_drewN | apply Kd.Rc_drew)); exact HO_602005.out))) (below_size (by repeat (first | (with_reducible first | exact HB.out | apply below_alloc | apply pw_below_drewN | apply below_drew1 | refine below_set ?_ GE575.out | refine below_set ?_ GE601.out) | exact HB.out))))
            have n6_ := Aside0.mk (blk_below (g := gb575) (o := .cells #[.int .u8 a0_0, .int .u8 a0_1, .slice A0_2 l0_2.length c0_2, .int .u8 a0_3, .int .u8 a0_4, .slice A0_5 l0_5.length c0_5] 47 (0, 0)) (by (with_reducible repeat (first | refine blk_drewN ?_ _ | refine blk_drew ?_ | refine blk_alloc ?_ _)); exact BK575.out) hb)
            have n7_ := Aside0.mk (blk_below (g := gb601) (o := .cells #[.int .u8 t591, .int .u8 t592, .slice Ao25 t593.length co25, .int .u8 t596, .int .u8 t597, .slice Ao26 t598.length co26] 52 (0, 0)) (by (with_reducible repeat (first | refine blk_drewN ?_ _ | refine blk_drew ?_ | refine blk_alloc ?_ _)); exact BK601.out) hb)
            have n8_ := Aside0.mk (below_step (by repeat (first | (with_reducible first | exact HB.out | apply below_alloc | apply pw_below_drewN | apply below_drew1 | refine below_set ?_ GE575.out | refine below_set ?_ GE601.out) | exact HB.out)) hb)
            clear HO_4
            clear HO_7
            clear HO_602002
            clear HO_602005
            clear BK575
            clear BK601
            clear HB
            have HO_4 := n0_
            have HO_7 := n1_
            have HO_602002 := n2_
            have HO_602005 := n3_
            have HO611 := n4_
            have HO616 := n5_
            have BK575 := n6_
            have BK601 := n7_
            have HB := n8_
            clear n0_ n1_ n2_ n3_ n4_ n5_ n6_ n7_ n8_
            (try clear hb)
            (try clear hb2)
            (try clear hk)
            (try clear hi)
            (try clear ho0)
            (try clear ho1)
            obtain ⟨Ao87, co87, eo87⟩ := Kd.Rc_slice HO611.out
            (first | subst eo87 | (injection eo87 with f1_ f2_ f3_; have f4_ := f1_.symm; have f5_ := f3_.symm; clear f1_ f2_ f3_; subst f4_; subst f5_))
            obtain ⟨Ao88, co88, eo88⟩ := Kd.Rc_slice HO616.out
            (first | subst eo88 | (injection eo88 with f1_ f2_ f3_; have f4_ := f1_.symm; have f5_ := f3_.symm; clear f1_ f2_ f3_; subst f4_; subst f5_))
            refine hK.out _ _ ⟨(blk_cell BK601.out 0).trans rfl, (blk_cell BK601.out 1).trans rfl, (blk_cell BK601.out 2).trans rfl, (blk_cell BK601.out 3).trans rfl, (blk_cell BK601.out 4).trans rfl, (blk_cell BK601.out 5).trans rfl, (blk_cell BK575.out 0).trans rfl, (blk_cell BK575.out 1).trans rfl, (blk_cell BK575.out 2).trans rfl, (blk_cell BK575.out 3).trans rfl, (blk_cell BK575.out 4).trans rfl, (blk_cell BK575.out 5).trans rfl⟩ (fun hHeld => ?_)
            clear hK K
            refine norm_ (a' := ?_) ?_ ?_
            rotate_left
            · show Act.put _ (some 43) _ = _
              simp only [Act.put, List.setIfInBounds_toArray, List.set_cons_zero, List.set_cons_succ, i64_w, i32_w]
              rfl
            refine one_ (i := 3) (N := some 44) #[true, true, true, true, false] rfl rfl (by kernel_rfl) (by decide) (fun K hK => ?_)
            refine goes_ Try.func42 (by kernel_rfl) rfl #[.agg #[.int .u8 t591, .int .u8 t592, .slice Ao25 t593.length co25, .int .u8 t596, .int .u8 t597, .slice Ao26 t598.length co26], .agg #[.int .u8 t607, .int .u8 t608, .slice Ao87 t609.length co87, .int .u8 t612, .int .u8 t613, .slice Ao88 t614.length co88]] (by rfl) rfl rfl (by (try simp only [List.map_toArray, List.map_cons, List.map_nil]); first | done | rfl | (simp only [List.length_drop, List.length_take]; rfl)) ?_
            with_reducible refine (laws_eqHoldRom.calls kj10 t591 t592 _ _ t593 t596 t597 _ _ t598 t607 t608 _ _ t609 t612 t613 _ _ t614 false _ ?side1 ?side2 ?side3 ?side4 ?side5 ?side6 ?side7 ?side8 A36.out).mono ?_
            (case side1 => repeat (first | exact (Kd.Rc_reads' HO_602002.out).2.2 | (with_reducible refine Kd.C_alloc ?_ _) | (with_reducible refine Kd.C_drewN ?_ _) | (with_reducible refine Kd.C_drew ?_)))
            (case side2 => exact (Kd.Rc_reads' HO_602002.out).2.1)
            (case side3 => repeat (first | exact (Kd.Rc_reads' HO_602005.out).2.2 | (with_reducible refine Kd.C_alloc ?_ _) | (with_reducible refine Kd.C_drewN ?_ _) | (with_reducible refine Kd.C_drew ?_)))
            (case side4 => exact (Kd.Rc_reads' HO_602005.out).2.1)
            (case side5 => repeat (first | exact (Kd.Rc_reads' HO611.out).2.2 | (with_reducible refine Kd.C_alloc ?_ _) | (with_reducible refine Kd.C_drewN ?_ _) | (with_reducible refine Kd.C_drew ?_)))
            (case side6 => exact (Kd.Rc_reads' HO611.out).2.1)
            (case side7 => repeat (first | exact (Kd.Rc_reads' HO616.out).2.2 | (with_reducible refine Kd.C_alloc ?_ _) | (with_reducible refine Kd.C_drewN ?_ _) | (with_reducible refine Kd.C_drew ?_)))
            (case side8 => exact (Kd.Rc_reads' HO616.out).2.1)
            rintro e w89 ⟨rfl, hb⟩
            refine ⟨_, rfl, ?_⟩
            have n0_ := Aside0.mk (Kd.Rc_below (by (with_reducible repeat (first | apply Kd.Rc_alloc | apply Kd.Rc_drewN | apply Kd.Rc_drew)); exact HO_4.out) hb)
            have n1_ := Aside0.mk (Kd.Rc_below (by (with_reducible repeat (first | apply Kd.Rc_alloc | apply Kd.Rc_drewN | apply Kd.Rc_drew)); exact HO_7.out) hb)
            have n2_ := Aside0.mk (Kd.Rc_below (by (with_reducible repeat (first | apply Kd.Rc_alloc | apply Kd.Rc_drewN | apply Kd.Rc_drew)); exact HO_602002.out) hb)
            have n3_ := Aside0.mk (Kd.Rc_below (by (with_reducible repeat (first | apply Kd.Rc_alloc | apply Kd.Rc_drewN | apply Kd.Rc_drew)); exact HO_602005.out) hb)
            have n4_ := Aside0.mk (Kd.Rc_below (by (with_reducible repeat (first | apply Kd.Rc_alloc | apply Kd.Rc_drewN | apply Kd.Rc_drew)); exact HO611.out) hb)
            have n5_ := Aside0.mk (Kd.Rc_below (by (with_reducible repeat (first | apply Kd.Rc_alloc | apply Kd.Rc_drewN | apply Kd.Rc_drew)); exact HO616.out) hb)
            have n6_ := Aside0.mk (blk_below (g := gb575) (o := .cells #[.int .u8 a0_0, .int .u8 a0_1, .slice A0_2 l0_2.length c0_2, .int .u8 a0_3, .int .u8 a0_4, .slice A0_5 l0_5.length c0_5] 47 (0, 0)) (by (with_reducible repeat (first | refine blk_drewN ?_ _ | refine blk_drew ?_ | refine blk_alloc ?_ _)); exact BK575.out) hb)
            have n7_ := Aside0.mk (blk_below (g := gb601) (o := .cells #[.int .u8 t591, .int .u8 t592, .slice Ao25 t593.length co25, .int .u8 t596, .int .u8 t597, .slice Ao26 t598.length co26] 52 (0, 0)) (by (with_reducible repeat (first | refine blk_drewN ?_ _ | refine blk_drew ?_ | refine blk_alloc ?_ _)); exact BK601.out) hb)
            have n8_ := Aside0.mk (below_step (by repeat (first | (with_reducible first | exact HB.out | apply below_alloc | apply pw_below_drewN | apply below_drew1 | refine below_set ?_ GE575.out | refine below_set ?_ GE601.out) | exact HB.out)) hb)
            clear HO_4
            clear HO_7
            clear HO_602002
            clear HO_602005
            clear HO611
            clear HO616
            clear BK575
            clear BK601
            clear HB
            have HO_4 := n0_
            have HO_7 := n1_
            have HO_602002 := n2_
            have HO_602005 := n3_
            have HO611 := n4_
            have HO616 := n5_
            have BK575 := n6_
            have BK601 := n7_
            have HB := n8_
            clear n0_ n1_ n2_ n3_ n4_ n5_ n6_ n7_ n8_
            (try clear hb)
            (try clear hb2)
            (try clear hk)
            (try clear hi)
            refine hK.out _ _ ⟨(blk_cell BK601.out 0).trans rfl, (blk_cell BK601.out 1).trans rfl, (blk_cell BK601.out 2).trans rfl, (blk_cell BK601.out 3).trans rfl, (blk_cell BK601.out 4).trans rfl, (blk_cell BK601.out 5).trans rfl, (blk_cell BK575.out 0).trans rfl, (blk_cell BK575.out 1).trans rfl, (blk_cell BK575.out 2).trans rfl, (blk_cell BK575.out 3).trans rfl, (blk_cell BK575.out 4).trans rfl, (blk_cell BK575.out 5).trans rfl⟩ (fun hHeld => ?_)
            clear hK K
            refine norm_ (a' := ?_) ?_ ?_
            rotate_left
            · show Act.put _ (some 44) _ = _
              simp only [Act.put, List.setIfInBounds_toArray, List.set_cons_zero, List.set_cons_succ, i64_w, i32_w]
              rfl
            refine pure_ (i := 4) (N := some 45) (v := ?_) (a' := ?_) #[true, true, true, true, true] rfl rfl (by kernel_rfl) (fun _ _ _ h => h) (Or.inl ⟨by rfl, ?_⟩) ?_ ?_
            rotate_left
            · intro w'
              go_simp
              with_reducible rfl
            rotate_left
            · simp only [Act.put, List.setIfInBounds_toArray, List.set_cons_zero, List.set_cons_succ, i64_w, i32_w]
              rfl
            refine done_ (by kernel_rfl) ?_
            try go_wp2
            go_ret
            exact ⟨by first | rfl | (simp [errW_none, errW_some] <;> rfl) | (simp [*, errW_none, errW_some] <;> rfl), by repeat (first | (with_reducible first | exact HB.out | apply below_alloc | apply pw_below_drewN | apply below_drew1 | refine below_set ?_ GE575.out | refine below_set ?_ GE601.out) | exact HB.out)⟩

end Go.Proofs.Ytoeijldmebocmaa.F
