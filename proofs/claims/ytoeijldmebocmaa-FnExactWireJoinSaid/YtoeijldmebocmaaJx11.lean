/- Functions of this seat as Lean functions, and that the Go code comes to their answers: laid by a program (the kit's printer over all laws of the seat at once, some walks turned by the session's own fix.py). -/
import Derived.Test.YtoeijldmebocmaaMark
import Derived.Test.YtoeijldmebocmaaCcWireJoin
import Derived.Test.YtoeijldmebocmaaJx0
import Derived.Test.YtoeijldmebocmaaJx1
import Derived.Test.YtoeijldmebocmaaJx4
import Derived.Test.YtoeijldmebocmaaJx6
import Derived.Test.YtoeijldmebocmaaJx7
import Derived.Test.YtoeijldmebocmaaJx9
import Derived.Test.YtoeijldmebocmaaJx10
namespace Go.Proofs.Ytoeijldmebocmaa.J
open Go.RowKit Go.Proofs.YtoeijldmebocmaaW.PrintWords Go.Proofs.YtoeijldmebocmaaW.PrintLast Go.Proofs.YtoeijldmebocmaaW.PrintMore
attribute [local go_sem] max2_int min2_int max_two min_two max_three min_three max_four min_four   -- for this text's walks alone
set_option linter.unusedVariables false
set_option linter.unusedSimpArgs false

/-! ### laws_FnExactWireJoin: function 14 -/
mutual
def laws_FnExactWireJoin.j0 : Nat → List (S37) → List Int → Bool → List (S40) → List Int → Bool → Bool → Option (Bool)
  | 0, _, _, _, _, _, _, _ => none
  | k + 1, x0, x4, x5, x6, x7, x8, x40 => if x40 = true then (some false) else ((laws_toWireWordS.f k x0).bind fun t193 => ((laws_eqWireWordS.f k x6 t193).bind fun t196 => (if t196 = true then ((laws_markWireWordS.f k x6 1).bind fun t197 => (if t197 < 0 then (laws_FnExactWireJoin.j1 k x0 x4 x5 x7 true) else ((laws_eqByteS.f k x7 x4).bind fun t198 => (if t198 = true then (laws_FnExactWireJoin.j1 k x0 x4 x5 x7 (x8 != x5)) else (laws_FnExactWireJoin.j1 k x0 x4 x5 x7 true))))) else (some false))))
def laws_FnExactWireJoin.j1 : Nat → List (S37) → List Int → Bool → List Int → Bool → Option (Bool)
  | 0, _, _, _, _, _ => none
  | k + 1, x0, x4, x5, x7, x61 => if x61 = true then (some false) else ((laws_markByteS.f k x7 1).bind fun bt199 => ((laws_heldByteS.f k bt199.2 1).bind fun t201 => (if t201 < 0 then (some false) else (if t201 = bt199.1 then ((laws_toWireWordS.f k x0).bind fun t202 => ((impl_WireJoin.f k t202).bind fun bt205 => ((laws_eqByteS.f k bt205.1 x4).bind fun t209 => (if t209 = true then (laws_FnExactWireJoin.j2 k bt199.2 bt199.1 (bt205.2 != x5)) else (laws_FnExactWireJoin.j2 k bt199.2 bt199.1 true))))) else (some false)))))
def laws_FnExactWireJoin.j2 : Nat → List Int → Int → Bool → Option (Bool)
  | 0, _, _, _ => none
  | k + 1, x7, x10, x87 => if x87 = true then (some false) else ((laws_heldByteS.f k x7 1).bind fun t210 => (if t210 < 0 then (some false) else (if t210 = x10 then (some true) else (some false))))
end
def laws_FnExactWireJoin.f (k : Nat) (l0 : List (S37)) : Option (Bool) := (laws_szWireWordS.f k l0 1048576).bind fun t177 => (if t177 < 0 then (some true) else ((laws_toWireWordS.f k l0).bind fun t178 => ((spec_WireJoin.f k t178).bind fun bt181 => ((laws_toWireWordS.f k l0).bind fun t185 => ((impl_WireJoin.f k t185).bind fun bt188 => ((laws_eqByteS.f k bt188.1 bt181.1).bind fun t192 => (if t192 = true then (laws_FnExactWireJoin.j0 k l0 bt181.1 bt181.2 t185 bt188.1 bt188.2 (bt188.2 != bt181.2)) else (laws_FnExactWireJoin.j0 k l0 bt181.1 bt181.2 t185 bt188.1 bt188.2 true))))))))
theorem laws_FnExactWireJoin.mono_l : ∀ k, (∀ y0 y1 y2 y3 y4 y5 y6, LeO (laws_FnExactWireJoin.j0 k y0 y1 y2 y3 y4 y5 y6) (laws_FnExactWireJoin.j0 (k + 1) y0 y1 y2 y3 y4 y5 y6)) ∧ (∀ y0 y1 y2 y3 y4, LeO (laws_FnExactWireJoin.j1 k y0 y1 y2 y3 y4) (laws_FnExactWireJoin.j1 (k + 1) y0 y1 y2 y3 y4)) ∧ (∀ y0 y1 y2, LeO (laws_FnExactWireJoin.j2 k y0 y1 y2) (laws_FnExactWireJoin.j2 (k + 1) y0 y1 y2))
  | 0 => ⟨fun _ _ _ _ _ _ _ r h => by simp [laws_FnExactWireJoin.j0] at h, fun _ _ _ _ _ r h => by simp [laws_FnExactWireJoin.j1] at h, fun _ _ _ r h => by simp [laws_FnExactWireJoin.j2] at h⟩
  | k + 1 => by
    obtain ⟨ih0, ih1, ih2⟩ := laws_FnExactWireJoin.mono_l k
    refine ⟨?_, ?_, ?_⟩
    · intro y0 y1 y2 y3 y4 y5 y6
      unfold laws_FnExactWireJoin.j0
      repeat' first
      | (with_reducible exact ih0 _ _ _ _ _ _ _)
      | (with_reducible exact ih1 _ _ _ _ _)
      | (with_reducible exact ih2 _ _ _)
      | (with_reducible exact impl_WireJoin.mono _ _)
      | (with_reducible exact laws_eqByteS.mono _ _ _)
      | (with_reducible exact laws_eqWireWordS.mono _ _ _)
      | (with_reducible exact laws_heldByteS.mono _ _ _)
      | (with_reducible exact laws_markByteS.mono _ _ _)
      | (with_reducible exact laws_markWireWordS.mono _ _ _)
      | (with_reducible exact laws_szWireWordS.mono _ _ _)
      | (with_reducible exact laws_toWireWordS.mono _ _)
      | (with_reducible exact spec_WireJoin.mono _ _)
      | (with_reducible exact LeO.refl _)
      | (with_reducible exact LeO.none _)
      | (with_reducible refine LeO.ite ?_ ?_)
      | (with_reducible refine LeO.bind ?_ (fun _ => ?_))
      | exact ih0 _ _ _ _ _ _ _
      | exact ih1 _ _ _ _ _
      | exact ih2 _ _ _
      | exact impl_WireJoin.mono _ _
      | exact laws_eqByteS.mono _ _ _
      | exact laws_eqWireWordS.mono _ _ _
      | exact laws_heldByteS.mono _ _ _
      | exact laws_markByteS.mono _ _ _
      | exact laws_markWireWordS.mono _ _ _
      | exact laws_szWireWordS.mono _ _ _
      | exact laws_toWireWordS.mono _ _
      | exact spec_WireJoin.mono _ _
      | exact LeO.none _
      | refine LeO.ite ?_ ?_
      | refine LeO.bind ?_ (fun _ => ?_)
    · intro y0 y1 y2 y3 y4
      unfold laws_FnExactWireJoin.j1
      repeat' first
      | (with_reducible exact ih0 _ _ _ _ _ _ _)
      | (with_reducible exact ih1 _ _ _ _ _)
      | (with_reducible exact ih2 _ _ _)
      | (with_reducible exact impl_WireJoin.mono _ _)
      | (with_reducible exact laws_eqByteS.mono _ _ _)
      | (with_reducible exact laws_eqWireWordS.mono _ _ _)
      | (with_reducible exact laws_heldByteS.mono _ _ _)
      | (with_reducible exact laws_markByteS.mono _ _ _)
      | (with_reducible exact laws_markWireWordS.mono _ _ _)
      | (with_reducible exact laws_szWireWordS.mono _ _ _)
      | (with_reducible exact laws_toWireWordS.mono _ _)
      | (with_reducible exact spec_WireJoin.mono _ _)
      | (with_reducible exact LeO.refl _)
      | (with_reducible exact LeO.none _)
      | (with_reducible refine LeO.ite ?_ ?_)
      | (with_reducible refine LeO.bind ?_ (fun _ => ?_))
      | exact ih0 _ _ _ _ _ _ _
      | exact ih1 _ _ _ _ _
      | exact ih2 _ _ _
      | exact impl_WireJoin.mono _ _
      | exact laws_eqByteS.mono _ _ _
      | exact laws_eqWireWordS.mono _ _ _
      | exact laws_heldByteS.mono _ _ _
      | exact laws_markByteS.mono _ _ _
      | exact laws_markWireWordS.mono _ _ _
      | exact laws_szWireWordS.mono _ _ _
      | exact laws_toWireWordS.mono _ _
      | exact spec_WireJoin.mono _ _
      | exact LeO.none _
      | refine LeO.ite ?_ ?_
      | refine LeO.bind ?_ (fun _ => ?_)
    · intro y0 y1 y2
      unfold laws_FnExactWireJoin.j2
      repeat' first
      | (with_reducible exact ih0 _ _ _ _ _ _ _)
      | (with_reducible exact ih1 _ _ _ _ _)
      | (with_reducible exact ih2 _ _ _)
      | (with_reducible exact impl_WireJoin.mono _ _)
      | (with_reducible exact laws_eqByteS.mono _ _ _)
      | (with_reducible exact laws_eqWireWordS.mono _ _ _)
      | (with_reducible exact laws_heldByteS.mono _ _ _)
      | (with_reducible exact laws_markByteS.mono _ _ _)
      | (with_reducible exact laws_markWireWordS.mono _ _ _)
      | (with_reducible exact laws_szWireWordS.mono _ _ _)
      | (with_reducible exact laws_toWireWordS.mono _ _)
      | (with_reducible exact spec_WireJoin.mono _ _)
      | (with_reducible exact LeO.refl _)
      | (with_reducible exact LeO.none _)
      | (with_reducible refine LeO.ite ?_ ?_)
      | (with_reducible refine LeO.bind ?_ (fun _ => ?_))
      | exact ih0 _ _ _ _ _ _ _
      | exact ih1 _ _ _ _ _
      | exact ih2 _ _ _
      | exact impl_WireJoin.mono _ _
      | exact laws_eqByteS.mono _ _ _
      | exact laws_eqWireWordS.mono _ _ _
      | exact laws_heldByteS.mono _ _ _
      | exact laws_markByteS.mono _ _ _
      | exact laws_markWireWordS.mono _ _ _
      | exact laws_szWireWordS.mono _ _ _
      | exact laws_toWireWordS.mono _ _
      | exact spec_WireJoin.mono _ _
      | exact LeO.none _
      | refine LeO.ite ?_ ?_
      | refine LeO.bind ?_ (fun _ => ?_)
theorem laws_FnExactWireJoin.mono : ∀ a0 k, LeO (laws_FnExactWireJoin.f k a0) (laws_FnExactWireJoin.f (k + 1) a0) := by
  intro a0 k
  obtain ⟨ih0, ih1, ih2⟩ := laws_FnExactWireJoin.mono_l k
  unfold laws_FnExactWireJoin.f
  repeat' first
      | (with_reducible exact ih0 _ _ _ _ _ _ _)
      | (with_reducible exact ih1 _ _ _ _ _)
      | (with_reducible exact ih2 _ _ _)
      | (with_reducible exact impl_WireJoin.mono _ _)
      | (with_reducible exact laws_eqByteS.mono _ _ _)
      | (with_reducible exact laws_eqWireWordS.mono _ _ _)
      | (with_reducible exact laws_heldByteS.mono _ _ _)
      | (with_reducible exact laws_markByteS.mono _ _ _)
      | (with_reducible exact laws_markWireWordS.mono _ _ _)
      | (with_reducible exact laws_szWireWordS.mono _ _ _)
      | (with_reducible exact laws_toWireWordS.mono _ _)
      | (with_reducible exact spec_WireJoin.mono _ _)
      | (with_reducible exact LeO.refl _)
      | (with_reducible exact LeO.none _)
      | (with_reducible refine LeO.ite ?_ ?_)
      | (with_reducible refine LeO.bind ?_ (fun _ => ?_))
      | exact ih0 _ _ _ _ _ _ _
      | exact ih1 _ _ _ _ _
      | exact ih2 _ _ _
      | exact impl_WireJoin.mono _ _
      | exact laws_eqByteS.mono _ _ _
      | exact laws_eqWireWordS.mono _ _ _
      | exact laws_heldByteS.mono _ _ _
      | exact laws_markByteS.mono _ _ _
      | exact laws_markWireWordS.mono _ _ _
      | exact laws_szWireWordS.mono _ _ _
      | exact laws_toWireWordS.mono _ _
      | exact spec_WireJoin.mono _ _
      | exact LeO.none _
      | refine LeO.ite ?_ ?_
      | refine LeO.bind ?_ (fun _ => ?_)
set_option maxHeartbeats 8000000 in
set_option maxRecDepth 100000 in
theorem laws_FnExactWireJoin.calls (k : Nat) (A0 : Option Addr) (c0 : Nat) (l0 : List (S37)) (r : Bool) (w : World) (hr0 : Kd.C k37 w A0 l0.length l0) (hc0 : l0.length ≤ c0) (h : laws_FnExactWireJoin.f k l0 = some r) :
    Calls Try.prog 14 #[.slice A0 l0.length c0] w fun e w' => e = .returned (.bool r) ∧ Below w.heap.size w w' := by
  have HR0 := Aside0.mk hr0
  have HC0 := Aside0.mk hc0
  clear hr0 hc0
  have HB := Aside0.mk (Below.refl w.heap.size w)
  have H : ((laws_szWireWordS.f k l0 1048576).bind fun t177 => (if t177 < 0 then (some true) else ((laws_toWireWordS.f k l0).bind fun t178 => ((spec_WireJoin.f k t178).bind fun bt181 => ((laws_toWireWordS.f k l0).bind fun t185 => ((impl_WireJoin.f k t185).bind fun bt188 => ((laws_eqByteS.f k bt188.1 bt181.1).bind fun t192 => (if t192 = true then (laws_FnExactWireJoin.j0 k l0 bt181.1 bt181.2 t185 bt188.1 bt188.2 (bt188.2 != bt181.2)) else (laws_FnExactWireJoin.j0 k l0 bt181.1 bt181.2 t185 bt188.1 bt188.2 true))))))))) = some r := h
  clear h
  replace H := Option.bind_eq_some_iff.mp H
  obtain ⟨t177, A20, H⟩ := H
  replace H : (if t177 < 0 then (some true) else ((laws_toWireWordS.f k l0).bind fun t178 => ((spec_WireJoin.f k t178).bind fun bt181 => ((laws_toWireWordS.f k l0).bind fun t185 => ((impl_WireJoin.f k t185).bind fun bt188 => ((laws_eqByteS.f k bt188.1 bt181.1).bind fun t192 => (if t192 = true then (laws_FnExactWireJoin.j0 k l0 bt181.1 bt181.2 t185 bt188.1 bt188.2 (bt188.2 != bt181.2)) else (laws_FnExactWireJoin.j0 k l0 bt181.1 bt181.2 t185 bt188.1 bt188.2 true)))))))) = some r := H
  have A2 := Aside0.mk A20
  clear A20
  by_cases c3 : t177 < 0
  · rw [if_pos c3] at H
    have c3b0 : decide (t177 < 0) = true := decide_eq_true c3
    clear c3
    obtain rfl := Option.some.inj H
    go_enter Try.func14, Try.ntmps14
    go_wp2_with (first | ((with_reducible refine gate_callee (f := 53) rfl ?_); refine goesL_ (some 16) rfl rfl Try.func53 (by kernel_rfl) rfl #[.slice A0 l0.length c0, .int .i64 1048576] rfl (by (try simp only [List.map_toArray, List.map_cons, List.map_nil]); first | done | rfl | (simp only [List.length_drop, List.length_take]; rfl)) ?_; (with_reducible refine (laws_szWireWordS.calls k _ _ l0 1048576 t177 _ ?side1 ?side2 A2.out).mono ?_); (case side1 => repeat (first | exact HR0.out | (with_reducible refine Kd.C_alloc ?_ _) | (with_reducible refine Kd.C_drewN ?_ _) | (with_reducible refine Kd.C_drew ?_))); (case side2 => exact HC0.out); rintro e w4 ⟨rfl, hb⟩; refine ⟨_, rfl, ?_⟩; have n0_ := Aside0.mk (below_step (by repeat (first | (with_reducible first | exact HB.out | apply below_alloc | apply pw_below_drewN | apply below_drew1) | exact HB.out)) hb); clear HB; have HB := n0_; clear n0_; (try clear hb); (try clear hb2); (try clear hk); (try clear hi)))
    go_ret
    exact ⟨by first | rfl | (simp [errW_none, errW_some] <;> rfl) | (simp [*, errW_none, errW_some] <;> rfl), by repeat (first | (with_reducible first | exact HB.out | apply below_alloc | apply pw_below_drewN | apply below_drew1) | exact HB.out)⟩
  · rw [if_neg c3] at H
    have c3b0 : decide (t177 < 0) = false := decide_eq_false c3
    clear c3
    replace H := Option.bind_eq_some_iff.mp H
    obtain ⟨t178, A50, H⟩ := H
    replace H : ((spec_WireJoin.f k t178).bind fun bt181 => ((laws_toWireWordS.f k l0).bind fun t185 => ((impl_WireJoin.f k t185).bind fun bt188 => ((laws_eqByteS.f k bt188.1 bt181.1).bind fun t192 => (if t192 = true then (laws_FnExactWireJoin.j0 k l0 bt181.1 bt181.2 t185 bt188.1 bt188.2 (bt188.2 != bt181.2)) else (laws_FnExactWireJoin.j0 k l0 bt181.1 bt181.2 t185 bt188.1 bt188.2 true)))))) = some r := H
    have A5 := Aside0.mk A50
    clear A50
    replace H := Option.bind_eq_some_iff.mp H
    obtain ⟨⟨t181, t182⟩, A60, H⟩ := H
    replace H : ((laws_toWireWordS.f k l0).bind fun t185 => ((impl_WireJoin.f k t185).bind fun bt188 => ((laws_eqByteS.f k bt188.1 t181).bind fun t192 => (if t192 = true then (laws_FnExactWireJoin.j0 k l0 t181 t182 t185 bt188.1 bt188.2 (bt188.2 != t182)) else (laws_FnExactWireJoin.j0 k l0 t181 t182 t185 bt188.1 bt188.2 true))))) = some r := H
    have A6 := Aside0.mk A60
    clear A60
    replace H := Option.bind_eq_some_iff.mp H
    obtain ⟨t185, A70, H⟩ := H
    replace H : ((impl_WireJoin.f k t185).bind fun bt188 => ((laws_eqByteS.f k bt188.1 t181).bind fun t192 => (if t192 = true then (laws_FnExactWireJoin.j0 k l0 t181 t182 t185 bt188.1 bt188.2 (bt188.2 != t182)) else (laws_FnExactWireJoin.j0 k l0 t181 t182 t185 bt188.1 bt188.2 true)))) = some r := H
    have A7 := Aside0.mk A70
    clear A70
    replace H := Option.bind_eq_some_iff.mp H
    obtain ⟨⟨t188, t189⟩, A80, H⟩ := H
    replace H : ((laws_eqByteS.f k t188 t181).bind fun t192 => (if t192 = true then (laws_FnExactWireJoin.j0 k l0 t181 t182 t185 t188 t189 (t189 != t182)) else (laws_FnExactWireJoin.j0 k l0 t181 t182 t185 t188 t189 true))) = some r := H
    have A8 := Aside0.mk A80
    clear A80
    have HC9 := Aside0.mk H
    clear H
    go_enter Try.func14, Try.ntmps14
    go_upto_region 8 with (first | ((with_reducible refine gate_callee (f := 53) rfl ?_); refine goesL_ (some 16) rfl rfl Try.func53 (by kernel_rfl) rfl #[.slice A0 l0.length c0, .int .i64 1048576] rfl (by (try simp only [List.map_toArray, List.map_cons, List.map_nil]); first | done | rfl | (simp only [List.length_drop, List.length_take]; rfl)) ?_; (with_reducible refine (laws_szWireWordS.calls k _ _ l0 1048576 t177 _ ?side1 ?side2 A2.out).mono ?_); (case side1 => repeat (first | exact HR0.out | (with_reducible refine Kd.C_alloc ?_ _) | (with_reducible refine Kd.C_drewN ?_ _) | (with_reducible refine Kd.C_drew ?_))); (case side2 => exact HC0.out); rintro e w10 ⟨rfl, hb⟩; refine ⟨_, rfl, ?_⟩; have n0_ := Aside0.mk (below_step (by repeat (first | (with_reducible first | exact HB.out | apply below_alloc | apply pw_below_drewN | apply below_drew1) | exact HB.out)) hb); clear HB; have HB := n0_; clear n0_; (try clear hb); (try clear hb2); (try clear hk); (try clear hi)) | ((with_reducible refine gate_callee (f := 55) rfl ?_); refine goesL_ (some 21) rfl rfl Try.func55 (by kernel_rfl) rfl #[.slice A0 l0.length c0] rfl (by (try simp only [List.map_toArray, List.map_cons, List.map_nil]); first | done | rfl | (simp only [List.length_drop, List.length_take]; rfl)) ?_; (with_reducible refine (laws_toWireWordS.calls k _ _ l0 t178 _ ?side1 ?side2 A5.out).mono ?_); (case side1 => repeat (first | exact (Kd.C_below HR0.out HB.out) | (with_reducible refine Kd.C_alloc ?_ _) | (with_reducible refine Kd.C_drewN ?_ _) | (with_reducible refine Kd.C_drew ?_))); (case side2 => exact HC0.out); rintro e w11 ⟨v179, rfl, ho0, hb⟩; refine ⟨_, rfl, ?_⟩; have n0_ := Aside0.mk (Kd.S_lower ho0 (below_size (by repeat (first | (with_reducible first | exact HB.out | apply below_alloc | apply pw_below_drewN | apply below_drew1) | exact HB.out)))); have n1_ := Aside0.mk (below_step (by repeat (first | (with_reducible first | exact HB.out | apply below_alloc | apply pw_below_drewN | apply below_drew1) | exact HB.out)) hb); clear HB; have HO180 := n0_; have HB := n1_; clear n0_ n1_; (try clear hb); (try clear hb2); (try clear hk); (try clear hi); (try clear ho0); obtain ⟨Ao12, co12, eo12⟩ := Kd.S_slice HO180.out; subst eo12) | ((with_reducible refine gate_callee (f := 54) rfl ?_); refine goesL_ (some 22) rfl rfl Try.func54 (by kernel_rfl) rfl #[.slice Ao12 t178.length co12] rfl (by (try simp only [List.map_toArray, List.map_cons, List.map_nil]); first | done | rfl | (simp only [List.length_drop, List.length_take]; rfl)) ?_; (with_reducible refine (spec_WireJoin.callsC k _ _ t178 t181 t182 _ ?side1 ?side2 A6.out).mono ?_); (case side1 => repeat (first | exact (Kd.S_reads' HO180.out).2.2 | (with_reducible refine Kd.C_alloc ?_ _) | (with_reducible refine Kd.C_drewN ?_ _) | (with_reducible refine Kd.C_drew ?_))); (case side2 => exact (Kd.S_reads' HO180.out).2.1); rintro e w13 ⟨v183, rfl, ho0, hb⟩; refine ⟨_, rfl, ?_⟩; have n0_ := Aside0.mk (Kd.S_elder' (by (with_reducible repeat (first | apply Kd.S_alloc | apply Kd.S_drewN | apply Kd.S_drew)); exact HO180.out) (Kd.Rc_base ho0) hb); have n1_ := Aside0.mk (Kd.Rc_lower ho0 (below_size (by repeat (first | (with_reducible first | exact HB.out | apply below_alloc | apply pw_below_drewN | apply below_drew1) | exact HB.out)))); have n2_ := Aside0.mk (below_step (by repeat (first | (with_reducible first | exact HB.out | apply below_alloc | apply pw_below_drewN | apply below_drew1) | exact HB.out)) hb); clear HO180; clear HB; have HO180 := n0_; have HO184 := n1_; have HB := n2_; clear n0_ n1_ n2_; (try clear hb); (try clear hb2); (try clear hk); (try clear hi); (try clear ho0)) | ((with_reducible refine gate_callee (f := 55) rfl ?_); refine goesL_ (some 26) rfl rfl Try.func55 (by kernel_rfl) rfl #[.slice A0 l0.length c0] rfl (by (try simp only [List.map_toArray, List.map_cons, List.map_nil]); first | done | rfl | (simp only [List.length_drop, List.length_take]; rfl)) ?_; (with_reducible refine (laws_toWireWordS.calls k _ _ l0 t185 _ ?side1 ?side2 A7.out).mono ?_); (case side1 => repeat (first | exact (Kd.C_below HR0.out HB.out) | (with_reducible refine Kd.C_alloc ?_ _) | (with_reducible refine Kd.C_drewN ?_ _) | (with_reducible refine Kd.C_drew ?_))); (case side2 => exact HC0.out); rintro e w14 ⟨v186, rfl, ho0, hb⟩; refine ⟨_, rfl, ?_⟩; have n0_ := Aside0.mk (Kd.S_elder' (by (with_reducible repeat (first | apply Kd.S_alloc | apply Kd.S_drewN | apply Kd.S_drew)); exact HO180.out) (Kd.S_base ho0) hb); have n1_ := Aside0.mk (Kd.Rc_below (by (with_reducible repeat (first | apply Kd.Rc_alloc | apply Kd.Rc_drewN | apply Kd.Rc_drew)); exact HO184.out) hb); have n2_ := Aside0.mk (Kd.S_lower (Kd.S_new' (Kd.S_new' ho0 (Kd.S_lt (by (with_reducible repeat (first | apply Kd.S_alloc | apply Kd.S_drewN | apply Kd.S_drew)); exact HO180.out))) (Kd.Rc_lt (by (with_reducible repeat (first | apply Kd.Rc_alloc | apply Kd.Rc_drewN | apply Kd.Rc_drew)); exact HO184.out))) (below_size (by repeat (first | (with_reducible first | exact HB.out | apply below_alloc | apply pw_below_drewN | apply below_drew1) | exact HB.out)))); have n3_ := Aside0.mk (below_step (by repeat (first | (with_reducible first | exact HB.out | apply below_alloc | apply pw_below_drewN | apply below_drew1) | exact HB.out)) hb); clear HO180; clear HO184; clear HB; have HO180 := n0_; have HO184 := n1_; have HO187 := n2_; have HB := n3_; clear n0_ n1_ n2_ n3_; (try clear hb); (try clear hb2); (try clear hk); (try clear hi); (try clear ho0); obtain ⟨Ao15, co15, eo15⟩ := Kd.S_slice HO187.out; subst eo15) | ((with_reducible refine gate_callee (f := 46) rfl ?_); refine goesL_ (some 29) rfl rfl Try.func46 (by kernel_rfl) rfl #[.slice Ao15 t185.length co15] rfl (by (try simp only [List.map_toArray, List.map_cons, List.map_nil]); first | done | rfl | (simp only [List.length_drop, List.length_take]; rfl)) ?_; (with_reducible refine (impl_WireJoin.calls k _ _ t185 t188 t189 _ ?side1 ?side2 A8.out).mono ?_); (case side1 => repeat (first | exact (Kd.S_reads' HO187.out).2.2 | (with_reducible refine Kd.C_alloc ?_ _) | (with_reducible refine Kd.C_drewN ?_ _) | (with_reducible refine Kd.C_drew ?_))); (case side2 => exact (Kd.S_reads' HO187.out).2.1); rintro e w16 ⟨v190, rfl, ho0, hb⟩; refine ⟨_, rfl, ?_⟩; have n0_ := Aside0.mk (Kd.S_elder' (by (with_reducible repeat (first | apply Kd.S_alloc | apply Kd.S_drewN | apply Kd.S_drew)); exact HO180.out) (Kd.Rc_base ho0) hb); have n1_ := Aside0.mk (Kd.Rc_elder' (by (with_reducible repeat (first | apply Kd.Rc_alloc | apply Kd.Rc_drewN | apply Kd.Rc_drew)); exact HO184.out) (Kd.Rc_base ho0) hb); have n2_ := Aside0.mk (Kd.S_elder' (by (with_reducible repeat (first | apply Kd.S_alloc | apply Kd.S_drewN | apply Kd.S_drew)); exact HO187.out) (Kd.Rc_base ho0) hb); have n3_ := Aside0.mk (Kd.Rc_lower (Kd.Rc_new' ho0 (Kd.Rc_lt (by (with_reducible repeat (first | apply Kd.Rc_alloc | apply Kd.Rc_drewN | apply Kd.Rc_drew)); exact HO184.out))) (below_size (by repeat (first | (with_reducible first | exact HB.out | apply below_alloc | apply pw_below_drewN | apply below_drew1) | exact HB.out)))); have n4_ := Aside0.mk (below_step (by repeat (first | (with_reducible first | exact HB.out | apply below_alloc | apply pw_below_drewN | apply below_drew1) | exact HB.out)) hb); clear HO180; clear HO184; clear HO187; clear HB; have HO180 := n0_; have HO184 := n1_; have HO187 := n2_; have HO191 := n3_; have HB := n4_; clear n0_ n1_ n2_ n3_ n4_; (try clear hb); (try clear hb2); (try clear hk); (try clear hi); (try clear ho0)))
    (try simp only [Act.put, List.setIfInBounds_toArray, List.set_cons_zero, List.set_cons_succ])
    go_cut [40] (fun v40 wc => ∃ (kq : Nat) (x40_8 : Bool), v40 = .bool x40_8 ∧ Aside0 (laws_FnExactWireJoin.j0 kq l0 t181 t182 t185 t188 t189 x40_8 = some r) ∧ Aside0 (kq ≤ k) ∧ Aside0 (Kd.Rc (Kd.int .u8) 5 wc w.heap.size (fun k_ => some k_ ≠ (v190 : Value).ownBlock) v183 t181) ∧ Aside0 (Kd.S k40 40 wc w.heap.size (fun k_ => some k_ ≠ (v183 : Value).ownBlock ∧ some k_ ≠ (v190 : Value).ownBlock) (.slice Ao15 t185.length co15) t185) ∧ Aside0 (Kd.Rc (Kd.int .u8) 5 wc w.heap.size (fun k_ => some k_ ≠ (v183 : Value).ownBlock) v190 t188) ∧ Aside0 (Below w.heap.size w wc))
    case first =>
      have H := HC9.out
      clear HC9
      replace H := Option.bind_eq_some_iff.mp H
      obtain ⟨t192, A170, H⟩ := H
      replace H : (if t192 = true then (laws_FnExactWireJoin.j0 k l0 t181 t182 t185 t188 t189 (t189 != t182)) else (laws_FnExactWireJoin.j0 k l0 t181 t182 t185 t188 t189 true)) = some r := H
      have A17 := Aside0.mk A170
      clear A170
      by_cases c18 : t192 = true
      · subst c18
        have H1 : (laws_FnExactWireJoin.j0 k l0 t181 t182 t185 t188 t189 (t189 != t182)) = some r := by rw [if_pos rfl] at H; exact H
        clear H
        have H := H1
        clear H1
        have H' := Aside0.mk H
        clear H
        obtain ⟨Ao19, co19, eo19⟩ := Kd.Rc_slice HO191.out
        subst eo19
        obtain ⟨Ao20, co20, eo20⟩ := Kd.Rc_slice HO184.out
        subst eo20
        go_wp2_with (first | ((with_reducible refine gate_callee (f := 20) rfl ?_); refine goesL_ (some 34) rfl rfl Try.func20 (by kernel_rfl) rfl #[.slice Ao19 t188.length co19, .slice Ao20 t181.length co20] rfl (by (try simp only [List.map_toArray, List.map_cons, List.map_nil]); first | done | rfl | (simp only [List.length_drop, List.length_take]; rfl)) ?_; (with_reducible refine (laws_eqByteS.calls k _ _ t188 _ _ t181 true _ ?side1 ?side2 ?side3 ?side4 A17.out).mono ?_); (case side1 => repeat (first | exact (Kd.Rc_reads' HO191.out).2.2 | (with_reducible refine Kd.C_alloc ?_ _) | (with_reducible refine Kd.C_drewN ?_ _) | (with_reducible refine Kd.C_drew ?_))); (case side2 => exact (Kd.Rc_reads' HO191.out).2.1); (case side3 => repeat (first | exact (Kd.Rc_reads' HO184.out).2.2 | (with_reducible refine Kd.C_alloc ?_ _) | (with_reducible refine Kd.C_drewN ?_ _) | (with_reducible refine Kd.C_drew ?_))); (case side4 => exact (Kd.Rc_reads' HO184.out).2.1); rintro e w' ⟨rfl, ⟨nd, rfl⟩⟩; refine ⟨_, rfl, ?_⟩))
        go_meet
        case rel => exact ⟨_, ((t189 != t182)), (by first | rfl | (simp; done) | (simp [*]; done)), H', ⟨by first | omega | exact Nat.le_refl _⟩, ⟨by (with_reducible repeat (first | apply Kd.Rc_alloc | apply Kd.Rc_drewN | apply Kd.Rc_drew)); exact Kd.Rc_mono HO184.out (fun _ hk => hk.2)⟩, ⟨by (with_reducible repeat (first | apply Kd.S_alloc | apply Kd.S_drewN | apply Kd.S_drew)); exact Kd.S_mono HO187.out (fun _ hk => ⟨hk.1.2, hk.2⟩)⟩, ⟨by (with_reducible repeat (first | apply Kd.Rc_alloc | apply Kd.Rc_drewN | apply Kd.Rc_drew)); exact Kd.Rc_mono HO191.out (fun _ hk => hk.2)⟩, ⟨by repeat (first | (with_reducible first | exact HB.out | apply below_alloc | apply pw_below_drewN | apply below_drew1) | exact HB.out)⟩⟩
      · replace c18 := Bool.eq_false_iff.mpr c18
        subst c18
        have H1 : (laws_FnExactWireJoin.j0 k l0 t181 t182 t185 t188 t189 true) = some r := by rw [if_neg (show ¬ (false = true) by decide)] at H; exact H
        clear H
        have H := H1
        clear H1
        have H' := Aside0.mk H
        clear H
        obtain ⟨Ao21, co21, eo21⟩ := Kd.Rc_slice HO191.out
        subst eo21
        obtain ⟨Ao22, co22, eo22⟩ := Kd.Rc_slice HO184.out
        subst eo22
        go_wp2_with (first | ((with_reducible refine gate_callee (f := 20) rfl ?_); refine goesL_ (some 34) rfl rfl Try.func20 (by kernel_rfl) rfl #[.slice Ao21 t188.length co21, .slice Ao22 t181.length co22] rfl (by (try simp only [List.map_toArray, List.map_cons, List.map_nil]); first | done | rfl | (simp only [List.length_drop, List.length_take]; rfl)) ?_; (with_reducible refine (laws_eqByteS.calls k _ _ t188 _ _ t181 false _ ?side1 ?side2 ?side3 ?side4 A17.out).mono ?_); (case side1 => repeat (first | exact (Kd.Rc_reads' HO191.out).2.2 | (with_reducible refine Kd.C_alloc ?_ _) | (with_reducible refine Kd.C_drewN ?_ _) | (with_reducible refine Kd.C_drew ?_))); (case side2 => exact (Kd.Rc_reads' HO191.out).2.1); (case side3 => repeat (first | exact (Kd.Rc_reads' HO184.out).2.2 | (with_reducible refine Kd.C_alloc ?_ _) | (with_reducible refine Kd.C_drewN ?_ _) | (with_reducible refine Kd.C_drew ?_))); (case side4 => exact (Kd.Rc_reads' HO184.out).2.1); rintro e w' ⟨rfl, ⟨nd, rfl⟩⟩; refine ⟨_, rfl, ?_⟩))
        go_meet
        case rel => exact ⟨_, (true), (by first | rfl | (simp; done) | (simp [*]; done)), H', ⟨by first | omega | exact Nat.le_refl _⟩, ⟨by (with_reducible repeat (first | apply Kd.Rc_alloc | apply Kd.Rc_drewN | apply Kd.Rc_drew)); exact Kd.Rc_mono HO184.out (fun _ hk => hk.2)⟩, ⟨by (with_reducible repeat (first | apply Kd.S_alloc | apply Kd.S_drewN | apply Kd.S_drew)); exact Kd.S_mono HO187.out (fun _ hk => ⟨hk.1.2, hk.2⟩)⟩, ⟨by (with_reducible repeat (first | apply Kd.Rc_alloc | apply Kd.Rc_drewN | apply Kd.Rc_drew)); exact Kd.Rc_mono HO191.out (fun _ hk => hk.2)⟩, ⟨by repeat (first | (with_reducible first | exact HB.out | apply below_alloc | apply pw_below_drewN | apply below_drew1) | exact HB.out)⟩⟩
    case rest =>
      clear HC9
      try clear c1
      try clear c2
      try clear p2
      try clear c3
      try clear c3b0
      try clear c4
      try clear c5
      try clear c14
      try clear c18
      try clear c20
      obtain ⟨kq, x40_8, rfl, HA, HJ8, HO_4, HO_6, HO_7, HB⟩ := hcut
      cases kq with
      | zero => exact absurd HA.out (by simp [laws_FnExactWireJoin.j0])
      | succ kj8 =>
        have H := HA.out
        clear HA
        simp only [laws_FnExactWireJoin.j0] at H
        by_cases c23 : x40_8 = true
        · subst c23
          have H1 : (some false) = some r := by rw [if_pos rfl] at H; exact H
          clear H
          have H := H1
          clear H1
          obtain rfl := Option.some.inj H
          go_wp2
          go_ret
          exact ⟨by first | rfl | (simp [errW_none, errW_some] <;> rfl) | (simp [*, errW_none, errW_some] <;> rfl), by repeat (first | (with_reducible first | exact HB.out | apply below_alloc | apply pw_below_drewN | apply below_drew1) | exact HB.out)⟩
        · replace c23 := Bool.eq_false_iff.mpr c23
          subst c23
          have H1 : ((laws_toWireWordS.f kj8 l0).bind fun t193 => ((laws_eqWireWordS.f kj8 t185 t193).bind fun t196 => (if t196 = true then ((laws_markWireWordS.f kj8 t185 1).bind fun t197 => (if t197 < 0 then (laws_FnExactWireJoin.j1 kj8 l0 t181 t182 t188 true) else ((laws_eqByteS.f kj8 t188 t181).bind fun t198 => (if t198 = true then (laws_FnExactWireJoin.j1 kj8 l0 t181 t182 t188 (t189 != t182)) else (laws_FnExactWireJoin.j1 kj8 l0 t181 t182 t188 true))))) else (some false)))) = some r := by rw [if_neg (show ¬ (false = true) by decide)] at H; exact H
          clear H
          have H := H1
          clear H1
          replace H := Option.bind_eq_some_iff.mp H
          obtain ⟨t193, A240, H⟩ := H
          replace H : ((laws_eqWireWordS.f kj8 t185 t193).bind fun t196 => (if t196 = true then ((laws_markWireWordS.f kj8 t185 1).bind fun t197 => (if t197 < 0 then (laws_FnExactWireJoin.j1 kj8 l0 t181 t182 t188 true) else ((laws_eqByteS.f kj8 t188 t181).bind fun t198 => (if t198 = true then (laws_FnExactWireJoin.j1 kj8 l0 t181 t182 t188 (t189 != t182)) else (laws_FnExactWireJoin.j1 kj8 l0 t181 t182 t188 true))))) else (some false))) = some r := H
          have A24 := Aside0.mk A240
          clear A240
          replace H := Option.bind_eq_some_iff.mp H
          obtain ⟨t196, A250, H⟩ := H
          replace H : (if t196 = true then ((laws_markWireWordS.f kj8 t185 1).bind fun t197 => (if t197 < 0 then (laws_FnExactWireJoin.j1 kj8 l0 t181 t182 t188 true) else ((laws_eqByteS.f kj8 t188 t181).bind fun t198 => (if t198 = true then (laws_FnExactWireJoin.j1 kj8 l0 t181 t182 t188 (t189 != t182)) else (laws_FnExactWireJoin.j1 kj8 l0 t181 t182 t188 true))))) else (some false)) = some r := H
          have A25 := Aside0.mk A250
          clear A250
          by_cases c26 : t196 = true
          · subst c26
            have H1 : ((laws_markWireWordS.f kj8 t185 1).bind fun t197 => (if t197 < 0 then (laws_FnExactWireJoin.j1 kj8 l0 t181 t182 t188 true) else ((laws_eqByteS.f kj8 t188 t181).bind fun t198 => (if t198 = true then (laws_FnExactWireJoin.j1 kj8 l0 t181 t182 t188 (t189 != t182)) else (laws_FnExactWireJoin.j1 kj8 l0 t181 t182 t188 true))))) = some r := by rw [if_pos rfl] at H; exact H
            clear H
            have H := H1
            clear H1
            replace H := Option.bind_eq_some_iff.mp H
            obtain ⟨t197, A270, H⟩ := H
            replace H : (if t197 < 0 then (laws_FnExactWireJoin.j1 kj8 l0 t181 t182 t188 true) else ((laws_eqByteS.f kj8 t188 t181).bind fun t198 => (if t198 = true then (laws_FnExactWireJoin.j1 kj8 l0 t181 t182 t188 (t189 != t182)) else (laws_FnExactWireJoin.j1 kj8 l0 t181 t182 t188 true)))) = some r := H
            have A27 := Aside0.mk A270
            clear A270
            have HC28 := Aside0.mk H
            clear H
            go_upto_region 14 with (first | ((with_reducible refine gate_callee (f := 55) rfl ?_); refine goesL_ (some 43) rfl rfl Try.func55 (by kernel_rfl) rfl #[.slice A0 l0.length c0] rfl (by (try simp only [List.map_toArray, List.map_cons, List.map_nil]); first | done | rfl | (simp only [List.length_drop, List.length_take]; rfl)) ?_; (with_reducible refine (laws_toWireWordS.calls kj8 _ _ l0 t193 _ ?side1 ?side2 A24.out).mono ?_); (case side1 => repeat (first | exact (Kd.C_below HR0.out HB.out) | (with_reducible refine Kd.C_alloc ?_ _) | (with_reducible refine Kd.C_drewN ?_ _) | (with_reducible refine Kd.C_drew ?_))); (case side2 => exact HC0.out); rintro e w29 ⟨v194, rfl, ho0, hb⟩; refine ⟨_, rfl, ?_⟩; have n0_ := Aside0.mk (Kd.Rc_below (by (with_reducible repeat (first | apply Kd.Rc_alloc | apply Kd.Rc_drewN | apply Kd.Rc_drew)); exact HO_4.out) hb); have n1_ := Aside0.mk (Kd.S_elder' (by (with_reducible repeat (first | apply Kd.S_alloc | apply Kd.S_drewN | apply Kd.S_drew)); exact HO_6.out) (Kd.S_base ho0) hb); have n2_ := Aside0.mk (Kd.Rc_below (by (with_reducible repeat (first | apply Kd.Rc_alloc | apply Kd.Rc_drewN | apply Kd.Rc_drew)); exact HO_7.out) hb); have n3_ := Aside0.mk (Kd.S_lower (Kd.S_new' (Kd.S_new' (Kd.S_new' ho0 (Kd.Rc_lt (by (with_reducible repeat (first | apply Kd.Rc_alloc | apply Kd.Rc_drewN | apply Kd.Rc_drew)); exact HO_4.out))) (Kd.S_lt (by (with_reducible repeat (first | apply Kd.S_alloc | apply Kd.S_drewN | apply Kd.S_drew)); exact HO_6.out))) (Kd.Rc_lt (by (with_reducible repeat (first | apply Kd.Rc_alloc | apply Kd.Rc_drewN | apply Kd.Rc_drew)); exact HO_7.out))) (below_size (by repeat (first | (with_reducible first | exact HB.out | apply below_alloc | apply pw_below_drewN | apply below_drew1) | exact HB.out)))); have n4_ := Aside0.mk (below_step (by repeat (first | (with_reducible first | exact HB.out | apply below_alloc | apply pw_below_drewN | apply below_drew1) | exact HB.out)) hb); clear HO_4; clear HO_6; clear HO_7; clear HB; have HO_4 := n0_; have HO_6 := n1_; have HO_7 := n2_; have HO195 := n3_; have HB := n4_; clear n0_ n1_ n2_ n3_ n4_; (try clear hb); (try clear hb2); (try clear hk); (try clear hi); (try clear ho0); obtain ⟨Ao30, co30, eo30⟩ := Kd.S_slice HO195.out; subst eo30) | ((with_reducible refine gate_callee (f := 50) rfl ?_); refine goesL_ (some 44) rfl rfl Try.func50 (by kernel_rfl) rfl #[.slice Ao15 t185.length co15, .slice Ao30 t193.length co30] rfl (by (try simp only [List.map_toArray, List.map_cons, List.map_nil]); first | done | rfl | (simp only [List.length_drop, List.length_take]; rfl)) ?_; (with_reducible refine (laws_eqWireWordS.calls kj8 _ _ t185 _ _ t193 true _ ?side1 ?side2 ?side3 ?side4 A25.out).mono ?_); (case side1 => repeat (first | exact (Kd.S_reads' HO_6.out).2.2 | (with_reducible refine Kd.C_alloc ?_ _) | (with_reducible refine Kd.C_drewN ?_ _) | (with_reducible refine Kd.C_drew ?_))); (case side2 => exact (Kd.S_reads' HO_6.out).2.1); (case side3 => repeat (first | exact (Kd.S_reads' HO195.out).2.2 | (with_reducible refine Kd.C_alloc ?_ _) | (with_reducible refine Kd.C_drewN ?_ _) | (with_reducible refine Kd.C_drew ?_))); (case side4 => exact (Kd.S_reads' HO195.out).2.1); rintro e w31 ⟨rfl, hb⟩; refine ⟨_, rfl, ?_⟩; have n0_ := Aside0.mk (Kd.Rc_below (by (with_reducible repeat (first | apply Kd.Rc_alloc | apply Kd.Rc_drewN | apply Kd.Rc_drew)); exact HO_4.out) hb); have n1_ := Aside0.mk (Kd.S_below (by (with_reducible repeat (first | apply Kd.S_alloc | apply Kd.S_drewN | apply Kd.S_drew)); exact HO_6.out) hb); have n2_ := Aside0.mk (Kd.Rc_below (by (with_reducible repeat (first | apply Kd.Rc_alloc | apply Kd.Rc_drewN | apply Kd.Rc_drew)); exact HO_7.out) hb); have n3_ := Aside0.mk (Kd.S_below (by (with_reducible repeat (first | apply Kd.S_alloc | apply Kd.S_drewN | apply Kd.S_drew)); exact HO195.out) hb); have n4_ := Aside0.mk (below_step (by repeat (first | (with_reducible first | exact HB.out | apply below_alloc | apply pw_below_drewN | apply below_drew1) | exact HB.out)) hb); clear HO_4; clear HO_6; clear HO_7; clear HO195; clear HB; have HO_4 := n0_; have HO_6 := n1_; have HO_7 := n2_; have HO195 := n3_; have HB := n4_; clear n0_ n1_ n2_ n3_ n4_; (try clear hb); (try clear hb2); (try clear hk); (try clear hi)) | ((with_reducible refine gate_callee (f := 51) rfl ?_); refine goesL_ (some 48) rfl rfl Try.func51 (by kernel_rfl) rfl #[.slice Ao15 t185.length co15, .int .i64 1] rfl (by (try simp only [List.map_toArray, List.map_cons, List.map_nil]); first | done | rfl | (simp only [List.length_drop, List.length_take]; rfl)) ?_; (with_reducible refine (laws_markWireWordS.calls kj8 (fun k_ => some k_ ≠ (v183 : Value).ownBlock ∧ some k_ ≠ (v190 : Value).ownBlock) (.slice Ao15 t185.length co15) t185 1 t197 w _ ?side1 ?side2 (by unfold wrap64; omega) A27.out).mono ?_); (case side1 => repeat (first | (with_reducible first | exact HB.out | apply below_alloc | apply pw_below_drewN | apply below_drew1) | exact HB.out)); (case side2 => (with_reducible repeat (first | apply Kd.S_alloc | apply Kd.S_drewN | apply Kd.S_drew)); first | exact HO_6.out | exact Kd.S_mono HO_6.out (fun k_ hk_ => hk_.1)); rintro e wm_ ⟨rfl, hb, hkp⟩; refine ⟨_, rfl, ?_⟩; have n0_ := Aside0.mk (Kd.Rc_mono (ok' := fun k_ => some k_ ≠ (v190 : Value).ownBlock) (Kd.Rc_keptB (Kd.Rc_tight rfl (by (with_reducible repeat (first | apply Kd.Rc_alloc | apply Kd.Rc_drewN | apply Kd.Rc_drew)); exact HO_4.out)) hkp (fun k_ hk_ hs_ => hs_.1 hk_)) (fun k_ hk_ => (by have h_ := HO_4.out.1 k_ hk_.1.symm; first | exact h_ | exact h_.1))); have n1_ := Aside0.mk (Kd.Rc_mono (ok' := fun k_ => some k_ ≠ (v183 : Value).ownBlock) (Kd.Rc_keptB (Kd.Rc_tight rfl (by (with_reducible repeat (first | apply Kd.Rc_alloc | apply Kd.Rc_drewN | apply Kd.Rc_drew)); exact HO_7.out)) hkp (fun k_ hk_ hs_ => hs_.2 hk_)) (fun k_ hk_ => (by have h_ := HO_7.out.1 k_ hk_.1.symm; first | exact h_ | exact h_.1))); have n2_ := Aside0.mk hb; clear HO_4 HO_6 HO_7 HB hb hkp; have HO_4 := n0_; have HO_7 := n1_; have HB := n2_; clear n0_ n1_ n2_))
            (try simp only [Act.put, List.setIfInBounds_toArray, List.set_cons_zero, List.set_cons_succ])
            go_cut [61] (fun v61 wc => ∃ (kq : Nat) (x61_27 : Bool), v61 = .bool x61_27 ∧ Aside0 (laws_FnExactWireJoin.j1 kq l0 t181 t182 t188 x61_27 = some r) ∧ Aside0 (kq ≤ kj8) ∧ Aside0 (Kd.Rc (Kd.int .u8) 5 wc w.heap.size (fun k_ => some k_ ≠ (v190 : Value).ownBlock) v183 t181) ∧ Aside0 (Kd.Rc (Kd.int .u8) 5 wc w.heap.size (fun k_ => some k_ ≠ (v183 : Value).ownBlock) v190 t188) ∧ Aside0 (Below w.heap.size w wc))
            case first =>
              have H := HC28.out
              clear HC28
              by_cases c32 : t197 < 0
              · rw [if_pos c32] at H
                have c32b0 : decide (t197 < 0) = true := decide_eq_true c32
                clear c32
                (first | rw [c32b0] | (simp only [i64_w, i32_w]; rw [c32b0]) | skip)
                have H' := Aside0.mk H
                clear H
                go_wp2
                go_meet
                case rel => exact ⟨_, (true), (by first | rfl | (simp; done) | (simp [*]; done)), H', ⟨by have := HJ8.out; first | omega | exact Nat.le_refl _⟩, ⟨by (with_reducible repeat (first | apply Kd.Rc_alloc | apply Kd.Rc_drewN | apply Kd.Rc_drew)); exact HO_4.out⟩, ⟨by (with_reducible repeat (first | apply Kd.Rc_alloc | apply Kd.Rc_drewN | apply Kd.Rc_drew)); exact HO_7.out⟩, ⟨by repeat (first | (with_reducible first | exact HB.out | apply below_alloc | apply pw_below_drewN | apply below_drew1) | exact HB.out)⟩⟩
              · rw [if_neg c32] at H
                have c32b0 : decide (t197 < 0) = false := decide_eq_false c32
                clear c32
                (first | rw [c32b0] | (simp only [i64_w, i32_w]; rw [c32b0]) | skip)
                replace H := Option.bind_eq_some_iff.mp H
                obtain ⟨t198, A330, H⟩ := H
                replace H : (if t198 = true then (laws_FnExactWireJoin.j1 kj8 l0 t181 t182 t188 (t189 != t182)) else (laws_FnExactWireJoin.j1 kj8 l0 t181 t182 t188 true)) = some r := H
                have A33 := Aside0.mk A330
                clear A330
                by_cases c34 : t198 = true
                · subst c34
                  have H1 : (laws_FnExactWireJoin.j1 kj8 l0 t181 t182 t188 (t189 != t182)) = some r := by rw [if_pos rfl] at H; exact H
                  clear H
                  have H := H1
                  clear H1
                  have H' := Aside0.mk H
                  clear H
                  obtain ⟨Ao35, co35, eo35⟩ := Kd.Rc_slice HO_7.out
                  subst eo35
                  obtain ⟨Ao36, co36, eo36⟩ := Kd.Rc_slice HO_4.out
                  subst eo36
                  go_wp2_with (first | (go_at_call 20; (with_reducible refine (laws_eqByteS.calls kj8 _ _ t188 _ _ t181 true _ ?side1 ?side2 ?side3 ?side4 A33.out).mono ?_); (case side1 => repeat (first | exact (Kd.Rc_reads' HO_7.out).2.2 | (with_reducible refine Kd.C_alloc ?_ _) | (with_reducible refine Kd.C_drewN ?_ _) | (with_reducible refine Kd.C_drew ?_))); (case side2 => exact (Kd.Rc_reads' HO_7.out).2.1); (case side3 => repeat (first | exact (Kd.Rc_reads' HO_4.out).2.2 | (with_reducible refine Kd.C_alloc ?_ _) | (with_reducible refine Kd.C_drewN ?_ _) | (with_reducible refine Kd.C_drew ?_))); (case side4 => exact (Kd.Rc_reads' HO_4.out).2.1); rintro e w' ⟨rfl, ⟨nd, rfl⟩⟩))
                  go_meet
                  case rel => exact ⟨_, ((t189 != t182)), (by first | rfl | (simp; done) | (simp [*]; done)), H', ⟨by have := HJ8.out; first | omega | exact Nat.le_refl _⟩, ⟨by (with_reducible repeat (first | apply Kd.Rc_alloc | apply Kd.Rc_drewN | apply Kd.Rc_drew)); exact HO_4.out⟩, ⟨by (with_reducible repeat (first | apply Kd.Rc_alloc | apply Kd.Rc_drewN | apply Kd.Rc_drew)); exact HO_7.out⟩, ⟨by repeat (first | (with_reducible first | exact HB.out | apply below_alloc | apply pw_below_drewN | apply below_drew1) | exact HB.out)⟩⟩
                · replace c34 := Bool.eq_false_iff.mpr c34
                  subst c34
                  have H1 : (laws_FnExactWireJoin.j1 kj8 l0 t181 t182 t188 true) = some r := by rw [if_neg (show ¬ (false = true) by decide)] at H; exact H
                  clear H
                  have H := H1
                  clear H1
                  have H' := Aside0.mk H
                  clear H
                  obtain ⟨Ao37, co37, eo37⟩ := Kd.Rc_slice HO_7.out
                  subst eo37
                  obtain ⟨Ao38, co38, eo38⟩ := Kd.Rc_slice HO_4.out
                  subst eo38
                  go_wp2_with (first | (go_at_call 20; (with_reducible refine (laws_eqByteS.calls kj8 _ _ t188 _ _ t181 false _ ?side1 ?side2 ?side3 ?side4 A33.out).mono ?_); (case side1 => repeat (first | exact (Kd.Rc_reads' HO_7.out).2.2 | (with_reducible refine Kd.C_alloc ?_ _) | (with_reducible refine Kd.C_drewN ?_ _) | (with_reducible refine Kd.C_drew ?_))); (case side2 => exact (Kd.Rc_reads' HO_7.out).2.1); (case side3 => repeat (first | exact (Kd.Rc_reads' HO_4.out).2.2 | (with_reducible refine Kd.C_alloc ?_ _) | (with_reducible refine Kd.C_drewN ?_ _) | (with_reducible refine Kd.C_drew ?_))); (case side4 => exact (Kd.Rc_reads' HO_4.out).2.1); rintro e w' ⟨rfl, ⟨nd, rfl⟩⟩))
                  go_meet
                  case rel => exact ⟨_, (true), (by first | rfl | (simp; done) | (simp [*]; done)), H', ⟨by have := HJ8.out; first | omega | exact Nat.le_refl _⟩, ⟨by (with_reducible repeat (first | apply Kd.Rc_alloc | apply Kd.Rc_drewN | apply Kd.Rc_drew)); exact HO_4.out⟩, ⟨by (with_reducible repeat (first | apply Kd.Rc_alloc | apply Kd.Rc_drewN | apply Kd.Rc_drew)); exact HO_7.out⟩, ⟨by repeat (first | (with_reducible first | exact HB.out | apply below_alloc | apply pw_below_drewN | apply below_drew1) | exact HB.out)⟩⟩
            case rest =>
              clear HC28
              try clear c1
              try clear c2
              try clear p2
              try clear c3
              try clear c3b0
              try clear c4
              try clear c5
              try clear c14
              try clear c18
              try clear c20
              try clear c23
              try clear c26
              try clear c32
              try clear c32b0
              try clear c34
              try clear p2
              obtain ⟨kq, x61_27, rfl, HA, HJ27, HO_4, HO_7, HB⟩ := hcut
              cases kq with
              | zero => exact absurd HA.out (by simp [laws_FnExactWireJoin.j1])
              | succ kj27 =>
                have H := HA.out
                clear HA
                simp only [laws_FnExactWireJoin.j1] at H
                by_cases c39 : x61_27 = true
                · subst c39
                  have H1 : (some false) = some r := by rw [if_pos rfl] at H; exact H
                  clear H
                  have H := H1
                  clear H1
                  obtain rfl := Option.some.inj H
                  go_wp2
                  go_ret
                  exact ⟨by first | rfl | (simp [errW_none, errW_some] <;> rfl) | (simp [*, errW_none, errW_some] <;> rfl), by repeat (first | (with_reducible first | exact HB.out | apply below_alloc | apply pw_below_drewN | apply below_drew1) | exact HB.out)⟩
                · replace c39 := Bool.eq_false_iff.mpr c39
                  subst c39
                  have H1 : ((laws_markByteS.f kj27 t188 1).bind fun bt199 => ((laws_heldByteS.f kj27 bt199.2 1).bind fun t201 => (if t201 < 0 then (some false) else (if t201 = bt199.1 then ((laws_toWireWordS.f kj27 l0).bind fun t202 => ((impl_WireJoin.f kj27 t202).bind fun bt205 => ((laws_eqByteS.f kj27 bt205.1 t181).bind fun t209 => (if t209 = true then (laws_FnExactWireJoin.j2 kj27 bt199.2 bt199.1 (bt205.2 != t182)) else (laws_FnExactWireJoin.j2 kj27 bt199.2 bt199.1 true))))) else (some false))))) = some r := by rw [if_neg (show ¬ (false = true) by decide)] at H; exact H
                  clear H
                  have H := H1
                  clear H1
                  replace H := Option.bind_eq_some_iff.mp H
                  obtain ⟨⟨t199, t200⟩, A400, H⟩ := H
                  replace H : ((laws_heldByteS.f kj27 t200 1).bind fun t201 => (if t201 < 0 then (some false) else (if t201 = t199 then ((laws_toWireWordS.f kj27 l0).bind fun t202 => ((impl_WireJoin.f kj27 t202).bind fun bt205 => ((laws_eqByteS.f kj27 bt205.1 t181).bind fun t209 => (if t209 = true then (laws_FnExactWireJoin.j2 kj27 t200 t199 (bt205.2 != t182)) else (laws_FnExactWireJoin.j2 kj27 t200 t199 true))))) else (some false)))) = some r := H
                  have A40 := Aside0.mk A400
                  clear A400
                  replace H := Option.bind_eq_some_iff.mp H
                  obtain ⟨t201, A410, H⟩ := H
                  replace H : (if t201 < 0 then (some false) else (if t201 = t199 then ((laws_toWireWordS.f kj27 l0).bind fun t202 => ((impl_WireJoin.f kj27 t202).bind fun bt205 => ((laws_eqByteS.f kj27 bt205.1 t181).bind fun t209 => (if t209 = true then (laws_FnExactWireJoin.j2 kj27 t200 t199 (bt205.2 != t182)) else (laws_FnExactWireJoin.j2 kj27 t200 t199 true))))) else (some false))) = some r := H
                  have A41 := Aside0.mk A410
                  clear A410
                  by_cases c42 : t201 < 0
                  · rw [if_pos c42] at H
                    have c42b0 : decide (t201 < 0) = true := decide_eq_true c42
                    clear c42
                    obtain rfl := Option.some.inj H
                    obtain ⟨Ao43, co43, eo43⟩ := Kd.Rc_slice HO_7.out
                    subst eo43
                    go_wp2_with (first | ((with_reducible refine gate_callee (f := 27) rfl ?_); refine goesL_ (some 64) rfl rfl Try.func27 (by kernel_rfl) rfl #[.slice Ao43 t188.length co43, .int .i64 1] rfl (by (try simp only [List.map_toArray, List.map_cons, List.map_nil]); first | done | rfl | (simp only [List.length_drop, List.length_take]; rfl)) ?_; (with_reducible refine (laws_markByteS.callsC kj27 (fun k_ => some k_ = (.slice Ao43 t188.length co43 : Value).ownBlock) (.slice Ao43 t188.length co43) t188 1 t199 t200 w _ ?side1 ?side2 A40.out).mono ?_); (case side1 => repeat (first | (with_reducible first | exact HB.out | apply below_alloc | apply pw_below_drewN | apply below_drew1) | exact HB.out)); (case side2 => exact Kd.Rc_tight rfl HO_7.out); rintro e w44 ⟨rfl, hy0, hb, hkp⟩; refine ⟨_, rfl, ?_⟩; have n0_ := Aside0.mk (Kd.Rc_mono (ok' := fun k_ => some k_ ≠ (.slice Ao43 t188.length co43 : Value).ownBlock) (Kd.Rc_keptB (HO_4.out) hkp (fun k_ hk_ hs_ => (hk_) hs_)) (fun k_ hk_ => hk_.1)); have n1_ := Aside0.mk (Kd.Rc_reok rfl hy0 (fun k_ e_ => HO_7.out.1 k_ e_)); have n2_ := Aside0.mk (hb); clear HO_4; clear HO_7; clear HB; have HO_4 := n0_; have HO_7 := n1_; have HB := n2_; clear n0_ n1_ n2_; (try clear hb); (try clear hkp); (try clear hy0)) | ((with_reducible refine gate_callee (f := 28) rfl ?_); refine goesL_ (some 67) rfl rfl Try.func28 (by kernel_rfl) rfl #[.slice Ao43 t200.length co43, .int .i64 1] rfl (by (try simp only [List.map_toArray, List.map_cons, List.map_nil]); first | done | (rw [show t200.length = t188.length from (Kd.Rc_reads' HO_7.out).1.symm] <;> rfl) | rfl | (simp only [List.length_drop, List.length_take]; rfl)) ?_; (with_reducible refine (laws_heldByteS.calls kj27 _ _ t200 1 t201 _ ?side1 ?side2 A41.out).mono ?_); (case side1 => repeat (first | exact (Kd.Rc_reads' HO_7.out).2.2 | (with_reducible refine Kd.C_alloc ?_ _) | (with_reducible refine Kd.C_drewN ?_ _) | (with_reducible refine Kd.C_drew ?_))); (case side2 => rw [show t200.length = t188.length from (Kd.Rc_reads' HO_7.out).1.symm]; exact (Kd.Rc_reads' HO_7.out).2.1); rintro e w' ⟨rfl, ⟨nd, rfl⟩⟩; refine ⟨_, rfl, ?_⟩))
                    go_ret
                    exact ⟨by first | rfl | (simp [errW_none, errW_some] <;> rfl) | (simp [*, errW_none, errW_some] <;> rfl), by repeat (first | (with_reducible first | exact HB.out | apply below_alloc | apply pw_below_drewN | apply below_drew1) | exact HB.out)⟩
                  · rw [if_neg c42] at H
                    have c42b0 : decide (t201 < 0) = false := decide_eq_false c42
                    clear c42
                    by_cases c45 : t201 = t199
                    · rw [if_pos c45] at H
                      have c45b0 : (t201 == t199) = true := beq_iff_eq.mpr c45
                      have c45b1 : (t201 != t199) = false := bne_eq_false_iff_eq.mpr c45
                      clear c45
                      replace H := Option.bind_eq_some_iff.mp H
                      obtain ⟨t202, A460, H⟩ := H
                      replace H : ((impl_WireJoin.f kj27 t202).bind fun bt205 => ((laws_eqByteS.f kj27 bt205.1 t181).bind fun t209 => (if t209 = true then (laws_FnExactWireJoin.j2 kj27 t200 t199 (bt205.2 != t182)) else (laws_FnExactWireJoin.j2 kj27 t200 t199 true)))) = some r := H
                      have A46 := Aside0.mk A460
                      clear A460
                      replace H := Option.bind_eq_some_iff.mp H
                      obtain ⟨⟨t205, t206⟩, A470, H⟩ := H
                      replace H : ((laws_eqByteS.f kj27 t205 t181).bind fun t209 => (if t209 = true then (laws_FnExactWireJoin.j2 kj27 t200 t199 (t206 != t182)) else (laws_FnExactWireJoin.j2 kj27 t200 t199 true))) = some r := H
                      have A47 := Aside0.mk A470
                      clear A470
                      have HC48 := Aside0.mk H
                      clear H
                      obtain ⟨Ao49, co49, eo49⟩ := Kd.Rc_slice HO_7.out
                      subst eo49
                      go_upto_region 25 with (first | ((with_reducible refine gate_callee (f := 27) rfl ?_); refine goesL_ (some 64) rfl rfl Try.func27 (by kernel_rfl) rfl #[.slice Ao49 t188.length co49, .int .i64 1] rfl (by (try simp only [List.map_toArray, List.map_cons, List.map_nil]); first | done | rfl | (simp only [List.length_drop, List.length_take]; rfl)) ?_; (with_reducible refine (laws_markByteS.callsC kj27 (fun k_ => some k_ = (.slice Ao49 t188.length co49 : Value).ownBlock) (.slice Ao49 t188.length co49) t188 1 t199 t200 w _ ?side1 ?side2 A40.out).mono ?_); (case side1 => repeat (first | (with_reducible first | exact HB.out | apply below_alloc | apply pw_below_drewN | apply below_drew1) | exact HB.out)); (case side2 => exact Kd.Rc_tight rfl HO_7.out); rintro e w50 ⟨rfl, hy0, hb, hkp⟩; refine ⟨_, rfl, ?_⟩; have n0_ := Aside0.mk (Kd.Rc_mono (ok' := fun k_ => some k_ ≠ (.slice Ao49 t188.length co49 : Value).ownBlock) (Kd.Rc_keptB (HO_4.out) hkp (fun k_ hk_ hs_ => (hk_) hs_)) (fun k_ hk_ => hk_.1)); have n1_ := Aside0.mk (Kd.Rc_reok rfl hy0 (fun k_ e_ => HO_7.out.1 k_ e_)); have n2_ := Aside0.mk (hb); clear HO_4; clear HO_7; clear HB; have HO_4 := n0_; have HO_7 := n1_; have HB := n2_; clear n0_ n1_ n2_; (try clear hb); (try clear hkp); (try clear hy0)) | ((with_reducible refine gate_callee (f := 28) rfl ?_); refine goesL_ (some 67) rfl rfl Try.func28 (by kernel_rfl) rfl #[.slice Ao49 t200.length co49, .int .i64 1] rfl (by (try simp only [List.map_toArray, List.map_cons, List.map_nil]); first | done | (rw [show t200.length = t188.length from (Kd.Rc_reads' HO_7.out).1.symm] <;> rfl) | rfl | (simp only [List.length_drop, List.length_take]; rfl)) ?_; (with_reducible refine (laws_heldByteS.calls kj27 _ _ t200 1 t201 _ ?side1 ?side2 A41.out).mono ?_); (case side1 => repeat (first | exact (Kd.Rc_reads' HO_7.out).2.2 | (with_reducible refine Kd.C_alloc ?_ _) | (with_reducible refine Kd.C_drewN ?_ _) | (with_reducible refine Kd.C_drew ?_))); (case side2 => rw [show t200.length = t188.length from (Kd.Rc_reads' HO_7.out).1.symm]; exact (Kd.Rc_reads' HO_7.out).2.1); rintro e w' ⟨rfl, ⟨nd, rfl⟩⟩; refine ⟨_, rfl, ?_⟩) | ((with_reducible refine gate_callee (f := 55) rfl ?_); refine goesL_ (some 75) rfl rfl Try.func55 (by kernel_rfl) rfl #[.slice A0 l0.length c0] rfl (by (try simp only [List.map_toArray, List.map_cons, List.map_nil]); first | done | rfl | (simp only [List.length_drop, List.length_take]; rfl)) ?_; (with_reducible refine (laws_toWireWordS.calls kj27 _ _ l0 t202 _ ?side1 ?side2 A46.out).mono ?_); (case side1 => repeat (first | exact (Kd.C_below HR0.out (by repeat (first | (with_reducible first | exact HB.out | apply below_alloc | apply pw_below_drewN | apply below_drew1) | exact HB.out))) | (with_reducible refine Kd.C_alloc ?_ _) | (with_reducible refine Kd.C_drewN ?_ _) | (with_reducible refine Kd.C_drew ?_))); (case side2 => exact HC0.out); rintro e w51 ⟨v203, rfl, ho0, hb⟩; refine ⟨_, rfl, ?_⟩; have n0_ := Aside0.mk (Kd.Rc_below (by (with_reducible repeat (first | apply Kd.Rc_alloc | apply Kd.Rc_drewN | apply Kd.Rc_drew)); exact HO_4.out) hb); have n1_ := Aside0.mk (Kd.Rc_below (by (with_reducible repeat (first | apply Kd.Rc_alloc | apply Kd.Rc_drewN | apply Kd.Rc_drew)); exact HO_7.out) hb); have n2_ := Aside0.mk (Kd.S_lower (Kd.S_new' (Kd.S_new' ho0 (Kd.Rc_lt (by (with_reducible repeat (first | apply Kd.Rc_alloc | apply Kd.Rc_drewN | apply Kd.Rc_drew)); exact HO_4.out))) (Kd.Rc_lt (by (with_reducible repeat (first | apply Kd.Rc_alloc | apply Kd.Rc_drewN | apply Kd.Rc_drew)); exact HO_7.out))) (below_size (by repeat (first | (with_reducible first | exact HB.out | apply below_alloc | apply pw_below_drewN | apply below_drew1) | exact HB.out)))); have n3_ := Aside0.mk (below_step (by repeat (first | (with_reducible first | exact HB.out | apply below_alloc | apply pw_below_drewN | apply below_drew1) | exact HB.out)) hb); clear HO_4; clear HO_7; clear HB; have HO_4 := n0_; have HO_7 := n1_; have HO204 := n2_; have HB := n3_; clear n0_ n1_ n2_ n3_; (try clear hb); (try clear hb2); (try clear hk); (try clear hi); (try clear ho0); obtain ⟨Ao52, co52, eo52⟩ := Kd.S_slice HO204.out; subst eo52) | ((with_reducible refine gate_callee (f := 46) rfl ?_); refine goesL_ (some 76) rfl rfl Try.func46 (by kernel_rfl) rfl #[.slice Ao52 t202.length co52] rfl (by (try simp only [List.map_toArray, List.map_cons, List.map_nil]); first | done | rfl | (simp only [List.length_drop, List.length_take]; rfl)) ?_; (with_reducible refine (impl_WireJoin.calls kj27 _ _ t202 t205 t206 _ ?side1 ?side2 A47.out).mono ?_); (case side1 => repeat (first | exact (Kd.S_reads' HO204.out).2.2 | (with_reducible refine Kd.C_alloc ?_ _) | (with_reducible refine Kd.C_drewN ?_ _) | (with_reducible refine Kd.C_drew ?_))); (case side2 => exact (Kd.S_reads' HO204.out).2.1); rintro e w53 ⟨v207, rfl, ho0, hb⟩; refine ⟨_, rfl, ?_⟩; have n0_ := Aside0.mk (Kd.Rc_elder' (by (with_reducible repeat (first | apply Kd.Rc_alloc | apply Kd.Rc_drewN | apply Kd.Rc_drew)); exact HO_4.out) (Kd.Rc_base ho0) hb); have n1_ := Aside0.mk (Kd.Rc_elder' (by (with_reducible repeat (first | apply Kd.Rc_alloc | apply Kd.Rc_drewN | apply Kd.Rc_drew)); exact HO_7.out) (Kd.Rc_base ho0) hb); have n2_ := Aside0.mk (Kd.S_elder' (by (with_reducible repeat (first | apply Kd.S_alloc | apply Kd.S_drewN | apply Kd.S_drew)); exact HO204.out) (Kd.Rc_base ho0) hb); have n3_ := Aside0.mk (Kd.Rc_lower (Kd.Rc_new' (Kd.Rc_new' ho0 (Kd.Rc_lt (by (with_reducible repeat (first | apply Kd.Rc_alloc | apply Kd.Rc_drewN | apply Kd.Rc_drew)); exact HO_4.out))) (Kd.Rc_lt (by (with_reducible repeat (first | apply Kd.Rc_alloc | apply Kd.Rc_drewN | apply Kd.Rc_drew)); exact HO_7.out))) (below_size (by repeat (first | (with_reducible first | exact HB.out | apply below_alloc | apply pw_below_drewN | apply below_drew1) | exact HB.out)))); have n4_ := Aside0.mk (below_step (by repeat (first | (with_reducible first | exact HB.out | apply below_alloc | apply pw_below_drewN | apply below_drew1) | exact HB.out)) hb); clear HO_4; clear HO_7; clear HO204; clear HB; have HO_4 := n0_; have HO_7 := n1_; have HO204 := n2_; have HO208 := n3_; have HB := n4_; clear n0_ n1_ n2_ n3_ n4_; (try clear hb); (try clear hb2); (try clear hk); (try clear hi); (try clear ho0)))
                      (try simp only [Act.put, List.setIfInBounds_toArray, List.set_cons_zero, List.set_cons_succ])
                      go_cut [87] (fun v87 wc => ∃ (kq : Nat) (x87_47 : Bool), v87 = .bool x87_47 ∧ Aside0 (laws_FnExactWireJoin.j2 kq t200 t199 x87_47 = some r) ∧ Aside0 (kq ≤ kj27) ∧ Aside0 (Kd.Rc (Kd.int .u8) 5 wc w.heap.size (fun _ => True) (.slice Ao49 t188.length co49) t200) ∧ Aside0 (Below w.heap.size w wc))
                      case first =>
                        have H := HC48.out
                        clear HC48
                        replace H := Option.bind_eq_some_iff.mp H
                        obtain ⟨t209, A540, H⟩ := H
                        replace H : (if t209 = true then (laws_FnExactWireJoin.j2 kj27 t200 t199 (t206 != t182)) else (laws_FnExactWireJoin.j2 kj27 t200 t199 true)) = some r := H
                        have A54 := Aside0.mk A540
                        clear A540
                        by_cases c55 : t209 = true
                        · subst c55
                          have H1 : (laws_FnExactWireJoin.j2 kj27 t200 t199 (t206 != t182)) = some r := by rw [if_pos rfl] at H; exact H
                          clear H
                          have H := H1
                          clear H1
                          have H' := Aside0.mk H
                          clear H
                          obtain ⟨Ao56, co56, eo56⟩ := Kd.Rc_slice HO208.out
                          subst eo56
                          obtain ⟨Ao57, co57, eo57⟩ := Kd.Rc_slice HO_4.out
                          subst eo57
                          go_wp2_with (first | ((with_reducible refine gate_callee (f := 20) rfl ?_); refine goesL_ (some 81) rfl rfl Try.func20 (by kernel_rfl) rfl #[.slice Ao56 t205.length co56, .slice Ao57 t181.length co57] rfl (by (try simp only [List.map_toArray, List.map_cons, List.map_nil]); first | done | rfl | (simp only [List.length_drop, List.length_take]; rfl)) ?_; (with_reducible refine (laws_eqByteS.calls kj27 _ _ t205 _ _ t181 true _ ?side1 ?side2 ?side3 ?side4 A54.out).mono ?_); (case side1 => repeat (first | exact (Kd.Rc_reads' HO208.out).2.2 | (with_reducible refine Kd.C_alloc ?_ _) | (with_reducible refine Kd.C_drewN ?_ _) | (with_reducible refine Kd.C_drew ?_))); (case side2 => exact (Kd.Rc_reads' HO208.out).2.1); (case side3 => repeat (first | exact (Kd.Rc_reads' HO_4.out).2.2 | (with_reducible refine Kd.C_alloc ?_ _) | (with_reducible refine Kd.C_drewN ?_ _) | (with_reducible refine Kd.C_drew ?_))); (case side4 => exact (Kd.Rc_reads' HO_4.out).2.1); rintro e w' ⟨rfl, ⟨nd, rfl⟩⟩; refine ⟨_, rfl, ?_⟩))
                          go_meet
                          case rel => exact ⟨_, ((t206 != t182)), (by first | rfl | (simp; done) | (simp [*]; done)), H', ⟨by have := HJ8.out; have := HJ27.out; first | omega | exact Nat.le_refl _⟩, ⟨by (with_reducible repeat (first | apply Kd.Rc_alloc | apply Kd.Rc_drewN | apply Kd.Rc_drew)); exact Kd.Rc_mono HO_7.out (fun _ hk => trivial)⟩, ⟨by repeat (first | (with_reducible first | exact HB.out | apply below_alloc | apply pw_below_drewN | apply below_drew1) | exact HB.out)⟩⟩
                        · replace c55 := Bool.eq_false_iff.mpr c55
                          subst c55
                          have H1 : (laws_FnExactWireJoin.j2 kj27 t200 t199 true) = some r := by rw [if_neg (show ¬ (false = true) by decide)] at H; exact H
                          clear H
                          have H := H1
                          clear H1
                          have H' := Aside0.mk H
                          clear H
                          obtain ⟨Ao58, co58, eo58⟩ := Kd.Rc_slice HO208.out
                          subst eo58
                          obtain ⟨Ao59, co59, eo59⟩ := Kd.Rc_slice HO_4.out
                          subst eo59
                          go_wp2_with (first | ((with_reducible refine gate_callee (f := 20) rfl ?_); refine goesL_ (some 81) rfl rfl Try.func20 (by kernel_rfl) rfl #[.slice Ao58 t205.length co58, .slice Ao59 t181.length co59] rfl (by (try simp only [List.map_toArray, List.map_cons, List.map_nil]); first | done | rfl | (simp only [List.length_drop, List.length_take]; rfl)) ?_; (with_reducible refine (laws_eqByteS.calls kj27 _ _ t205 _ _ t181 false _ ?side1 ?side2 ?side3 ?side4 A54.out).mono ?_); (case side1 => repeat (first | exact (Kd.Rc_reads' HO208.out).2.2 | (with_reducible refine Kd.C_alloc ?_ _) | (with_reducible refine Kd.C_drewN ?_ _) | (with_reducible refine Kd.C_drew ?_))); (case side2 => exact (Kd.Rc_reads' HO208.out).2.1); (case side3 => repeat (first | exact (Kd.Rc_reads' HO_4.out).2.2 | (with_reducible refine Kd.C_alloc ?_ _) | (with_reducible refine Kd.C_drewN ?_ _) | (with_reducible refine Kd.C_drew ?_))); (case side4 => exact (Kd.Rc_reads' HO_4.out).2.1); rintro e w' ⟨rfl, ⟨nd, rfl⟩⟩; refine ⟨_, rfl, ?_⟩))
                          go_meet
                          case rel => exact ⟨_, (true), (by first | rfl | (simp; done) | (simp [*]; done)), H', ⟨by have := HJ8.out; have := HJ27.out; first | omega | exact Nat.le_refl _⟩, ⟨by (with_reducible repeat (first | apply Kd.Rc_alloc | apply Kd.Rc_drewN | apply Kd.Rc_drew)); exact Kd.Rc_mono HO_7.out (fun _ hk => trivial)⟩, ⟨by repeat (first | (with_reducible first | exact HB.out | apply below_alloc | apply pw_below_drewN | apply below_drew1) | exact HB.out)⟩⟩
                      case rest =>
                        clear HC48
                        try clear c1
                        try clear c2
                        try clear p2
                        try clear c3
                        try clear c3b0
                        try clear c4
                        try clear c5
                        try clear c14
                        try clear c18
                        try clear c20
                        try clear c23
                        try clear c26
                        try clear c27
                        try clear c28
                        try clear c32
                        try clear c32b0
                        try clear c34
                        try clear c39
                        try clear c42
                        try clear c42b0
                        try clear c45
                        try clear c45b0
                        try clear c45b1
                        try clear c46
                        try clear c50
                        try clear c51
                        try clear c53
                        try clear c54
                        try clear c55
                        try clear p2
                        obtain ⟨kq, x87_47, rfl, HA, HJ47, HO_7, HB⟩ := hcut
                        have hl7_47 := (Kd.Rc_reads' HO_7.out).1
                        rw [hl7_47] at HO_7
                        (try simp only [hl7_47])
                        cases kq with
                        | zero => exact absurd HA.out (by simp [laws_FnExactWireJoin.j2])
                        | succ kj47 =>
                          have H := HA.out
                          clear HA
                          simp only [laws_FnExactWireJoin.j2] at H
                          by_cases c60 : x87_47 = true
                          · subst c60
                            have H1 : (some false) = some r := by rw [if_pos rfl] at H; exact H
                            clear H
                            have H := H1
                            clear H1
                            obtain rfl := Option.some.inj H
                            go_wp2
                            go_ret
                            exact ⟨by first | rfl | (simp [errW_none, errW_some] <;> rfl) | (simp [*, errW_none, errW_some] <;> rfl), by repeat (first | (with_reducible first | exact HB.out | apply below_alloc | apply pw_below_drewN | apply below_drew1) | exact HB.out)⟩
                          · replace c60 := Bool.eq_false_iff.mpr c60
                            subst c60
                            have H1 : ((laws_heldByteS.f kj47 t200 1).bind fun t210 => (if t210 < 0 then (some false) else (if t210 = t199 then (some true) else (some false)))) = some r := by rw [if_neg (show ¬ (false = true) by decide)] at H; exact H
                            clear H
                            have H := H1
                            clear H1
                            replace H := Option.bind_eq_some_iff.mp H
                            obtain ⟨t210, A610, H⟩ := H
                            replace H : (if t210 < 0 then (some false) else (if t210 = t199 then (some true) else (some false))) = some r := H
                            have A61 := Aside0.mk A610
                            clear A610
                            by_cases c62 : t210 < 0
                            · rw [if_pos c62] at H
                              have c62b0 : decide (t210 < 0) = true := decide_eq_true c62
                              clear c62
                              obtain rfl := Option.some.inj H
                              go_wp2_with (first | ((with_reducible refine gate_callee (f := 28) rfl ?_); refine goesL_ (some 90) rfl rfl Try.func28 (by kernel_rfl) rfl #[.slice Ao49 t200.length co49, .int .i64 1] rfl (by (try simp only [List.map_toArray, List.map_cons, List.map_nil]); first | done | rfl | (simp only [List.length_drop, List.length_take]; rfl)) ?_; (with_reducible refine (laws_heldByteS.calls kj47 _ _ t200 1 t210 _ ?side1 ?side2 A61.out).mono ?_); (case side1 => repeat (first | exact (Kd.Rc_reads' HO_7.out).2.2 | (with_reducible refine Kd.C_alloc ?_ _) | (with_reducible refine Kd.C_drewN ?_ _) | (with_reducible refine Kd.C_drew ?_))); (case side2 => exact (Kd.Rc_reads' HO_7.out).2.1); rintro e w' ⟨rfl, ⟨nd, rfl⟩⟩; refine ⟨_, rfl, ?_⟩))
                              go_ret
                              exact ⟨by first | rfl | (simp [errW_none, errW_some] <;> rfl) | (simp [*, errW_none, errW_some] <;> rfl), by repeat (first | (with_reducible first | exact HB.out | apply below_alloc | apply pw_below_drewN | apply below_drew1) | exact HB.out)⟩
                            · rw [if_neg c62] at H
                              have c62b0 : decide (t210 < 0) = false := decide_eq_false c62
                              clear c62
                              by_cases c63 : t210 = t199
                              · rw [if_pos c63] at H
                                have c63b0 : (t210 == t199) = true := beq_iff_eq.mpr c63
                                have c63b1 : (t210 != t199) = false := bne_eq_false_iff_eq.mpr c63
                                clear c63
                                obtain rfl := Option.some.inj H
                                go_wp2_with (first | ((with_reducible refine gate_callee (f := 28) rfl ?_); refine goesL_ (some 90) rfl rfl Try.func28 (by kernel_rfl) rfl #[.slice Ao49 t200.length co49, .int .i64 1] rfl (by (try simp only [List.map_toArray, List.map_cons, List.map_nil]); first | done | rfl | (simp only [List.length_drop, List.length_take]; rfl)) ?_; (with_reducible refine (laws_heldByteS.calls kj47 _ _ t200 1 t210 _ ?side1 ?side2 A61.out).mono ?_); (case side1 => repeat (first | exact (Kd.Rc_reads' HO_7.out).2.2 | (with_reducible refine Kd.C_alloc ?_ _) | (with_reducible refine Kd.C_drewN ?_ _) | (with_reducible refine Kd.C_drew ?_))); (case side2 => exact (Kd.Rc_reads' HO_7.out).2.1); rintro e w' ⟨rfl, ⟨nd, rfl⟩⟩; refine ⟨_, rfl, ?_⟩))
                                go_ret
                                exact ⟨by first | rfl | (simp [errW_none, errW_some] <;> rfl) | (simp [*, errW_none, errW_some] <;> rfl), by repeat (first | (with_reducible first | exact HB.out | apply below_alloc | apply pw_below_drewN | apply below_drew1) | exact HB.out)⟩
                              · rw [if_neg c63] at H
                                have c63b0 : (t210 == t199) = false := beq_eq_false_iff_ne.mpr c63
                                have c63b1 : (t210 != t199) = true := bne_iff_ne.mpr c63
                                obtain rfl := Option.some.inj H
                                go_wp2_with (first | ((with_reducible refine gate_callee (f := 28) rfl ?_); refine goesL_ (some 90) rfl rfl Try.func28 (by kernel_rfl) rfl #[.slice Ao49 t200.length co49, .int .i64 1] rfl (by (try simp only [List.map_toArray, List.map_cons, List.map_nil]); first | done | rfl | (simp only [List.length_drop, List.length_take]; rfl)) ?_; (with_reducible refine (laws_heldByteS.calls kj47 _ _ t200 1 t210 _ ?side1 ?side2 A61.out).mono ?_); (case side1 => repeat (first | exact (Kd.Rc_reads' HO_7.out).2.2 | (with_reducible refine Kd.C_alloc ?_ _) | (with_reducible refine Kd.C_drewN ?_ _) | (with_reducible refine Kd.C_drew ?_))); (case side2 => exact (Kd.Rc_reads' HO_7.out).2.1); rintro e w' ⟨rfl, ⟨nd, rfl⟩⟩; refine ⟨_, rfl, ?_⟩))
                                go_ret
                                exact ⟨by first | rfl | (simp [errW_none, errW_some] <;> rfl) | (simp [*, errW_none, errW_some] <;> rfl), by repeat (first | (with_reducible first | exact HB.out | apply below_alloc | apply pw_below_drewN | apply below_drew1) | exact HB.out)⟩
                    · rw [if_neg c45] at H
                      have c45b0 : (t201 == t199) = false := beq_eq_false_iff_ne.mpr c45
                      have c45b1 : (t201 != t199) = true := bne_iff_ne.mpr c45
                      obtain rfl := Option.some.inj H
                      obtain ⟨Ao64, co64, eo64⟩ := Kd.Rc_slice HO_7.out
                      subst eo64
                      go_wp2_with (first | ((with_reducible refine gate_callee (f := 27) rfl ?_); refine goesL_ (some 64) rfl rfl Try.func27 (by kernel_rfl) rfl #[.slice Ao64 t188.length co64, .int .i64 1] rfl (by (try simp only [List.map_toArray, List.map_cons, List.map_nil]); first | done | rfl | (simp only [List.length_drop, List.length_take]; rfl)) ?_; (with_reducible refine (laws_markByteS.callsC kj27 (fun k_ => some k_ = (.slice Ao64 t188.length co64 : Value).ownBlock) (.slice Ao64 t188.length co64) t188 1 t199 t200 w _ ?side1 ?side2 A40.out).mono ?_); (case side1 => repeat (first | (with_reducible first | exact HB.out | apply below_alloc | apply pw_below_drewN | apply below_drew1) | exact HB.out)); (case side2 => exact Kd.Rc_tight rfl HO_7.out); rintro e w65 ⟨rfl, hy0, hb, hkp⟩; refine ⟨_, rfl, ?_⟩; have n0_ := Aside0.mk (Kd.Rc_mono (ok' := fun k_ => some k_ ≠ (.slice Ao64 t188.length co64 : Value).ownBlock) (Kd.Rc_keptB (HO_4.out) hkp (fun k_ hk_ hs_ => (hk_) hs_)) (fun k_ hk_ => hk_.1)); have n1_ := Aside0.mk (Kd.Rc_reok rfl hy0 (fun k_ e_ => HO_7.out.1 k_ e_)); have n2_ := Aside0.mk (hb); clear HO_4; clear HO_7; clear HB; have HO_4 := n0_; have HO_7 := n1_; have HB := n2_; clear n0_ n1_ n2_; (try clear hb); (try clear hkp); (try clear hy0)) | ((with_reducible refine gate_callee (f := 28) rfl ?_); refine goesL_ (some 67) rfl rfl Try.func28 (by kernel_rfl) rfl #[.slice Ao64 t200.length co64, .int .i64 1] rfl (by (try simp only [List.map_toArray, List.map_cons, List.map_nil]); first | done | (rw [show t200.length = t188.length from (Kd.Rc_reads' HO_7.out).1.symm] <;> rfl) | rfl | (simp only [List.length_drop, List.length_take]; rfl)) ?_; (with_reducible refine (laws_heldByteS.calls kj27 _ _ t200 1 t201 _ ?side1 ?side2 A41.out).mono ?_); (case side1 => repeat (first | exact (Kd.Rc_reads' HO_7.out).2.2 | (with_reducible refine Kd.C_alloc ?_ _) | (with_reducible refine Kd.C_drewN ?_ _) | (with_reducible refine Kd.C_drew ?_))); (case side2 => rw [show t200.length = t188.length from (Kd.Rc_reads' HO_7.out).1.symm]; exact (Kd.Rc_reads' HO_7.out).2.1); rintro e w' ⟨rfl, ⟨nd, rfl⟩⟩; refine ⟨_, rfl, ?_⟩))
                      go_ret
                      exact ⟨by first | rfl | (simp [errW_none, errW_some] <;> rfl) | (simp [*, errW_none, errW_some] <;> rfl), by repeat (first | (with_reducible first | exact HB.out | apply below_alloc | apply pw_below_drewN | apply below_drew1) | exact HB.out)⟩
          · replace c26 := Bool.eq_false_iff.mpr c26
            subst c26
            have H1 : (some false) = some r := by rw [if_neg (show ¬ (false = true) by decide)] at H; exact H
            clear H
            have H := H1
            clear H1
            obtain rfl := Option.some.inj H
            go_wp2_with (first | ((with_reducible refine gate_callee (f := 55) rfl ?_); refine goesL_ (some 43) rfl rfl Try.func55 (by kernel_rfl) rfl #[.slice A0 l0.length c0] rfl (by (try simp only [List.map_toArray, List.map_cons, List.map_nil]); first | done | rfl | (simp only [List.length_drop, List.length_take]; rfl)) ?_; (with_reducible refine (laws_toWireWordS.calls kj8 _ _ l0 t193 _ ?side1 ?side2 A24.out).mono ?_); (case side1 => repeat (first | exact (Kd.C_below HR0.out HB.out) | (with_reducible refine Kd.C_alloc ?_ _) | (with_reducible refine Kd.C_drewN ?_ _) | (with_reducible refine Kd.C_drew ?_))); (case side2 => exact HC0.out); rintro e w66 ⟨v194, rfl, ho0, hb⟩; refine ⟨_, rfl, ?_⟩; have n0_ := Aside0.mk (Kd.Rc_below (by (with_reducible repeat (first | apply Kd.Rc_alloc | apply Kd.Rc_drewN | apply Kd.Rc_drew)); exact HO_4.out) hb); have n1_ := Aside0.mk (Kd.S_elder' (by (with_reducible repeat (first | apply Kd.S_alloc | apply Kd.S_drewN | apply Kd.S_drew)); exact HO_6.out) (Kd.S_base ho0) hb); have n2_ := Aside0.mk (Kd.Rc_below (by (with_reducible repeat (first | apply Kd.Rc_alloc | apply Kd.Rc_drewN | apply Kd.Rc_drew)); exact HO_7.out) hb); have n3_ := Aside0.mk (Kd.S_lower (Kd.S_new' (Kd.S_new' (Kd.S_new' ho0 (Kd.Rc_lt (by (with_reducible repeat (first | apply Kd.Rc_alloc | apply Kd.Rc_drewN | apply Kd.Rc_drew)); exact HO_4.out))) (Kd.S_lt (by (with_reducible repeat (first | apply Kd.S_alloc | apply Kd.S_drewN | apply Kd.S_drew)); exact HO_6.out))) (Kd.Rc_lt (by (with_reducible repeat (first | apply Kd.Rc_alloc | apply Kd.Rc_drewN | apply Kd.Rc_drew)); exact HO_7.out))) (below_size (by repeat (first | (with_reducible first | exact HB.out | apply below_alloc | apply pw_below_drewN | apply below_drew1) | exact HB.out)))); have n4_ := Aside0.mk (below_step (by repeat (first | (with_reducible first | exact HB.out | apply below_alloc | apply pw_below_drewN | apply below_drew1) | exact HB.out)) hb); clear HO_4; clear HO_6; clear HO_7; clear HB; have HO_4 := n0_; have HO_6 := n1_; have HO_7 := n2_; have HO195 := n3_; have HB := n4_; clear n0_ n1_ n2_ n3_ n4_; (try clear hb); (try clear hb2); (try clear hk); (try clear hi); (try clear ho0); obtain ⟨Ao67, co67, eo67⟩ := Kd.S_slice HO195.out; subst eo67) | ((with_reducible refine gate_callee (f := 50) rfl ?_); refine goesL_ (some 44) rfl rfl Try.func50 (by kernel_rfl) rfl #[.slice Ao15 t185.length co15, .slice Ao67 t193.length co67] rfl (by (try simp only [List.map_toArray, List.map_cons, List.map_nil]); first | done | rfl | (simp only [List.length_drop, List.length_take]; rfl)) ?_; (with_reducible refine (laws_eqWireWordS.calls kj8 _ _ t185 _ _ t193 false _ ?side1 ?side2 ?side3 ?side4 A25.out).mono ?_); (case side1 => repeat (first | exact (Kd.S_reads' HO_6.out).2.2 | (with_reducible refine Kd.C_alloc ?_ _) | (with_reducible refine Kd.C_drewN ?_ _) | (with_reducible refine Kd.C_drew ?_))); (case side2 => exact (Kd.S_reads' HO_6.out).2.1); (case side3 => repeat (first | exact (Kd.S_reads' HO195.out).2.2 | (with_reducible refine Kd.C_alloc ?_ _) | (with_reducible refine Kd.C_drewN ?_ _) | (with_reducible refine Kd.C_drew ?_))); (case side4 => exact (Kd.S_reads' HO195.out).2.1); rintro e w68 ⟨rfl, hb⟩; refine ⟨_, rfl, ?_⟩; have n0_ := Aside0.mk (Kd.Rc_below (by (with_reducible repeat (first | apply Kd.Rc_alloc | apply Kd.Rc_drewN | apply Kd.Rc_drew)); exact HO_4.out) hb); have n1_ := Aside0.mk (Kd.S_below (by (with_reducible repeat (first | apply Kd.S_alloc | apply Kd.S_drewN | apply Kd.S_drew)); exact HO_6.out) hb); have n2_ := Aside0.mk (Kd.Rc_below (by (with_reducible repeat (first | apply Kd.Rc_alloc | apply Kd.Rc_drewN | apply Kd.Rc_drew)); exact HO_7.out) hb); have n3_ := Aside0.mk (Kd.S_below (by (with_reducible repeat (first | apply Kd.S_alloc | apply Kd.S_drewN | apply Kd.S_drew)); exact HO195.out) hb); have n4_ := Aside0.mk (below_step (by repeat (first | (with_reducible first | exact HB.out | apply below_alloc | apply pw_below_drewN | apply below_drew1) | exact HB.out)) hb); clear HO_4; clear HO_6; clear HO_7; clear HO195; clear HB; have HO_4 := n0_; have HO_6 := n1_; have HO_7 := n2_; have HO195 := n3_; have HB := n4_; clear n0_ n1_ n2_ n3_ n4_; (try clear hb); (try clear hb2); (try clear hk); (try clear hi)))
            go_ret
            exact ⟨by first | rfl | (simp [errW_none, errW_some] <;> rfl) | (simp [*, errW_none, errW_some] <;> rfl), by repeat (first | (with_reducible first | exact HB.out | apply below_alloc | apply pw_below_drewN | apply below_drew1) | exact HB.out)⟩

end Go.Proofs.Ytoeijldmebocmaa.J
