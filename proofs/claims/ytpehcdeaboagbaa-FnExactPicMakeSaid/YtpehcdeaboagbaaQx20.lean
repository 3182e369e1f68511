/- Functions of this seat as Lean functions, and that the Go code comes to their answers: laid by a program (the kit's printer over all laws of the seat at once, some walks turned by the session's own fix.py). -/
import Derived.Test.YtpehcdeaboagbaaMarkQ
import Derived.Test.YtpehcdeaboagbaaCcPicMake
import Derived.Test.YtpehcdeaboagbaaQx0
import Derived.Test.YtpehcdeaboagbaaQx1
import Derived.Test.YtpehcdeaboagbaaQx2
import Derived.Test.YtpehcdeaboagbaaQx5
import Derived.Test.YtpehcdeaboagbaaQx6
import Derived.Test.YtpehcdeaboagbaaQx13
import Derived.Test.YtpehcdeaboagbaaQx18
import Derived.Test.YtpehcdeaboagbaaQx19
namespace Go.Proofs.Ytpehcdeaboagbaa.Q
open Go.RowKit Go.Proofs.YtpehcdeaboagbaaW.PrintWords Go.Proofs.YtpehcdeaboagbaaW.PrintLast Go.Proofs.YtpehcdeaboagbaaW.PrintMore
attribute [local go_sem] max2_int min2_int max_two min_two max_three min_three max_four min_four   -- for this text's walks alone
set_option linter.unusedVariables false
set_option linter.unusedSimpArgs false

/-! ### laws_FnExactPicMake: function 5 -/
mutual
def laws_FnExactPicMake.j0 : Nat → List (S47) → List Int → List (S52) → List Int → Bool → Int → Int → Int → Int → Option (Bool)
  | 0, _, _, _, _, _, _, _, _, _ => none
  | k + 1, x0, x4, x6, x7, x41, x374000, x374001, x383000, x383001 => if x41 = true then (some false) else ((laws_toInstS.f k x0).bind fun t385 => ((laws_eqInstS.f k x6 t385).bind fun t388 => (if t388 = true then ((laws_markInstS.f k x6 1).bind fun t389 => (if t389 < 0 then (laws_FnExactPicMake.j1 k x0 x4 x7 true x374000 x374001) else ((laws_eqByteS.f k x7 x4).bind fun t390 => (if t390 = true then ((laws_eqPicFault.f x383000 x383001 x374000 x374001).bind fun t391 => (laws_FnExactPicMake.j1 k x0 x4 x7 (!t391) x374000 x374001)) else (laws_FnExactPicMake.j1 k x0 x4 x7 true x374000 x374001))))) else (some false))))
def laws_FnExactPicMake.j1 : Nat → List (S47) → List Int → List Int → Bool → Int → Int → Option (Bool)
  | 0, _, _, _, _, _, _ => none
  | k + 1, x0, x4, x7, x63, x374000, x374001 => if x63 = true then (some false) else ((laws_markByteS.f k x7 1).bind fun bt392 => ((laws_heldByteS.f k bt392.2 1).bind fun t394 => (if t394 < 0 then (some false) else (if t394 = bt392.1 then ((laws_toInstS.f k x0).bind fun t395 => ((impl_PicMake.f k t395).bind fun bt398 => ((laws_eqByteS.f k bt398.1 x4).bind fun t404 => (if t404 = true then ((laws_eqPicFault.f bt398.2.1 bt398.2.2 x374000 x374001).bind fun t405 => (laws_FnExactPicMake.j2 k bt392.2 bt392.1 (!t405))) else (laws_FnExactPicMake.j2 k bt392.2 bt392.1 true))))) else (some false)))))
def laws_FnExactPicMake.j2 : Nat → List Int → Int → Bool → Option (Bool)
  | 0, _, _, _ => none
  | k + 1, x7, x10, x90 => if x90 = true then (some false) else ((laws_heldByteS.f k x7 1).bind fun t406 => (if t406 < 0 then (some false) else (if t406 = x10 then (some true) else (some false))))
end
def laws_FnExactPicMake.f (k : Nat) (l0 : List (S47)) : Option (Bool) := (laws_szInstS.f k l0 1048576).bind fun t364 => (if t364 < 0 then (some true) else ((laws_toInstS.f k l0).bind fun t365 => ((spec_PicMake.f k t365).bind fun bt368 => ((laws_toInstS.f k l0).bind fun t374 => ((impl_PicMake.f k t374).bind fun bt377 => ((laws_eqByteS.f k bt377.1 bt368.1).bind fun t383 => (if t383 = true then ((laws_eqPicFault.f bt377.2.1 bt377.2.2 bt368.2.1 bt368.2.2).bind fun t384 => (laws_FnExactPicMake.j0 k l0 bt368.1 t374 bt377.1 (!t384) bt368.2.1 bt368.2.2 bt377.2.1 bt377.2.2)) else (laws_FnExactPicMake.j0 k l0 bt368.1 t374 bt377.1 true bt368.2.1 bt368.2.2 bt377.2.1 bt377.2.2))))))))
set_option maxHeartbeats 8000000 in
set_option maxRecDepth 100000 in
theorem laws_FnExactPicMake.calls (k : Nat) (A0 : Option Addr) (c0 : Nat) (l0 : List (S47)) (r : Bool) (w : World) (hr0 : Kd.C k47 w A0 l0.length l0) (hc0 : l0.length ≤ c0) (h : laws_FnExactPicMake.f k l0 = some r) :
    Calls Try.prog 5 #[.slice A0 l0.length c0] w fun e w' => e = .returned (.bool r) ∧ Below w.heap.size w w' := by
  have hu36 := Try.underlying36
  have HR0 := Aside0.mk hr0
  have HC0 := Aside0.mk hc0
  clear hr0 hc0
  have HB := Aside0.mk (Below.refl w.heap.size w)
  have H : ((laws_szInstS.f k l0 1048576).bind fun t364 => (if t364 < 0 then (some true) else ((laws_toInstS.f k l0).bind fun t365 => ((spec_PicMake.f k t365).bind fun bt368 => ((laws_toInstS.f k l0).bind fun t374 => ((impl_PicMake.f k t374).bind fun bt377 => ((laws_eqByteS.f k bt377.1 bt368.1).bind fun t383 => (if t383 = true then ((laws_eqPicFault.f bt377.2.1 bt377.2.2 bt368.2.1 bt368.2.2).bind fun t384 => (laws_FnExactPicMake.j0 k l0 bt368.1 t374 bt377.1 (!t384) bt368.2.1 bt368.2.2 bt377.2.1 bt377.2.2)) else (laws_FnExactPicMake.j0 k l0 bt368.1 t374 bt377.1 true bt368.2.1 bt368.2.2 bt377.2.1 bt377.2.2))))))))) = some r := h
  clear h
  replace H := Option.bind_eq_some_iff.mp H
  obtain ⟨t364, A20, H⟩ := H
  replace H : (if t364 < 0 then (some true) else ((laws_toInstS.f k l0).bind fun t365 => ((spec_PicMake.f k t365).bind fun bt368 => ((laws_toInstS.f k l0).bind fun t374 => ((impl_PicMake.f k t374).bind fun bt377 => ((laws_eqByteS.f k bt377.1 bt368.1).bind fun t383 => (if t383 = true then ((laws_eqPicFault.f bt377.2.1 bt377.2.2 bt368.2.1 bt368.2.2).bind fun t384 => (laws_FnExactPicMake.j0 k l0 bt368.1 t374 bt377.1 (!t384) bt368.2.1 bt368.2.2 bt377.2.1 bt377.2.2)) else (laws_FnExactPicMake.j0 k l0 bt368.1 t374 bt377.1 true bt368.2.1 bt368.2.2 bt377.2.1 bt377.2.2)))))))) = some r := H
  have A2 := Aside0.mk A20
  clear A20
  by_cases c3 : t364 < 0
  · rw [if_pos c3] at H
    have c3b0 : decide (t364 < 0) = true := decide_eq_true c3
    clear c3
    obtain rfl := Option.some.inj H
    go_enter Try.func5, Try.ntmps5
    go_wp2_with (first | ((with_reducible refine gate_callee (f := 6) rfl ?_); refine goesL_ (some 16) rfl rfl Try.func6 (by kernel_rfl) rfl #[.slice A0 l0.length c0, .int .i64 1048576] rfl (by (try simp only [List.map_toArray, List.map_cons, List.map_nil]); first | done | rfl | (simp only [List.length_drop, List.length_take]; rfl)) ?_; (with_reducible refine (laws_szInstS.calls k _ _ l0 1048576 t364 _ ?side1 ?side2 A2.out).mono ?_); (case side1 => repeat (first | exact HR0.out | (with_reducible refine Kd.C_alloc ?_ _) | (with_reducible refine Kd.C_drewN ?_ _) | (with_reducible refine Kd.C_drew ?_))); (case side2 => exact HC0.out); rintro e w4 ⟨rfl, hb⟩; refine ⟨_, rfl, ?_⟩; have n0_ := Aside0.mk (below_step (by repeat (first | (with_reducible first | exact HB.out | apply below_alloc | apply pw_below_drewN | apply below_drew1) | exact HB.out)) hb); clear HB; have HB := n0_; clear n0_; (try clear hb); (try clear hb2); (try clear hk); (try clear hi)))
    go_ret
    exact ⟨by first | rfl | (simp [errW_none, errW_some] <;> rfl) | (simp [*, errW_none, errW_some] <;> rfl), by repeat (first | (with_reducible first | exact HB.out | apply below_alloc | apply pw_below_drewN | apply below_drew1) | exact HB.out)⟩
  · rw [if_neg c3] at H
    have c3b0 : decide (t364 < 0) = false := decide_eq_false c3
    clear c3
    replace H := Option.bind_eq_some_iff.mp H
    obtain ⟨t365, A50, H⟩ := H
    replace H : ((spec_PicMake.f k t365).bind fun bt368 => ((laws_toInstS.f k l0).bind fun t374 => ((impl_PicMake.f k t374).bind fun bt377 => ((laws_eqByteS.f k bt377.1 bt368.1).bind fun t383 => (if t383 = true then ((laws_eqPicFault.f bt377.2.1 bt377.2.2 bt368.2.1 bt368.2.2).bind fun t384 => (laws_FnExactPicMake.j0 k l0 bt368.1 t374 bt377.1 (!t384) bt368.2.1 bt368.2.2 bt377.2.1 bt377.2.2)) else (laws_FnExactPicMake.j0 k l0 bt368.1 t374 bt377.1 true bt368.2.1 bt368.2.2 bt377.2.1 bt377.2.2)))))) = some r := H
    have A5 := Aside0.mk A50
    clear A50
    replace H := Option.bind_eq_some_iff.mp H
    obtain ⟨⟨t368, t371, t372⟩, A60, H⟩ := H
    replace H : ((laws_toInstS.f k l0).bind fun t374 => ((impl_PicMake.f k t374).bind fun bt377 => ((laws_eqByteS.f k bt377.1 t368).bind fun t383 => (if t383 = true then ((laws_eqPicFault.f bt377.2.1 bt377.2.2 t371 t372).bind fun t384 => (laws_FnExactPicMake.j0 k l0 t368 t374 bt377.1 (!t384) t371 t372 bt377.2.1 bt377.2.2)) else (laws_FnExactPicMake.j0 k l0 t368 t374 bt377.1 true t371 t372 bt377.2.1 bt377.2.2))))) = some r := H
    have A6 := Aside0.mk A60
    clear A60
    replace H := Option.bind_eq_some_iff.mp H
    obtain ⟨t374, A70, H⟩ := H
    replace H : ((impl_PicMake.f k t374).bind fun bt377 => ((laws_eqByteS.f k bt377.1 t368).bind fun t383 => (if t383 = true then ((laws_eqPicFault.f bt377.2.1 bt377.2.2 t371 t372).bind fun t384 => (laws_FnExactPicMake.j0 k l0 t368 t374 bt377.1 (!t384) t371 t372 bt377.2.1 bt377.2.2)) else (laws_FnExactPicMake.j0 k l0 t368 t374 bt377.1 true t371 t372 bt377.2.1 bt377.2.2)))) = some r := H
    have A7 := Aside0.mk A70
    clear A70
    replace H := Option.bind_eq_some_iff.mp H
    obtain ⟨⟨t377, t380, t381⟩, A80, H⟩ := H
    replace H : ((laws_eqByteS.f k t377 t368).bind fun t383 => (if t383 = true then ((laws_eqPicFault.f t380 t381 t371 t372).bind fun t384 => (laws_FnExactPicMake.j0 k l0 t368 t374 t377 (!t384) t371 t372 t380 t381)) else (laws_FnExactPicMake.j0 k l0 t368 t374 t377 true t371 t372 t380 t381))) = some r := H
    have A8 := Aside0.mk A80
    clear A80
    have HC9 := Aside0.mk H
    clear H
    go_enter Try.func5, Try.ntmps5
    go_upto_region 8 with (first | ((with_reducible refine gate_callee (f := 6) rfl ?_); refine goesL_ (some 16) rfl rfl Try.func6 (by kernel_rfl) rfl #[.slice A0 l0.length c0, .int .i64 1048576] rfl (by (try simp only [List.map_toArray, List.map_cons, List.map_nil]); first | done | rfl | (simp only [List.length_drop, List.length_take]; rfl)) ?_; (with_reducible refine (laws_szInstS.calls k _ _ l0 1048576 t364 _ ?side1 ?side2 A2.out).mono ?_); (case side1 => repeat (first | exact HR0.out | (with_reducible refine Kd.C_alloc ?_ _) | (with_reducible refine Kd.C_drewN ?_ _) | (with_reducible refine Kd.C_drew ?_))); (case side2 => exact HC0.out); rintro e w10 ⟨rfl, hb⟩; refine ⟨_, rfl, ?_⟩; have n0_ := Aside0.mk (below_step (by repeat (first | (with_reducible first | exact HB.out | apply below_alloc | apply pw_below_drewN | apply below_drew1) | exact HB.out)) hb); clear HB; have HB := n0_; clear n0_; (try clear hb); (try clear hb2); (try clear hk); (try clear hi)) | ((with_reducible refine gate_callee (f := 8) rfl ?_); refine goesL_ (some 21) rfl rfl Try.func8 (by kernel_rfl) rfl #[.slice A0 l0.length c0] rfl (by (try simp only [List.map_toArray, List.map_cons, List.map_nil]); first | done | rfl | (simp only [List.length_drop, List.length_take]; rfl)) ?_; (with_reducible refine (laws_toInstS.calls k _ _ l0 t365 _ ?side1 ?side2 A5.out).mono ?_); (case side1 => repeat (first | exact (Kd.C_below HR0.out HB.out) | (with_reducible refine Kd.C_alloc ?_ _) | (with_reducible refine Kd.C_drewN ?_ _) | (with_reducible refine Kd.C_drew ?_))); (case side2 => exact HC0.out); rintro e w11 ⟨v366, rfl, ho0, hb⟩; refine ⟨_, rfl, ?_⟩; have n0_ := Aside0.mk (Kd.S_lower ho0 (below_size (by repeat (first | (with_reducible first | exact HB.out | apply below_alloc | apply pw_below_drewN | apply below_drew1) | exact HB.out)))); have n1_ := Aside0.mk (below_step (by repeat (first | (with_reducible first | exact HB.out | apply below_alloc | apply pw_below_drewN | apply below_drew1) | exact HB.out)) hb); clear HB; have HO367 := n0_; have HB := n1_; clear n0_ n1_; (try clear hb); (try clear hb2); (try clear hk); (try clear hi); (try clear ho0); obtain ⟨Ao12, co12, eo12⟩ := Kd.S_slice HO367.out; subst eo12) | ((with_reducible refine gate_callee (f := 17) rfl ?_); refine goesL_ (some 22) rfl rfl Try.func17 (by kernel_rfl) rfl #[.slice Ao12 t365.length co12] rfl (by (try simp only [List.map_toArray, List.map_cons, List.map_nil]); first | done | rfl | (simp only [List.length_drop, List.length_take]; rfl)) ?_; (with_reducible refine (spec_PicMake.callsC k _ _ t365 t368 t371 t372 _ ?side1 ?side2 A6.out).mono ?_); (case side1 => repeat (first | exact (Kd.S_reads' HO367.out).2.2 | (with_reducible refine Kd.C_alloc ?_ _) | (with_reducible refine Kd.C_drewN ?_ _) | (with_reducible refine Kd.C_drew ?_))); (case side2 => exact (Kd.S_reads' HO367.out).2.1); rintro e w13 ⟨v369, rfl, ho0, hb⟩; refine ⟨_, rfl, ?_⟩; have n0_ := Aside0.mk (Kd.S_below (by (with_reducible repeat (first | apply Kd.S_alloc | apply Kd.S_drewN | apply Kd.S_drew)); exact HO367.out) hb); have n1_ := Aside0.mk (Kd.Rc_lower ho0 (below_size (by repeat (first | (with_reducible first | exact HB.out | apply below_alloc | apply pw_below_drewN | apply below_drew1) | exact HB.out)))); have n2_ := Aside0.mk (below_step (by repeat (first | (with_reducible first | exact HB.out | apply below_alloc | apply pw_below_drewN | apply below_drew1) | exact HB.out)) hb); clear HO367; clear HB; have HO367 := n0_; have HO370 := n1_; have HB := n2_; clear n0_ n1_ n2_; (try clear hb); (try clear hb2); (try clear hk); (try clear hi); (try clear ho0)) | ((with_reducible refine gate_dst (N := 5) rfl ?_); refine box_event ?hg (N := 5) ?hd (cs := #[.int .i64 0, .int .i64 0]) (t := 36) ?hr ?_; (case hd => rfl); (case hg => rfl); (case hr => first | (go_simp; done) | (go_simp; rfl)); intro gb373 hg w14 hbox hb; have n0_ := Aside0.mk (Kd.S_below (by (with_reducible repeat (first | apply Kd.S_alloc | apply Kd.S_drewN | apply Kd.S_drew)); exact HO367.out) hb); have n1_ := Aside0.mk (Kd.Rc_below (by (with_reducible repeat (first | apply Kd.Rc_alloc | apply Kd.Rc_drewN | apply Kd.Rc_drew)); exact HO370.out) hb); have n2_ := Aside0.mk (below_step (by repeat (first | (with_reducible first | exact HB.out | apply below_alloc | apply pw_below_drewN | apply below_drew1) | exact HB.out)) hb); have n3_ := Aside0.mk (hbox); have n4_ := Aside0.mk ((by rw [hg]; exact (below_size (by repeat (first | (with_reducible first | exact HB.out | apply below_alloc | apply pw_below_drewN | apply below_drew1) | exact HB.out))) : w.heap.size ≤ gb373)); have n5_ := Aside0.mk ((by rw [hg]; exact (below_size (by repeat (first | (with_reducible first | exact HB.out | apply below_alloc | apply pw_below_drewN | apply below_drew1) | exact HB.out))) : w.heap.size ≤ gb373)); clear HO367; clear HO370; clear HB; have HO367 := n0_; have HO370 := n1_; have HB := n2_; have BK373 := n3_; have GW373 := n4_; have GE373 := n5_; clear n0_ n1_ n2_ n3_ n4_ n5_; clear hb hbox hg; have hcz15_0 : w14.cell? ⟨gb373, 0, none⟩ = some (.int .i64 0) := (blk_cell BK373.out 0).trans rfl; have hcz15_1 : w14.cell? ⟨gb373, 1, none⟩ = some (.int .i64 0) := (blk_cell BK373.out 1).trans rfl; have hfz15_0 := blk_frozen BK373.out 0; have hfz15_1 := blk_frozen BK373.out 1) | ((with_reducible refine gate_callee (f := 8) rfl ?_); refine goesL_ (some 26) rfl rfl Try.func8 (by kernel_rfl) rfl #[.slice A0 l0.length c0] rfl (by (try simp only [List.map_toArray, List.map_cons, List.map_nil]); first | done | rfl | (simp only [List.length_drop, List.length_take]; rfl)) ?_; (with_reducible refine (laws_toInstS.calls k _ _ l0 t374 _ ?side1 ?side2 A7.out).mono ?_); (case side1 => exact Kd.C_below HR0.out (by repeat (first | (with_reducible first | exact HB.out | apply below_alloc | apply pw_below_drewN | apply below_drew1 | refine below_set ?_ GE373.out) | exact HB.out))); (case side2 => exact HC0.out); rintro e w16 ⟨v375, rfl, ho0, hb⟩; refine ⟨_, rfl, ?_⟩; have n0_ := Aside0.mk (Kd.S_elder' (by (with_reducible repeat (first | apply Kd.S_alloc | apply Kd.S_drewN | apply Kd.S_drew)); exact (Kd.S_mono (Kd.S_far (p := ⟨gb373, 1, none⟩) (Kd.S_far (p := ⟨gb373, 0, none⟩) (Kd.S_types HO367.out BK373.out (by decide)) (fun _ hk => hk.2) (.int .i64 t371)) (fun _ hk => hk.2) (.int .i64 t372)) (fun _ h_ => h_.1))) (Kd.S_base ho0) hb); have n1_ := Aside0.mk (Kd.Rc_below (by (with_reducible repeat (first | apply Kd.Rc_alloc | apply Kd.Rc_drewN | apply Kd.Rc_drew)); exact (Kd.Rc_mono (Kd.Rc_far (p := ⟨gb373, 1, none⟩) (Kd.Rc_far (p := ⟨gb373, 0, none⟩) (Kd.Rc_types HO370.out BK373.out (by decide)) (fun _ hk => hk.2) (.int .i64 t371)) (fun _ hk => hk.2) (.int .i64 t372)) (fun _ h_ => h_.1))) hb); have n2_ := Aside0.mk (Kd.S_lower (Kd.S_new' ho0 (Kd.S_lt (by (with_reducible repeat (first | apply Kd.S_alloc | apply Kd.S_drewN | apply Kd.S_drew)); exact (Kd.S_mono (Kd.S_far (p := ⟨gb373, 1, none⟩) (Kd.S_far (p := ⟨gb373, 0, none⟩) (Kd.S_types HO367.out BK373.out (by decide)) (fun _ hk => hk.2) (.int .i64 t371)) (fun _ hk => hk.2) (.int .i64 t372)) (fun _ h_ => h_.1))))) (below_size (by repeat (first | (with_reducible first | exact HB.out | apply below_alloc | apply pw_below_drewN | apply below_drew1 | refine below_set ?_ GE373.out) | exact HB.out)))); have n3_ := Aside0.mk (blk_below (g := gb373) (o := .cells #[.int .i64 t371, .int .i64 t372] 36 (0, 0)) (by (with_reducible repeat (first | refine blk_drewN ?_ _ | refine blk_drew ?_ | refine blk_alloc ?_ _)); refine blk_put (cs := #[.int .i64 t371, .int .i64 0]) ?_ 1 _ rfl; (with_reducible repeat (first | refine blk_drewN ?_ _ | refine blk_drew ?_ | refine blk_alloc ?_ _)); refine blk_put (cs := #[.int .i64 0, .int .i64 0]) ?_ 0 _ rfl; (with_reducible repeat (first | refine blk_drewN ?_ _ | refine blk_drew ?_ | refine blk_alloc ?_ _)); exact BK373.out) hb); have n4_ := Aside0.mk (below_step (by repeat (first | (with_reducible first | exact HB.out | apply below_alloc | apply pw_below_drewN | apply below_drew1 | refine below_set ?_ GE373.out) | exact HB.out)) hb); clear HO367; clear HO370; clear BK373; clear HB; have HO367 := n0_; have HO370 := n1_; have HO376 := n2_; have BK373 := n3_; have HB := n4_; clear n0_ n1_ n2_ n3_ n4_; (try clear hb); (try clear hb2); (try clear hk); (try clear hi); (try clear ho0); obtain ⟨Ao17, co17, eo17⟩ := Kd.S_slice HO376.out; subst eo17) | ((with_reducible refine gate_callee (f := 18) rfl ?_); refine goesL_ (some 29) rfl rfl Try.func18 (by kernel_rfl) rfl #[.slice Ao17 t374.length co17] rfl (by (try simp only [List.map_toArray, List.map_cons, List.map_nil]); first | done | rfl | (simp only [List.length_drop, List.length_take]; rfl)) ?_; (with_reducible refine (impl_PicMake.calls k _ _ t374 t377 t380 t381 _ ?side1 ?side2 A8.out).mono ?_); (case side1 => repeat (first | exact (Kd.S_reads' HO376.out).2.2 | (with_reducible refine Kd.C_alloc ?_ _) | (with_reducible refine Kd.C_drewN ?_ _) | (with_reducible refine Kd.C_drew ?_))); (case side2 => exact (Kd.S_reads' HO376.out).2.1); rintro e w18 ⟨v378, rfl, ho0, hb⟩; refine ⟨_, rfl, ?_⟩; have n0_ := Aside0.mk (Kd.S_below (by (with_reducible repeat (first | apply Kd.S_alloc | apply Kd.S_drewN | apply Kd.S_drew)); exact HO367.out) hb); have n1_ := Aside0.mk (Kd.Rc_elder' (by (with_reducible repeat (first | apply Kd.Rc_alloc | apply Kd.Rc_drewN | apply Kd.Rc_drew)); exact HO370.out) (Kd.Rc_base ho0) hb); have n2_ := Aside0.mk (Kd.S_below (by (with_reducible repeat (first | apply Kd.S_alloc | apply Kd.S_drewN | apply Kd.S_drew)); exact HO376.out) hb); have n3_ := Aside0.mk (Kd.Rc_lower (Kd.Rc_new' ho0 (Kd.Rc_lt (by (with_reducible repeat (first | apply Kd.Rc_alloc | apply Kd.Rc_drewN | apply Kd.Rc_drew)); exact HO370.out))) (below_size (by repeat (first | (with_reducible first | exact HB.out | apply below_alloc | apply pw_below_drewN | apply below_drew1 | refine below_set ?_ GE373.out) | exact HB.out)))); have n4_ := Aside0.mk (blk_below (g := gb373) (o := .cells #[.int .i64 t371, .int .i64 t372] 36 (0, 0)) (by (with_reducible repeat (first | refine blk_drewN ?_ _ | refine blk_drew ?_ | refine blk_alloc ?_ _)); exact BK373.out) hb); have n5_ := Aside0.mk (below_step (by repeat (first | (with_reducible first | exact HB.out | apply below_alloc | apply pw_below_drewN | apply below_drew1 | refine below_set ?_ GE373.out) | exact HB.out)) hb); clear HO367; clear HO370; clear HO376; clear BK373; clear HB; have HO367 := n0_; have HO370 := n1_; have HO376 := n2_; have HO379 := n3_; have BK373 := n4_; have HB := n5_; clear n0_ n1_ n2_ n3_ n4_ n5_; (try clear hb); (try clear hb2); (try clear hk); (try clear hi); (try clear ho0)) | ((with_reducible refine gate_dst (N := 8) rfl ?_); refine box_event ?hg (N := 8) ?hd (cs := #[.int .i64 0, .int .i64 0]) (t := 36) ?hr ?_; (case hd => rfl); (case hg => rfl); (case hr => first | (go_simp; done) | (go_simp; rfl)); intro gb382 hg w19 hbox hb; have n0_ := Aside0.mk (Kd.S_below (by (with_reducible repeat (first | apply Kd.S_alloc | apply Kd.S_drewN | apply Kd.S_drew)); exact HO367.out) hb); have n1_ := Aside0.mk (Kd.Rc_below (by (with_reducible repeat (first | apply Kd.Rc_alloc | apply Kd.Rc_drewN | apply Kd.Rc_drew)); exact HO370.out) hb); have n2_ := Aside0.mk (Kd.S_below (by (with_reducible repeat (first | apply Kd.S_alloc | apply Kd.S_drewN | apply Kd.S_drew)); exact HO376.out) hb); have n3_ := Aside0.mk (Kd.Rc_below (by (with_reducible repeat (first | apply Kd.Rc_alloc | apply Kd.Rc_drewN | apply Kd.Rc_drew)); exact HO379.out) hb); have n4_ := Aside0.mk (blk_below (g := gb373) (o := .cells #[.int .i64 t371, .int .i64 t372] 36 (0, 0)) (by (with_reducible repeat (first | refine blk_drewN ?_ _ | refine blk_drew ?_ | refine blk_alloc ?_ _)); exact BK373.out) hb); have n5_ := Aside0.mk (below_step (by repeat (first | (with_reducible first | exact HB.out | apply below_alloc | apply pw_below_drewN | apply below_drew1 | refine below_set ?_ GE373.out) | exact HB.out)) hb); have n6_ := Aside0.mk (hbox); have n7_ := Aside0.mk ((by rw [hg]; exact (below_size (by repeat (first | (with_reducible first | exact HB.out | apply below_alloc | apply pw_below_drewN | apply below_drew1 | refine below_set ?_ GE373.out) | exact HB.out))) : w.heap.size ≤ gb382)); have n8_ := Aside0.mk ((by rw [hg]; exact (below_size (by repeat (first | (with_reducible first | exact HB.out | apply below_alloc | apply pw_below_drewN | apply below_drew1 | refine below_set ?_ GE373.out) | exact HB.out))) : w.heap.size ≤ gb382)); have n9_ := Aside0.mk ((by rw [hg]; exact Nat.ne_of_lt (blk_lt (g := gb373) (o := .cells #[.int .i64 t371, .int .i64 t372] 36 (0, 0)) (by (with_reducible repeat (first | refine blk_drewN ?_ _ | refine blk_drew ?_ | refine blk_alloc ?_ _)); exact BK373.out)) : gb373 ≠ gb382)); have n10_ := Aside0.mk ((by rw [hg]; exact Nat.ne_of_gt (blk_lt (g := gb373) (o := .cells #[.int .i64 t371, .int .i64 t372] 36 (0, 0)) (by (with_reducible repeat (first | refine blk_drewN ?_ _ | refine blk_drew ?_ | refine blk_alloc ?_ _)); exact BK373.out)) : gb382 ≠ gb373)); clear HO367; clear HO370; clear HO376; clear HO379; clear BK373; clear HB; have HO367 := n0_; have HO370 := n1_; have HO376 := n2_; have HO379 := n3_; have BK373 := n4_; have HB := n5_; have BK382 := n6_; have GW382 := n7_; have GE382 := n8_; have NB373_382 := n9_; have NB382_373 := n10_; clear n0_ n1_ n2_ n3_ n4_ n5_ n6_ n7_ n8_ n9_ n10_; clear hb hbox hg; have hnb20 := NB382_373.out; have hnc20 := NB373_382.out; have hcz21_0 : w19.cell? ⟨gb382, 0, none⟩ = some (.int .i64 0) := (blk_cell BK382.out 0).trans rfl; have hcz21_1 : w19.cell? ⟨gb382, 1, none⟩ = some (.int .i64 0) := (blk_cell BK382.out 1).trans rfl; have hfz21_0 := blk_frozen BK382.out 0; have hfz21_1 := blk_frozen BK382.out 1))
    (try simp only [Act.put, List.setIfInBounds_toArray, List.set_cons_zero, List.set_cons_succ])
    go_cut [41] (fun v41 wc => ∃ (kq : Nat) (x41_8 : Bool), v41 = .bool x41_8 ∧ Aside0 (laws_FnExactPicMake.j0 kq l0 t368 t374 t377 x41_8 t371 t372 t380 t381 = some r) ∧ Aside0 (kq ≤ k) ∧ Aside0 (Kd.Rc (Kd.int .u8) 5 wc w.heap.size (fun k_ => some k_ ≠ (v378 : Value).ownBlock) v369 t368) ∧ Aside0 (Kd.S k52 52 wc w.heap.size (fun _ => True) (.slice Ao17 t374.length co17) t374) ∧ Aside0 (Kd.Rc (Kd.int .u8) 5 wc w.heap.size (fun k_ => some k_ ≠ (v369 : Value).ownBlock) v378 t377) ∧ Aside0 (wc.heap[gb373]? = some (.cells #[.int .i64 t371, .int .i64 t372] 36 (0, 0))) ∧ Aside0 (wc.heap[gb382]? = some (.cells #[.int .i64 t380, .int .i64 t381] 36 (0, 0))) ∧ Aside0 (Below w.heap.size w wc))
    case first =>
      have H := HC9.out
      clear HC9
      replace H := Option.bind_eq_some_iff.mp H
      obtain ⟨t383, A220, H⟩ := H
      replace H : (if t383 = true then ((laws_eqPicFault.f t380 t381 t371 t372).bind fun t384 => (laws_FnExactPicMake.j0 k l0 t368 t374 t377 (!t384) t371 t372 t380 t381)) else (laws_FnExactPicMake.j0 k l0 t368 t374 t377 true t371 t372 t380 t381)) = some r := H
      have A22 := Aside0.mk A220
      clear A220
      by_cases c23 : t383 = true
      · subst c23
        have H1 : ((laws_eqPicFault.f t380 t381 t371 t372).bind fun t384 => (laws_FnExactPicMake.j0 k l0 t368 t374 t377 (!t384) t371 t372 t380 t381)) = some r := by rw [if_pos rfl] at H; exact H
        clear H
        have H := H1
        clear H1
        replace H := Option.bind_eq_some_iff.mp H
        obtain ⟨t384, A240, H⟩ := H
        replace H : (laws_FnExactPicMake.j0 k l0 t368 t374 t377 (!t384) t371 t372 t380 t381) = some r := H
        have A24 := Aside0.mk A240
        clear A240
        have H' := Aside0.mk H
        clear H
        obtain ⟨Ao25, co25, eo25⟩ := Kd.Rc_slice HO379.out
        subst eo25
        obtain ⟨Ao26, co26, eo26⟩ := Kd.Rc_slice HO370.out
        subst eo26
        go_wp2_with (first | ((with_reducible refine gate_callee (f := 19) rfl ?_); refine goesL_ (some 34) rfl rfl Try.func19 (by kernel_rfl) rfl #[.slice Ao25 t377.length co25, .slice Ao26 t368.length co26] rfl (by (try simp only [List.map_toArray, List.map_cons, List.map_nil]); first | done | rfl | (simp only [List.length_drop, List.length_take]; rfl)) ?_; (with_reducible refine (laws_eqByteS.calls k _ _ t377 _ _ t368 true _ ?side1 ?side2 ?side3 ?side4 A22.out).mono ?_); (case side1 => refine (Kd.Rc_reads' (e := 5) (base := w.heap.size) (ok := fun k_ => (True ∧ some k_ ≠ (.slice Ao26 t368.length co26 : Value).ownBlock)) (n := t377.length) (c := co25) ?_).2.2; exact (by (with_reducible repeat (first | apply Kd.Rc_alloc | apply Kd.Rc_drewN | apply Kd.Rc_drew)); exact (Kd.Rc_mono (Kd.Rc_far (p := ⟨gb382, 1, none⟩) (Kd.Rc_far (p := ⟨gb382, 0, none⟩) (Kd.Rc_types HO379.out BK382.out (by decide)) (fun _ hk => hk.2) (.int .i64 t380)) (fun _ hk => hk.2) (.int .i64 t381)) (fun _ h_ => h_.1)))); (case side2 => exact (Kd.Rc_reads' HO379.out).2.1); (case side3 => refine (Kd.Rc_reads' (e := 5) (base := w.heap.size) (ok := fun k_ => (True ∧ some k_ ≠ (.slice Ao25 t377.length co25 : Value).ownBlock)) (n := t368.length) (c := co26) ?_).2.2; exact (by (with_reducible repeat (first | apply Kd.Rc_alloc | apply Kd.Rc_drewN | apply Kd.Rc_drew)); exact (Kd.Rc_mono (Kd.Rc_far (p := ⟨gb382, 1, none⟩) (Kd.Rc_far (p := ⟨gb382, 0, none⟩) (Kd.Rc_types HO370.out BK382.out (by decide)) (fun _ hk => hk.2) (.int .i64 t380)) (fun _ hk => hk.2) (.int .i64 t381)) (fun _ h_ => h_.1)))); (case side4 => exact (Kd.Rc_reads' HO370.out).2.1); rintro e w' ⟨rfl, ⟨nd, rfl⟩⟩; refine ⟨_, rfl, ?_⟩; have hnb27 := NB382_373.out; have hnc27 := NB373_382.out; have hcz28_0 : w19.cell? ⟨gb382, 0, none⟩ = some (.int .i64 0) := (blk_cell BK382.out 0).trans rfl; have hcz28_1 : w19.cell? ⟨gb382, 1, none⟩ = some (.int .i64 0) := (blk_cell BK382.out 1).trans rfl; have hfz28_0 := blk_frozen BK382.out 0; have hfz28_1 := blk_frozen BK382.out 1; have hcz29_0 : w19.cell? ⟨gb373, 0, none⟩ = some (.int .i64 t371) := (blk_cell BK373.out 0).trans rfl; have hcz29_1 : w19.cell? ⟨gb373, 1, none⟩ = some (.int .i64 t372) := (blk_cell BK373.out 1).trans rfl; have hfz29_0 := blk_frozen BK373.out 0; have hfz29_1 := blk_frozen BK373.out 1) | (go_at_call 20; (with_reducible refine (laws_eqPicFault.calls t380 t381 t371 t372 t384 _ A24.out).mono ?_); rintro e w30 ⟨rfl, hb⟩; have n0_ := Aside0.mk (Kd.S_below (by (with_reducible repeat (first | apply Kd.S_alloc | apply Kd.S_drewN | apply Kd.S_drew)); exact (Kd.S_mono (Kd.S_far (p := ⟨gb382, 1, none⟩) (Kd.S_far (p := ⟨gb382, 0, none⟩) (Kd.S_types HO367.out BK382.out (by decide)) (fun _ hk => hk.2) (.int .i64 t380)) (fun _ hk => hk.2) (.int .i64 t381)) (fun _ h_ => h_.1))) hb); have n1_ := Aside0.mk (Kd.Rc_below (by (with_reducible repeat (first | apply Kd.Rc_alloc | apply Kd.Rc_drewN | apply Kd.Rc_drew)); exact (Kd.Rc_mono (Kd.Rc_far (p := ⟨gb382, 1, none⟩) (Kd.Rc_far (p := ⟨gb382, 0, none⟩) (Kd.Rc_types HO370.out BK382.out (by decide)) (fun _ hk => hk.2) (.int .i64 t380)) (fun _ hk => hk.2) (.int .i64 t381)) (fun _ h_ => h_.1))) hb); have n2_ := Aside0.mk (Kd.S_below (by (with_reducible repeat (first | apply Kd.S_alloc | apply Kd.S_drewN | apply Kd.S_drew)); exact (Kd.S_mono (Kd.S_far (p := ⟨gb382, 1, none⟩) (Kd.S_far (p := ⟨gb382, 0, none⟩) (Kd.S_types HO376.out BK382.out (by decide)) (fun _ hk => hk.2) (.int .i64 t380)) (fun _ hk => hk.2) (.int .i64 t381)) (fun _ h_ => h_.1))) hb); have n3_ := Aside0.mk (Kd.Rc_below (by (with_reducible repeat (first | apply Kd.Rc_alloc | apply Kd.Rc_drewN | apply Kd.Rc_drew)); exact (Kd.Rc_mono (Kd.Rc_far (p := ⟨gb382, 1, none⟩) (Kd.Rc_far (p := ⟨gb382, 0, none⟩) (Kd.Rc_types HO379.out BK382.out (by decide)) (fun _ hk => hk.2) (.int .i64 t380)) (fun _ hk => hk.2) (.int .i64 t381)) (fun _ h_ => h_.1))) hb); have n4_ := Aside0.mk (blk_below (g := gb373) (o := .cells #[.int .i64 t371, .int .i64 t372] 36 (0, 0)) (by (with_reducible repeat (first | refine blk_drewN ?_ _ | refine blk_drew ?_ | refine blk_alloc ?_ _)); refine blk_far ?_ NB373_382.out _; (with_reducible repeat (first | refine blk_drewN ?_ _ | refine blk_drew ?_ | refine blk_alloc ?_ _)); refine blk_far ?_ NB373_382.out _; (with_reducible repeat (first | refine blk_drewN ?_ _ | refine blk_drew ?_ | refine blk_alloc ?_ _)); exact BK373.out) hb); have n5_ := Aside0.mk (blk_below (g := gb382) (o := .cells #[.int .i64 t380, .int .i64 t381] 36 (0, 0)) (by (with_reducible repeat (first | refine blk_drewN ?_ _ | refine blk_drew ?_ | refine blk_alloc ?_ _)); refine blk_put (cs := #[.int .i64 t380, .int .i64 0]) ?_ 1 _ rfl; (with_reducible repeat (first | refine blk_drewN ?_ _ | refine blk_drew ?_ | refine blk_alloc ?_ _)); refine blk_put (cs := #[.int .i64 0, .int .i64 0]) ?_ 0 _ rfl; (with_reducible repeat (first | refine blk_drewN ?_ _ | refine blk_drew ?_ | refine blk_alloc ?_ _)); exact BK382.out) hb); have n6_ := Aside0.mk (below_step (by repeat (first | (with_reducible first | exact HB.out | apply below_alloc | apply pw_below_drewN | apply below_drew1 | refine below_set ?_ GE373.out | refine below_set ?_ GE382.out) | exact HB.out)) hb); clear HO367; clear HO370; clear HO376; clear HO379; clear BK373; clear BK382; clear HB; have HO367 := n0_; have HO370 := n1_; have HO376 := n2_; have HO379 := n3_; have BK373 := n4_; have BK382 := n5_; have HB := n6_; clear n0_ n1_ n2_ n3_ n4_ n5_ n6_; (try clear hb); (try clear hb2); (try clear hk); (try clear hi)))
        go_meet
        case rel => exact ⟨_, (!t384), (by first | rfl | (simp; done) | (simp [*]; done)), H', ⟨by first | omega | exact Nat.le_refl _⟩, ⟨by (with_reducible repeat (first | apply Kd.Rc_alloc | apply Kd.Rc_drewN | apply Kd.Rc_drew)); exact Kd.Rc_mono HO370.out (fun _ hk => hk.2)⟩, ⟨by (with_reducible repeat (first | apply Kd.S_alloc | apply Kd.S_drewN | apply Kd.S_drew)); exact Kd.S_mono HO376.out (fun _ hk => trivial)⟩, ⟨by (with_reducible repeat (first | apply Kd.Rc_alloc | apply Kd.Rc_drewN | apply Kd.Rc_drew)); exact Kd.Rc_mono HO379.out (fun _ hk => hk.2)⟩, ⟨by (with_reducible repeat (first | refine blk_drewN ?_ _ | refine blk_drew ?_ | refine blk_alloc ?_ _)); exact BK373.out⟩, ⟨by (with_reducible repeat (first | refine blk_drewN ?_ _ | refine blk_drew ?_ | refine blk_alloc ?_ _)); exact BK382.out⟩, ⟨by repeat (first | (with_reducible first | exact HB.out | apply below_alloc | apply pw_below_drewN | apply below_drew1 | refine below_set ?_ GE373.out | refine below_set ?_ GE382.out) | exact HB.out)⟩⟩
      · replace c23 := Bool.eq_false_iff.mpr c23
        subst c23
        have H1 : (laws_FnExactPicMake.j0 k l0 t368 t374 t377 true t371 t372 t380 t381) = some r := by rw [if_neg (show ¬ (false = true) by decide)] at H; exact H
        clear H
        have H := H1
        clear H1
        have H' := Aside0.mk H
        clear H
        obtain ⟨Ao31, co31, eo31⟩ := Kd.Rc_slice HO379.out
        subst eo31
        obtain ⟨Ao32, co32, eo32⟩ := Kd.Rc_slice HO370.out
        subst eo32
        go_wp2_with (first | ((with_reducible refine gate_callee (f := 19) rfl ?_); refine goesL_ (some 34) rfl rfl Try.func19 (by kernel_rfl) rfl #[.slice Ao31 t377.length co31, .slice Ao32 t368.length co32] rfl (by (try simp only [List.map_toArray, List.map_cons, List.map_nil]); first | done | rfl | (simp only [List.length_drop, List.length_take]; rfl)) ?_; (with_reducible refine (laws_eqByteS.calls k _ _ t377 _ _ t368 false _ ?side1 ?side2 ?side3 ?side4 A22.out).mono ?_); (case side1 => refine (Kd.Rc_reads' (e := 5) (base := w.heap.size) (ok := fun k_ => (True ∧ some k_ ≠ (.slice Ao32 t368.length co32 : Value).ownBlock)) (n := t377.length) (c := co31) ?_).2.2; exact (by (with_reducible repeat (first | apply Kd.Rc_alloc | apply Kd.Rc_drewN | apply Kd.Rc_drew)); exact (Kd.Rc_mono (Kd.Rc_far (p := ⟨gb382, 1, none⟩) (Kd.Rc_far (p := ⟨gb382, 0, none⟩) (Kd.Rc_types HO379.out BK382.out (by decide)) (fun _ hk => hk.2) (.int .i64 t380)) (fun _ hk => hk.2) (.int .i64 t381)) (fun _ h_ => h_.1)))); (case side2 => exact (Kd.Rc_reads' HO379.out).2.1); (case side3 => refine (Kd.Rc_reads' (e := 5) (base := w.heap.size) (ok := fun k_ => (True ∧ some k_ ≠ (.slice Ao31 t377.length co31 : Value).ownBlock)) (n := t368.length) (c := co32) ?_).2.2; exact (by (with_reducible repeat (first | apply Kd.Rc_alloc | apply Kd.Rc_drewN | apply Kd.Rc_drew)); exact (Kd.Rc_mono (Kd.Rc_far (p := ⟨gb382, 1, none⟩) (Kd.Rc_far (p := ⟨gb382, 0, none⟩) (Kd.Rc_types HO370.out BK382.out (by decide)) (fun _ hk => hk.2) (.int .i64 t380)) (fun _ hk => hk.2) (.int .i64 t381)) (fun _ h_ => h_.1)))); (case side4 => exact (Kd.Rc_reads' HO370.out).2.1); rintro e w' ⟨rfl, ⟨nd, rfl⟩⟩; refine ⟨_, rfl, ?_⟩))
        go_meet
        case rel => exact ⟨_, (true), (by first | rfl | (simp; done) | (simp [*]; done)), H', ⟨by first | omega | exact Nat.le_refl _⟩, ⟨by (with_reducible repeat (first | apply Kd.Rc_alloc | apply Kd.Rc_drewN | apply Kd.Rc_drew)); exact Kd.Rc_mono (Kd.Rc_far (p := ⟨gb382, 1, none⟩) (Kd.Rc_far (p := ⟨gb382, 0, none⟩) (Kd.Rc_types HO370.out BK382.out (by decide)) (fun _ hk => hk.2) (.int .i64 t380)) (fun _ hk => hk.2) (.int .i64 t381)) (fun _ hk => hk.1.2)⟩, ⟨by (with_reducible repeat (first | apply Kd.S_alloc | apply Kd.S_drewN | apply Kd.S_drew)); exact Kd.S_mono (Kd.S_far (p := ⟨gb382, 1, none⟩) (Kd.S_far (p := ⟨gb382, 0, none⟩) (Kd.S_types HO376.out BK382.out (by decide)) (fun _ hk => hk.2) (.int .i64 t380)) (fun _ hk => hk.2) (.int .i64 t381)) (fun _ hk => trivial)⟩, ⟨by (with_reducible repeat (first | apply Kd.Rc_alloc | apply Kd.Rc_drewN | apply Kd.Rc_drew)); exact Kd.Rc_mono (Kd.Rc_far (p := ⟨gb382, 1, none⟩) (Kd.Rc_far (p := ⟨gb382, 0, none⟩) (Kd.Rc_types HO379.out BK382.out (by decide)) (fun _ hk => hk.2) (.int .i64 t380)) (fun _ hk => hk.2) (.int .i64 t381)) (fun _ hk => hk.1.2)⟩, ⟨by (with_reducible repeat (first | refine blk_drewN ?_ _ | refine blk_drew ?_ | refine blk_alloc ?_ _)); refine blk_far ?_ NB373_382.out _; (with_reducible repeat (first | refine blk_drewN ?_ _ | refine blk_drew ?_ | refine blk_alloc ?_ _)); refine blk_far ?_ NB373_382.out _; (with_reducible repeat (first | refine blk_drewN ?_ _ | refine blk_drew ?_ | refine blk_alloc ?_ _)); exact BK373.out⟩, ⟨by (with_reducible repeat (first | refine blk_drewN ?_ _ | refine blk_drew ?_ | refine blk_alloc ?_ _)); refine blk_put (cs := #[.int .i64 t380, .int .i64 0]) ?_ 1 _ rfl; (with_reducible repeat (first | refine blk_drewN ?_ _ | refine blk_drew ?_ | refine blk_alloc ?_ _)); refine blk_put (cs := #[.int .i64 0, .int .i64 0]) ?_ 0 _ rfl; (with_reducible repeat (first | refine blk_drewN ?_ _ | refine blk_drew ?_ | refine blk_alloc ?_ _)); exact BK382.out⟩, ⟨by repeat (first | (with_reducible first | exact HB.out | apply below_alloc | apply pw_below_drewN | apply below_drew1 | refine below_set ?_ GE373.out | refine below_set ?_ GE382.out) | exact HB.out)⟩⟩
    case rest =>
      clear HC9
      try clear c1
      try clear c2
      try clear p2
      try clear c3
      try clear c3b0
      try clear c5
      try clear c6
      try clear c8
      try clear c17
      try clear c18
      try clear c19
      try clear c20
      try clear c23
      try clear c27
      try clear hcz15_0
      try clear hcz15_1
      try clear hcz21_0
      try clear hcz21_1
      try clear hcz28_0
      try clear hcz28_1
      try clear hcz29_0
      try clear hcz29_1
      try clear hfz15_0
      try clear hfz15_1
      try clear hfz21_0
      try clear hfz21_1
      try clear hfz28_0
      try clear hfz28_1
      try clear hfz29_0
      try clear hfz29_1
      obtain ⟨kq, x41_8, rfl, HA, HJ8, HO_4, HO_6, HO_7, BK373, BK382, HB⟩ := hcut
      cases kq with
      | zero => exact absurd HA.out (by simp [laws_FnExactPicMake.j0])
      | succ kj8 =>
        have H := HA.out
        clear HA
        simp only [laws_FnExactPicMake.j0] at H
        by_cases c33 : x41_8 = true
        · subst c33
          have H1 : (some false) = some r := by rw [if_pos rfl] at H; exact H
          clear H
          have H := H1
          clear H1
          obtain rfl := Option.some.inj H
          go_wp2
          go_ret
          exact ⟨by first | rfl | (simp [errW_none, errW_some] <;> rfl) | (simp [*, errW_none, errW_some] <;> rfl), by repeat (first | (with_reducible first | exact HB.out | apply below_alloc | apply pw_below_drewN | apply below_drew1 | refine below_set ?_ GE373.out | refine below_set ?_ GE382.out) | exact HB.out)⟩
        · replace c33 := Bool.eq_false_iff.mpr c33
          subst c33
          have H1 : ((laws_toInstS.f kj8 l0).bind fun t385 => ((laws_eqInstS.f kj8 t374 t385).bind fun t388 => (if t388 = true then ((laws_markInstS.f kj8 t374 1).bind fun t389 => (if t389 < 0 then (laws_FnExactPicMake.j1 kj8 l0 t368 t377 true t371 t372) else ((laws_eqByteS.f kj8 t377 t368).bind fun t390 => (if t390 = true then ((laws_eqPicFault.f t380 t381 t371 t372).bind fun t391 => (laws_FnExactPicMake.j1 kj8 l0 t368 t377 (!t391) t371 t372)) else (laws_FnExactPicMake.j1 kj8 l0 t368 t377 true t371 t372))))) else (some false)))) = some r := by rw [if_neg (show ¬ (false = true) by decide)] at H; exact H
          clear H
          have H := H1
          clear H1
          replace H := Option.bind_eq_some_iff.mp H
          obtain ⟨t385, A340, H⟩ := H
          replace H : ((laws_eqInstS.f kj8 t374 t385).bind fun t388 => (if t388 = true then ((laws_markInstS.f kj8 t374 1).bind fun t389 => (if t389 < 0 then (laws_FnExactPicMake.j1 kj8 l0 t368 t377 true t371 t372) else ((laws_eqByteS.f kj8 t377 t368).bind fun t390 => (if t390 = true then ((laws_eqPicFault.f t380 t381 t371 t372).bind fun t391 => (laws_FnExactPicMake.j1 kj8 l0 t368 t377 (!t391) t371 t372)) else (laws_FnExactPicMake.j1 kj8 l0 t368 t377 true t371 t372))))) else (some false))) = some r := H
          have A34 := Aside0.mk A340
          clear A340
          replace H := Option.bind_eq_some_iff.mp H
          obtain ⟨t388, A350, H⟩ := H
          replace H : (if t388 = true then ((laws_markInstS.f kj8 t374 1).bind fun t389 => (if t389 < 0 then (laws_FnExactPicMake.j1 kj8 l0 t368 t377 true t371 t372) else ((laws_eqByteS.f kj8 t377 t368).bind fun t390 => (if t390 = true then ((laws_eqPicFault.f t380 t381 t371 t372).bind fun t391 => (laws_FnExactPicMake.j1 kj8 l0 t368 t377 (!t391) t371 t372)) else (laws_FnExactPicMake.j1 kj8 l0 t368 t377 true t371 t372))))) else (some false)) = some r := H
          have A35 := Aside0.mk A350
          clear A350
          by_cases c36 : t388 = true
          · subst c36
            have H1 : ((laws_markInstS.f kj8 t374 1).bind fun t389 => (if t389 < 0 then (laws_FnExactPicMake.j1 kj8 l0 t368 t377 true t371 t372) else ((laws_eqByteS.f kj8 t377 t368).bind fun t390 => (if t390 = true then ((laws_eqPicFault.f t380 t381 t371 t372).bind fun t391 => (laws_FnExactPicMake.j1 kj8 l0 t368 t377 (!t391) t371 t372)) else (laws_FnExactPicMake.j1 kj8 l0 t368 t377 true t371 t372))))) = some r := by rw [if_pos rfl] at H; exact H
            clear H
            have H := H1
            clear H1
            replace H := Option.bind_eq_some_iff.mp H
            obtain ⟨t389, A370, H⟩ := H
            replace H : (if t389 < 0 then (laws_FnExactPicMake.j1 kj8 l0 t368 t377 true t371 t372) else ((laws_eqByteS.f kj8 t377 t368).bind fun t390 => (if t390 = true then ((laws_eqPicFault.f t380 t381 t371 t372).bind fun t391 => (laws_FnExactPicMake.j1 kj8 l0 t368 t377 (!t391) t371 t372)) else (laws_FnExactPicMake.j1 kj8 l0 t368 t377 true t371 t372)))) = some r := H
            have A37 := Aside0.mk A370
            clear A370
            have HC38 := Aside0.mk H
            clear H
            go_upto_region 14 with (first | ((with_reducible refine gate_callee (f := 8) rfl ?_); refine goesL_ (some 44) rfl rfl Try.func8 (by kernel_rfl) rfl #[.slice A0 l0.length c0] rfl (by (try simp only [List.map_toArray, List.map_cons, List.map_nil]); first | done | rfl | (simp only [List.length_drop, List.length_take]; rfl)) ?_; (with_reducible refine (laws_toInstS.calls kj8 _ _ l0 t385 _ ?side1 ?side2 A34.out).mono ?_); (case side1 => repeat (first | exact (Kd.C_below HR0.out HB.out) | (with_reducible refine Kd.C_alloc ?_ _) | (with_reducible refine Kd.C_drewN ?_ _) | (with_reducible refine Kd.C_drew ?_))); (case side2 => exact HC0.out); rintro e w39 ⟨v386, rfl, ho0, hb⟩; refine ⟨_, rfl, ?_⟩; have n0_ := Aside0.mk (Kd.Rc_below (by (with_reducible repeat (first | apply Kd.Rc_alloc | apply Kd.Rc_drewN | apply Kd.Rc_drew)); exact HO_4.out) hb); have n1_ := Aside0.mk (Kd.S_elder' (by (with_reducible repeat (first | apply Kd.S_alloc | apply Kd.S_drewN | apply Kd.S_drew)); exact HO_6.out) (Kd.S_base ho0) hb); have n2_ := Aside0.mk (Kd.Rc_below (by (with_reducible repeat (first | apply Kd.Rc_alloc | apply Kd.Rc_drewN | apply Kd.Rc_drew)); exact HO_7.out) hb); have n3_ := Aside0.mk (Kd.S_lower (Kd.S_new' ho0 (Kd.S_lt (by (with_reducible repeat (first | apply Kd.S_alloc | apply Kd.S_drewN | apply Kd.S_drew)); exact HO_6.out))) (below_size (by repeat (first | (with_reducible first | exact HB.out | apply below_alloc | apply pw_below_drewN | apply below_drew1 | refine below_set ?_ GE373.out | refine below_set ?_ GE382.out) | exact HB.out)))); have n4_ := Aside0.mk (blk_below (g := gb373) (o := .cells #[.int .i64 t371, .int .i64 t372] 36 (0, 0)) (by (with_reducible repeat (first | refine blk_drewN ?_ _ | refine blk_drew ?_ | refine blk_alloc ?_ _)); exact BK373.out) hb); have n5_ := Aside0.mk (blk_below (g := gb382) (o := .cells #[.int .i64 t380, .int .i64 t381] 36 (0, 0)) (by (with_reducible repeat (first | refine blk_drewN ?_ _ | refine blk_drew ?_ | refine blk_alloc ?_ _)); exact BK382.out) hb); have n6_ := Aside0.mk (below_step (by repeat (first | (with_reducible first | exact HB.out | apply below_alloc | apply pw_below_drewN | apply below_drew1 | refine below_set ?_ GE373.out | refine below_set ?_ GE382.out) | exact HB.out)) hb); clear HO_4; clear HO_6; clear HO_7; clear BK373; clear BK382; clear HB; have HO_4 := n0_; have HO_6 := n1_; have HO_7 := n2_; have HO387 := n3_; have BK373 := n4_; have BK382 := n5_; have HB := n6_; clear n0_ n1_ n2_ n3_ n4_ n5_ n6_; (try clear hb); (try clear hb2); (try clear hk); (try clear hi); (try clear ho0); obtain ⟨Ao40, co40, eo40⟩ := Kd.S_slice HO387.out; subst eo40) | ((with_reducible refine gate_callee (f := 10) rfl ?_); refine goesL_ (some 45) rfl rfl Try.func10 (by kernel_rfl) rfl #[.slice Ao17 t374.length co17, .slice Ao40 t385.length co40] rfl (by (try simp only [List.map_toArray, List.map_cons, List.map_nil]); first | done | rfl | (simp only [List.length_drop, List.length_take]; rfl)) ?_; (with_reducible refine (laws_eqInstS.calls kj8 _ _ t374 _ _ t385 true _ ?side1 ?side2 ?side3 ?side4 A35.out).mono ?_); (case side1 => repeat (first | exact (Kd.S_reads' HO_6.out).2.2 | (with_reducible refine Kd.C_alloc ?_ _) | (with_reducible refine Kd.C_drewN ?_ _) | (with_reducible refine Kd.C_drew ?_))); (case side2 => exact (Kd.S_reads' HO_6.out).2.1); (case side3 => repeat (first | exact (Kd.S_reads' HO387.out).2.2 | (with_reducible refine Kd.C_alloc ?_ _) | (with_reducible refine Kd.C_drewN ?_ _) | (with_reducible refine Kd.C_drew ?_))); (case side4 => exact (Kd.S_reads' HO387.out).2.1); rintro e w41 ⟨rfl, hb⟩; refine ⟨_, rfl, ?_⟩; have n0_ := Aside0.mk (Kd.Rc_below (by (with_reducible repeat (first | apply Kd.Rc_alloc | apply Kd.Rc_drewN | apply Kd.Rc_drew)); exact HO_4.out) hb); have n1_ := Aside0.mk (Kd.S_below (by (with_reducible repeat (first | apply Kd.S_alloc | apply Kd.S_drewN | apply Kd.S_drew)); exact HO_6.out) hb); have n2_ := Aside0.mk (Kd.Rc_below (by (with_reducible repeat (first | apply Kd.Rc_alloc | apply Kd.Rc_drewN | apply Kd.Rc_drew)); exact HO_7.out) hb); have n3_ := Aside0.mk (Kd.S_below (by (with_reducible repeat (first | apply Kd.S_alloc | apply Kd.S_drewN | apply Kd.S_drew)); exact HO387.out) hb); have n4_ := Aside0.mk (blk_below (g := gb373) (o := .cells #[.int .i64 t371, .int .i64 t372] 36 (0, 0)) (by (with_reducible repeat (first | refine blk_drewN ?_ _ | refine blk_drew ?_ | refine blk_alloc ?_ _)); exact BK373.out) hb); have n5_ := Aside0.mk (blk_below (g := gb382) (o := .cells #[.int .i64 t380, .int .i64 t381] 36 (0, 0)) (by (with_reducible repeat (first | refine blk_drewN ?_ _ | refine blk_drew ?_ | refine blk_alloc ?_ _)); exact BK382.out) hb); have n6_ := Aside0.mk (below_step (by repeat (first | (with_reducible first | exact HB.out | apply below_alloc | apply pw_below_drewN | apply below_drew1 | refine below_set ?_ GE373.out | refine below_set ?_ GE382.out) | exact HB.out)) hb); clear HO_4; clear HO_6; clear HO_7; clear HO387; clear BK373; clear BK382; clear HB; have HO_4 := n0_; have HO_6 := n1_; have HO_7 := n2_; have HO387 := n3_; have BK373 := n4_; have BK382 := n5_; have HB := n6_; clear n0_ n1_ n2_ n3_ n4_ n5_ n6_; (try clear hb); (try clear hb2); (try clear hk); (try clear hi)) | ((with_reducible refine gate_callee (f := 14) rfl ?_); refine goesL_ (some 49) rfl rfl Try.func14 (by kernel_rfl) rfl #[.slice Ao17 t374.length co17, .int .i64 1] rfl (by (try simp only [List.map_toArray, List.map_cons, List.map_nil]); first | done | rfl | (simp only [List.length_drop, List.length_take]; rfl)) ?_; have u0_ := HO_4; have u1_ := HO_7; have us_ := Aside0.mk (Kd.S_types (Kd.S_types (Kd.S_apart' (Kd.S_apart' HO_6.out (Kd.Rc_typed u0_.out) (by decide)) (Kd.Rc_typed u1_.out) (by decide)) BK373.out (by decide)) BK382.out (by decide)); (with_reducible refine (laws_markInstS.calls kj8 _ (.slice Ao17 t374.length co17) t374 1 t389 w _ ?side1 us_.out (by unfold wrap64; omega) A37.out).mono ?_); (case side1 => repeat (first | (with_reducible first | exact HB.out | apply below_alloc | apply pw_below_drewN | apply below_drew1) | exact HB.out)); rintro e w41 ⟨rfl, hb, hkp⟩; refine ⟨_, rfl, ?_⟩; have n0_ := Aside0.mk (Kd.Rc_mono (ok' := fun k_ => some k_ ≠ (v378 : Value).ownBlock) (Kd.Rc_keptB (Kd.Rc_tight rfl u0_.out) hkp (fun k_ hk_ hs_ => hs_.1.1.1.2 hk_)) (fun k_ hk_ => (by have h_ := HO_4.out.1 k_ hk_.1.symm; first | exact h_ | exact h_.1))); have n1_ := Aside0.mk (Kd.Rc_mono (ok' := fun k_ => some k_ ≠ (v369 : Value).ownBlock) (Kd.Rc_keptB (Kd.Rc_tight rfl u1_.out) hkp (fun k_ hk_ hs_ => hs_.1.1.2 hk_)) (fun k_ hk_ => (by have h_ := HO_7.out.1 k_ hk_.1.symm; first | exact h_ | exact h_.1))); have n2_ := Aside0.mk (mark_blk hkp BK373.out (fun hs_ => hs_.1.2 rfl)); have n3_ := Aside0.mk (mark_blk hkp BK382.out (fun hs_ => hs_.2 rfl)); have n4_ := Aside0.mk hb; clear u0_ u1_ us_ HO_6 HO_4 HO_7 BK373 BK382 HB hb hkp; have HO_4 := n0_; have HO_7 := n1_; have BK373 := n2_; have BK382 := n3_; have HB := n4_; clear n0_ n1_ n2_ n3_ n4_))
            (try simp only [Act.put, List.setIfInBounds_toArray, List.set_cons_zero, List.set_cons_succ])
            go_cut [63] (fun v63 wc => ∃ (kq : Nat) (x63_37 : Bool), v63 = .bool x63_37 ∧ Aside0 (laws_FnExactPicMake.j1 kq l0 t368 t377 x63_37 t371 t372 = some r) ∧ Aside0 (kq ≤ kj8) ∧ Aside0 (Kd.Rc (Kd.int .u8) 5 wc w.heap.size (fun k_ => some k_ ≠ (v378 : Value).ownBlock) v369 t368) ∧ Aside0 (Kd.Rc (Kd.int .u8) 5 wc w.heap.size (fun k_ => some k_ ≠ (v369 : Value).ownBlock) v378 t377) ∧ Aside0 (wc.heap[gb373]? = some (.cells #[.int .i64 t371, .int .i64 t372] 36 (0, 0))) ∧ Aside0 (wc.heap[gb382]? = some (.cells #[.int .i64 t380, .int .i64 t381] 36 (0, 0))) ∧ Aside0 (Below w.heap.size w wc))
            case first =>
              have H := HC38.out
              clear HC38
              by_cases c42 : t389 < 0
              · rw [if_pos c42] at H
                have c42b0 : decide (t389 < 0) = true := decide_eq_true c42
                clear c42
                (first | rw [c42b0] | (simp only [i64_w, i32_w]; rw [c42b0]) | skip)
                have H' := Aside0.mk H
                clear H
                go_wp2
                go_meet
                case rel => exact ⟨_, (true), (by first | rfl | (simp; done) | (simp [*]; done)), H', ⟨by have := HJ8.out; first | omega | exact Nat.le_refl _⟩, ⟨by (with_reducible repeat (first | apply Kd.Rc_alloc | apply Kd.Rc_drewN | apply Kd.Rc_drew)); exact HO_4.out⟩, ⟨by (with_reducible repeat (first | apply Kd.Rc_alloc | apply Kd.Rc_drewN | apply Kd.Rc_drew)); exact HO_7.out⟩, ⟨by (with_reducible repeat (first | refine blk_drewN ?_ _ | refine blk_drew ?_ | refine blk_alloc ?_ _)); exact BK373.out⟩, ⟨by (with_reducible repeat (first | refine blk_drewN ?_ _ | refine blk_drew ?_ | refine blk_alloc ?_ _)); exact BK382.out⟩, ⟨by repeat (first | (with_reducible first | exact HB.out | apply below_alloc | apply pw_below_drewN | apply below_drew1 | refine below_set ?_ GE373.out | refine below_set ?_ GE382.out) | exact HB.out)⟩⟩
              · rw [if_neg c42] at H
                have c42b0 : decide (t389 < 0) = false := decide_eq_false c42
                clear c42
                (first | rw [c42b0] | (simp only [i64_w, i32_w]; rw [c42b0]) | skip)
                replace H := Option.bind_eq_some_iff.mp H
                obtain ⟨t390, A430, H⟩ := H
                replace H : (if t390 = true then ((laws_eqPicFault.f t380 t381 t371 t372).bind fun t391 => (laws_FnExactPicMake.j1 kj8 l0 t368 t377 (!t391) t371 t372)) else (laws_FnExactPicMake.j1 kj8 l0 t368 t377 true t371 t372)) = some r := H
                have A43 := Aside0.mk A430
                clear A430
                by_cases c44 : t390 = true
                · subst c44
                  have H1 : ((laws_eqPicFault.f t380 t381 t371 t372).bind fun t391 => (laws_FnExactPicMake.j1 kj8 l0 t368 t377 (!t391) t371 t372)) = some r := by rw [if_pos rfl] at H; exact H
                  clear H
                  have H := H1
                  clear H1
                  replace H := Option.bind_eq_some_iff.mp H
                  obtain ⟨t391, A450, H⟩ := H
                  replace H : (laws_FnExactPicMake.j1 kj8 l0 t368 t377 (!t391) t371 t372) = some r := H
                  have A45 := Aside0.mk A450
                  clear A450
                  have H' := Aside0.mk H
                  clear H
                  obtain ⟨Ao46, co46, eo46⟩ := Kd.Rc_slice HO_7.out
                  subst eo46
                  obtain ⟨Ao47, co47, eo47⟩ := Kd.Rc_slice HO_4.out
                  subst eo47
                  go_wp2_with (first | (go_at_call 19; (with_reducible refine (laws_eqByteS.calls kj8 _ _ t377 _ _ t368 true _ ?side1 ?side2 ?side3 ?side4 A43.out).mono ?_); (case side1 => repeat (first | exact (Kd.Rc_reads' HO_7.out).2.2 | (with_reducible refine Kd.C_alloc ?_ _) | (with_reducible refine Kd.C_drewN ?_ _) | (with_reducible refine Kd.C_drew ?_))); (case side2 => exact (Kd.Rc_reads' HO_7.out).2.1); (case side3 => repeat (first | exact (Kd.Rc_reads' HO_4.out).2.2 | (with_reducible refine Kd.C_alloc ?_ _) | (with_reducible refine Kd.C_drewN ?_ _) | (with_reducible refine Kd.C_drew ?_))); (case side4 => exact (Kd.Rc_reads' HO_4.out).2.1); rintro e w' ⟨rfl, ⟨nd, rfl⟩⟩; have hnb48 := NB382_373.out; have hnc48 := NB373_382.out; have hcz49_0 : w41.cell? ⟨gb382, 0, none⟩ = some (.int .i64 t380) := (blk_cell BK382.out 0).trans rfl; have hcz49_1 : w41.cell? ⟨gb382, 1, none⟩ = some (.int .i64 t381) := (blk_cell BK382.out 1).trans rfl; have hfz49_0 := blk_frozen BK382.out 0; have hfz49_1 := blk_frozen BK382.out 1; have hcz50_0 : w41.cell? ⟨gb373, 0, none⟩ = some (.int .i64 t371) := (blk_cell BK373.out 0).trans rfl; have hcz50_1 : w41.cell? ⟨gb373, 1, none⟩ = some (.int .i64 t372) := (blk_cell BK373.out 1).trans rfl; have hfz50_0 := blk_frozen BK373.out 0; have hfz50_1 := blk_frozen BK373.out 1) | (go_at_call 20; (with_reducible refine (laws_eqPicFault.calls t380 t381 t371 t372 t391 _ A45.out).mono ?_); rintro e w51 ⟨rfl, hb⟩; have n0_ := Aside0.mk (Kd.Rc_below (by (with_reducible repeat (first | apply Kd.Rc_alloc | apply Kd.Rc_drewN | apply Kd.Rc_drew)); exact HO_4.out) hb); have n2_ := Aside0.mk (Kd.Rc_below (by (with_reducible repeat (first | apply Kd.Rc_alloc | apply Kd.Rc_drewN | apply Kd.Rc_drew)); exact HO_7.out) hb); have n4_ := Aside0.mk (blk_below (g := gb373) (o := .cells #[.int .i64 t371, .int .i64 t372] 36 (0, 0)) (by (with_reducible repeat (first | refine blk_drewN ?_ _ | refine blk_drew ?_ | refine blk_alloc ?_ _)); exact BK373.out) hb); have n5_ := Aside0.mk (blk_below (g := gb382) (o := .cells #[.int .i64 t380, .int .i64 t381] 36 (0, 0)) (by (with_reducible repeat (first | refine blk_drewN ?_ _ | refine blk_drew ?_ | refine blk_alloc ?_ _)); exact BK382.out) hb); have n6_ := Aside0.mk (below_step (by repeat (first | (with_reducible first | exact HB.out | apply below_alloc | apply pw_below_drewN | apply below_drew1 | refine below_set ?_ GE373.out | refine below_set ?_ GE382.out) | exact HB.out)) hb); clear HO_4; (try clear HO_6); clear HO_7; (try clear HO387); clear BK373; clear BK382; clear HB; have HO_4 := n0_; have HO_7 := n2_; have BK373 := n4_; have BK382 := n5_; have HB := n6_; clear n0_ n2_ n4_ n5_ n6_; (try clear hb); (try clear hb2); (try clear hk); (try clear hi)))
                  go_meet
                  case rel => exact ⟨_, (!t391), (by first | rfl | (simp; done) | (simp [*]; done)), H', ⟨by have := HJ8.out; first | omega | exact Nat.le_refl _⟩, ⟨by (with_reducible repeat (first | apply Kd.Rc_alloc | apply Kd.Rc_drewN | apply Kd.Rc_drew)); exact HO_4.out⟩, ⟨by (with_reducible repeat (first | apply Kd.Rc_alloc | apply Kd.Rc_drewN | apply Kd.Rc_drew)); exact HO_7.out⟩, ⟨by (with_reducible repeat (first | refine blk_drewN ?_ _ | refine blk_drew ?_ | refine blk_alloc ?_ _)); exact BK373.out⟩, ⟨by (with_reducible repeat (first | refine blk_drewN ?_ _ | refine blk_drew ?_ | refine blk_alloc ?_ _)); exact BK382.out⟩, ⟨by repeat (first | (with_reducible first | exact HB.out | apply below_alloc | apply pw_below_drewN | apply below_drew1 | refine below_set ?_ GE373.out | refine below_set ?_ GE382.out) | exact HB.out)⟩⟩
                · replace c44 := Bool.eq_false_iff.mpr c44
                  subst c44
                  have H1 : (laws_FnExactPicMake.j1 kj8 l0 t368 t377 true t371 t372) = some r := by rw [if_neg (show ¬ (false = true) by decide)] at H; exact H
                  clear H
                  have H := H1
                  clear H1
                  have H' := Aside0.mk H
                  clear H
                  obtain ⟨Ao52, co52, eo52⟩ := Kd.Rc_slice HO_7.out
                  subst eo52
                  obtain ⟨Ao53, co53, eo53⟩ := Kd.Rc_slice HO_4.out
                  subst eo53
                  go_wp2_with (first | (go_at_call 19; (with_reducible refine (laws_eqByteS.calls kj8 _ _ t377 _ _ t368 false _ ?side1 ?side2 ?side3 ?side4 A43.out).mono ?_); (case side1 => repeat (first | exact (Kd.Rc_reads' HO_7.out).2.2 | (with_reducible refine Kd.C_alloc ?_ _) | (with_reducible refine Kd.C_drewN ?_ _) | (with_reducible refine Kd.C_drew ?_))); (case side2 => exact (Kd.Rc_reads' HO_7.out).2.1); (case side3 => repeat (first | exact (Kd.Rc_reads' HO_4.out).2.2 | (with_reducible refine Kd.C_alloc ?_ _) | (with_reducible refine Kd.C_drewN ?_ _) | (with_reducible refine Kd.C_drew ?_))); (case side4 => exact (Kd.Rc_reads' HO_4.out).2.1); rintro e w' ⟨rfl, ⟨nd, rfl⟩⟩))
                  go_meet
                  case rel => exact ⟨_, (true), (by first | rfl | (simp; done) | (simp [*]; done)), H', ⟨by have := HJ8.out; first | omega | exact Nat.le_refl _⟩, ⟨by (with_reducible repeat (first | apply Kd.Rc_alloc | apply Kd.Rc_drewN | apply Kd.Rc_drew)); exact HO_4.out⟩, ⟨by (with_reducible repeat (first | apply Kd.Rc_alloc | apply Kd.Rc_drewN | apply Kd.Rc_drew)); exact HO_7.out⟩, ⟨by (with_reducible repeat (first | refine blk_drewN ?_ _ | refine blk_drew ?_ | refine blk_alloc ?_ _)); exact BK373.out⟩, ⟨by (with_reducible repeat (first | refine blk_drewN ?_ _ | refine blk_drew ?_ | refine blk_alloc ?_ _)); exact BK382.out⟩, ⟨by repeat (first | (with_reducible first | exact HB.out | apply below_alloc | apply pw_below_drewN | apply below_drew1 | refine below_set ?_ GE373.out | refine below_set ?_ GE382.out) | exact HB.out)⟩⟩
            case rest =>
              clear HC38
              try clear c1
              try clear c2
              try clear p2
              try clear c3
              try clear c3b0
              try clear c4
              try clear c5
              try clear c6
              try clear c8
              try clear c10
              try clear c14
              try clear c17
              try clear c18
              try clear c19
              try clear c20
              try clear c23
              try clear c27
              try clear c33
              try clear c36
              try clear c42
              try clear c42b0
              try clear c44
              try clear c48
              try clear hcz15_0
              try clear hcz15_1
              try clear hcz21_0
              try clear hcz21_1
              try clear hcz28_0
              try clear hcz28_1
              try clear hcz29_0
              try clear hcz29_1
              try clear hcz49_0
              try clear hcz49_1
              try clear hcz50_0
              try clear hcz50_1
              try clear hfz15_0
              try clear hfz15_1
              try clear hfz21_0
              try clear hfz21_1
              try clear hfz28_0
              try clear hfz28_1
              try clear hfz29_0
              try clear hfz29_1
              try clear hfz49_0
              try clear hfz49_1
              try clear hfz50_0
              try clear hfz50_1
              try clear p2
              obtain ⟨kq, x63_37, rfl, HA, HJ37, HO_4, HO_7, BK373, BK382, HB⟩ := hcut
              cases kq with
              | zero => exact absurd HA.out (by simp [laws_FnExactPicMake.j1])
              | succ kj37 =>
                have H := HA.out
                clear HA
                simp only [laws_FnExactPicMake.j1] at H
                by_cases c54 : x63_37 = true
                · subst c54
                  have H1 : (some false) = some r := by rw [if_pos rfl] at H; exact H
                  clear H
                  have H := H1
                  clear H1
                  obtain rfl := Option.some.inj H
                  go_wp2
                  go_ret
                  exact ⟨by first | rfl | (simp [errW_none, errW_some] <;> rfl) | (simp [*, errW_none, errW_some] <;> rfl), by repeat (first | (with_reducible first | exact HB.out | apply below_alloc | apply pw_below_drewN | apply below_drew1 | refine below_set ?_ GE373.out | refine below_set ?_ GE382.out) | exact HB.out)⟩
                · replace c54 := Bool.eq_false_iff.mpr c54
                  subst c54
                  have H1 : ((laws_markByteS.f kj37 t377 1).bind fun bt392 => ((laws_heldByteS.f kj37 bt392.2 1).bind fun t394 => (if t394 < 0 then (some false) else (if t394 = bt392.1 then ((laws_toInstS.f kj37 l0).bind fun t395 => ((impl_PicMake.f kj37 t395).bind fun bt398 => ((laws_eqByteS.f kj37 bt398.1 t368).bind fun t404 => (if t404 = true then ((laws_eqPicFault.f bt398.2.1 bt398.2.2 t371 t372).bind fun t405 => (laws_FnExactPicMake.j2 kj37 bt392.2 bt392.1 (!t405))) else (laws_FnExactPicMake.j2 kj37 bt392.2 bt392.1 true))))) else (some false))))) = some r := by rw [if_neg (show ¬ (false = true) by decide)] at H; exact H
                  clear H
                  have H := H1
                  clear H1
                  replace H := Option.bind_eq_some_iff.mp H
                  obtain ⟨⟨t392, t393⟩, A550, H⟩ := H
                  replace H : ((laws_heldByteS.f kj37 t393 1).bind fun t394 => (if t394 < 0 then (some false) else (if t394 = t392 then ((laws_toInstS.f kj37 l0).bind fun t395 => ((impl_PicMake.f kj37 t395).bind fun bt398 => ((laws_eqByteS.f kj37 bt398.1 t368).bind fun t404 => (if t404 = true then ((laws_eqPicFault.f bt398.2.1 bt398.2.2 t371 t372).bind fun t405 => (laws_FnExactPicMake.j2 kj37 t393 t392 (!t405))) else (laws_FnExactPicMake.j2 kj37 t393 t392 true))))) else (some false)))) = some r := H
                  have A55 := Aside0.mk A550
                  clear A550
                  replace H := Option.bind_eq_some_iff.mp H
                  obtain ⟨t394, A560, H⟩ := H
                  replace H : (if t394 < 0 then (some false) else (if t394 = t392 then ((laws_toInstS.f kj37 l0).bind fun t395 => ((impl_PicMake.f kj37 t395).bind fun bt398 => ((laws_eqByteS.f kj37 bt398.1 t368).bind fun t404 => (if t404 = true then ((laws_eqPicFault.f bt398.2.1 bt398.2.2 t371 t372).bind fun t405 => (laws_FnExactPicMake.j2 kj37 t393 t392 (!t405))) else (laws_FnExactPicMake.j2 kj37 t393 t392 true))))) else (some false))) = some r := H
                  have A56 := Aside0.mk A560
                  clear A560
                  by_cases c57 : t394 < 0
                  · rw [if_pos c57] at H
                    have c57b0 : decide (t394 < 0) = true := decide_eq_true c57
                    clear c57
                    obtain rfl := Option.some.inj H
                    obtain ⟨Ao58, co58, eo58⟩ := Kd.Rc_slice HO_7.out
                    subst eo58
                    go_wp2_with (first | ((with_reducible refine gate_callee (f := 21) rfl ?_); refine goesL_ (some 66) rfl rfl Try.func21 (by kernel_rfl) rfl #[.slice Ao58 t377.length co58, .int .i64 1] rfl (by (try simp only [List.map_toArray, List.map_cons, List.map_nil]); first | done | rfl | (simp only [List.length_drop, List.length_take]; rfl)) ?_; (with_reducible refine (laws_markByteS.callsC kj37 (fun k_ => some k_ = (.slice Ao58 t377.length co58 : Value).ownBlock) (.slice Ao58 t377.length co58) t377 1 t392 t393 w _ ?side1 ?side2 A55.out).mono ?_); (case side1 => repeat (first | (with_reducible first | exact HB.out | apply below_alloc | apply pw_below_drewN | apply below_drew1 | refine below_set ?_ GE373.out | refine below_set ?_ GE382.out) | exact HB.out)); (case side2 => exact Kd.Rc_tight rfl HO_7.out); rintro e w59 ⟨rfl, hy0, hb, hkp⟩; refine ⟨_, rfl, ?_⟩; have n0_ := Aside0.mk (Kd.Rc_mono (ok' := fun k_ => some k_ ≠ (.slice Ao58 t377.length co58 : Value).ownBlock) (Kd.Rc_keptB (HO_4.out) hkp (fun k_ hk_ hs_ => (hk_) hs_)) (fun k_ hk_ => hk_.1)); have n1_ := Aside0.mk (Kd.Rc_reok rfl hy0 (fun k_ e_ => HO_7.out.1 k_ e_)); have n2_ := Aside0.mk (blk_kept (by (with_reducible repeat (first | refine blk_drewN ?_ _ | refine blk_drew ?_ | refine blk_alloc ?_ _)); exact BK373.out) hkp (fun hs_ => (fun e_ => (Kd.Rc_ne HO_7.out BK373.out (by decide)) e_) hs_)); have n3_ := Aside0.mk (blk_kept (by (with_reducible repeat (first | refine blk_drewN ?_ _ | refine blk_drew ?_ | refine blk_alloc ?_ _)); exact BK382.out) hkp (fun hs_ => (fun e_ => (Kd.Rc_ne HO_7.out BK382.out (by decide)) e_) hs_)); have n4_ := Aside0.mk (hb); clear HO_4; clear HO_7; clear BK373; clear BK382; clear HB; have HO_4 := n0_; have HO_7 := n1_; have BK373 := n2_; have BK382 := n3_; have HB := n4_; clear n0_ n1_ n2_ n3_ n4_; (try clear hb); (try clear hkp); (try clear hy0)) | ((with_reducible refine gate_callee (f := 22) rfl ?_); refine goesL_ (some 69) rfl rfl Try.func22 (by kernel_rfl) rfl #[.slice Ao58 t393.length co58, .int .i64 1] rfl (by (try simp only [List.map_toArray, List.map_cons, List.map_nil]); first | done | (rw [show t393.length = t377.length from (Kd.Rc_reads' HO_7.out).1.symm] <;> rfl) | rfl | (simp only [List.length_drop, List.length_take]; rfl)) ?_; (with_reducible refine (laws_heldByteS.calls kj37 _ _ t393 1 t394 _ ?side1 ?side2 A56.out).mono ?_); (case side1 => repeat (first | exact (Kd.Rc_reads' HO_7.out).2.2 | (with_reducible refine Kd.C_alloc ?_ _) | (with_reducible refine Kd.C_drewN ?_ _) | (with_reducible refine Kd.C_drew ?_))); (case side2 => rw [show t393.length = t377.length from (Kd.Rc_reads' HO_7.out).1.symm]; exact (Kd.Rc_reads' HO_7.out).2.1); rintro e w' ⟨rfl, ⟨nd, rfl⟩⟩; refine ⟨_, rfl, ?_⟩))
                    go_ret
                    exact ⟨by first | rfl | (simp [errW_none, errW_some] <;> rfl) | (simp [*, errW_none, errW_some] <;> rfl), by repeat (first | (with_reducible first | exact HB.out | apply below_alloc | apply pw_below_drewN | apply below_drew1 | refine below_set ?_ GE373.out | refine below_set ?_ GE382.out) | exact HB.out)⟩
                  · rw [if_neg c57] at H
                    have c57b0 : decide (t394 < 0) = false := decide_eq_false c57
                    clear c57
                    by_cases c60 : t394 = t392
                    · rw [if_pos c60] at H
                      have c60b0 : (t394 == t392) = true := beq_iff_eq.mpr c60
                      have c60b1 : (t394 != t392) = false := bne_eq_false_iff_eq.mpr c60
                      clear c60
                      replace H := Option.bind_eq_some_iff.mp H
                      obtain ⟨t395, A610, H⟩ := H
                      replace H : ((impl_PicMake.f kj37 t395).bind fun bt398 => ((laws_eqByteS.f kj37 bt398.1 t368).bind fun t404 => (if t404 = true then ((laws_eqPicFault.f bt398.2.1 bt398.2.2 t371 t372).bind fun t405 => (laws_FnExactPicMake.j2 kj37 t393 t392 (!t405))) else (laws_FnExactPicMake.j2 kj37 t393 t392 true)))) = some r := H
                      have A61 := Aside0.mk A610
                      clear A610
                      replace H := Option.bind_eq_some_iff.mp H
                      obtain ⟨⟨t398, t401, t402⟩, A620, H⟩ := H
                      replace H : ((laws_eqByteS.f kj37 t398 t368).bind fun t404 => (if t404 = true then ((laws_eqPicFault.f t401 t402 t371 t372).bind fun t405 => (laws_FnExactPicMake.j2 kj37 t393 t392 (!t405))) else (laws_FnExactPicMake.j2 kj37 t393 t392 true))) = some r := H
                      have A62 := Aside0.mk A620
                      clear A620
                      have HC63 := Aside0.mk H
                      clear H
                      obtain ⟨Ao64, co64, eo64⟩ := Kd.Rc_slice HO_7.out
                      subst eo64
                      go_upto_region 25 with (first | ((with_reducible refine gate_callee (f := 21) rfl ?_); refine goesL_ (some 66) rfl rfl Try.func21 (by kernel_rfl) rfl #[.slice Ao64 t377.length co64, .int .i64 1] rfl (by (try simp only [List.map_toArray, List.map_cons, List.map_nil]); first | done | rfl | (simp only [List.length_drop, List.length_take]; rfl)) ?_; (with_reducible refine (laws_markByteS.callsC kj37 (fun k_ => some k_ = (.slice Ao64 t377.length co64 : Value).ownBlock) (.slice Ao64 t377.length co64) t377 1 t392 t393 w _ ?side1 ?side2 A55.out).mono ?_); (case side1 => repeat (first | (with_reducible first | exact HB.out | apply below_alloc | apply pw_below_drewN | apply below_drew1 | refine below_set ?_ GE373.out | refine below_set ?_ GE382.out) | exact HB.out)); (case side2 => exact Kd.Rc_tight rfl HO_7.out); rintro e w65 ⟨rfl, hy0, hb, hkp⟩; refine ⟨_, rfl, ?_⟩; have n0_ := Aside0.mk (Kd.Rc_mono (ok' := fun k_ => some k_ ≠ (.slice Ao64 t377.length co64 : Value).ownBlock) (Kd.Rc_keptB (HO_4.out) hkp (fun k_ hk_ hs_ => (hk_) hs_)) (fun k_ hk_ => hk_.1)); have n1_ := Aside0.mk (Kd.Rc_reok rfl hy0 (fun k_ e_ => HO_7.out.1 k_ e_)); have n2_ := Aside0.mk (blk_kept (by (with_reducible repeat (first | refine blk_drewN ?_ _ | refine blk_drew ?_ | refine blk_alloc ?_ _)); exact BK373.out) hkp (fun hs_ => (fun e_ => (Kd.Rc_ne HO_7.out BK373.out (by decide)) e_) hs_)); have n3_ := Aside0.mk (blk_kept (by (with_reducible repeat (first | refine blk_drewN ?_ _ | refine blk_drew ?_ | refine blk_alloc ?_ _)); exact BK382.out) hkp (fun hs_ => (fun e_ => (Kd.Rc_ne HO_7.out BK382.out (by decide)) e_) hs_)); have n4_ := Aside0.mk (hb); clear HO_4; clear HO_7; clear BK373; clear BK382; clear HB; have HO_4 := n0_; have HO_7 := n1_; have BK373 := n2_; have BK382 := n3_; have HB := n4_; clear n0_ n1_ n2_ n3_ n4_; (try clear hb); (try clear hkp); (try clear hy0)) | ((with_reducible refine gate_callee (f := 22) rfl ?_); refine goesL_ (some 69) rfl rfl Try.func22 (by kernel_rfl) rfl #[.slice Ao64 t393.length co64, .int .i64 1] rfl (by (try simp only [List.map_toArray, List.map_cons, List.map_nil]); first | done | (rw [show t393.length = t377.length from (Kd.Rc_reads' HO_7.out).1.symm] <;> rfl) | rfl | (simp only [List.length_drop, List.length_take]; rfl)) ?_; (with_reducible refine (laws_heldByteS.calls kj37 _ _ t393 1 t394 _ ?side1 ?side2 A56.out).mono ?_); (case side1 => repeat (first | exact (Kd.Rc_reads' HO_7.out).2.2 | (with_reducible refine Kd.C_alloc ?_ _) | (with_reducible refine Kd.C_drewN ?_ _) | (with_reducible refine Kd.C_drew ?_))); (case side2 => rw [show t393.length = t377.length from (Kd.Rc_reads' HO_7.out).1.symm]; exact (Kd.Rc_reads' HO_7.out).2.1); rintro e w' ⟨rfl, ⟨nd, rfl⟩⟩; refine ⟨_, rfl, ?_⟩; (try (rw [drewN_self w65]; generalize hq_ : World.drewN w65 _ = w65; have n0_ : Aside0 (Kd.Rc (Kd.int .u8) 5 w65 w.heap.size (fun k_ => some k_ ≠ (.slice Ao64 t377.length co64 : Value).ownBlock) v369 t368) := ⟨by rw [← hq_]; exact (by (with_reducible repeat (first | apply Kd.Rc_alloc | apply Kd.Rc_drewN | apply Kd.Rc_drew)); exact HO_4.out)⟩; have n1_ : Aside0 (Kd.Rc (Kd.int .u8) 5 w65 w.heap.size (fun k_ => some k_ ≠ (v369 : Value).ownBlock) (.slice Ao64 t377.length co64) t393) := ⟨by rw [← hq_]; exact (by (with_reducible repeat (first | apply Kd.Rc_alloc | apply Kd.Rc_drewN | apply Kd.Rc_drew)); exact HO_7.out)⟩; have n2_ : Aside0 (w65.heap[gb373]? = some (.cells #[.int .i64 t371, .int .i64 t372] 36 (0, 0))) := ⟨by rw [← hq_]; exact (by (with_reducible repeat (first | refine blk_drewN ?_ _ | refine blk_drew ?_ | refine blk_alloc ?_ _)); exact BK373.out)⟩; have n3_ : Aside0 (w65.heap[gb382]? = some (.cells #[.int .i64 t380, .int .i64 t381] 36 (0, 0))) := ⟨by rw [← hq_]; exact (by (with_reducible repeat (first | refine blk_drewN ?_ _ | refine blk_drew ?_ | refine blk_alloc ?_ _)); exact BK382.out)⟩; have n4_ : Aside0 (Below w.heap.size w w65) := ⟨by rw [← hq_]; exact (by repeat (first | (with_reducible first | exact HB.out | apply below_alloc | apply pw_below_drewN | apply below_drew1 | refine below_set ?_ GE373.out | refine below_set ?_ GE382.out) | exact HB.out))⟩; clear HO_4 HO_7 BK373 BK382 HB hq_; have HO_4 := n0_; have HO_7 := n1_; have BK373 := n2_; have BK382 := n3_; have HB := n4_; clear n0_ n1_ n2_ n3_ n4_))) | ((with_reducible refine gate_callee (f := 8) rfl ?_); refine goesL_ (some 77) rfl rfl Try.func8 (by kernel_rfl) rfl #[.slice A0 l0.length c0] rfl (by (try simp only [List.map_toArray, List.map_cons, List.map_nil]); first | done | rfl | (simp only [List.length_drop, List.length_take]; rfl)) ?_; (with_reducible refine (laws_toInstS.calls kj37 _ _ l0 t395 _ ?side1 ?side2 A61.out).mono ?_); (case side1 => repeat (first | exact (Kd.C_below HR0.out HB.out) | (with_reducible refine Kd.C_alloc ?_ _) | (with_reducible refine Kd.C_drewN ?_ _) | (with_reducible refine Kd.C_drew ?_))); (case side2 => exact HC0.out); rintro e w66 ⟨v396, rfl, ho0, hb⟩; refine ⟨_, rfl, ?_⟩; have n0_ := Aside0.mk (Kd.Rc_below (by (with_reducible repeat (first | apply Kd.Rc_alloc | apply Kd.Rc_drewN | apply Kd.Rc_drew)); exact HO_4.out) hb); have n1_ := Aside0.mk (Kd.Rc_below (by (with_reducible repeat (first | apply Kd.Rc_alloc | apply Kd.Rc_drewN | apply Kd.Rc_drew)); exact HO_7.out) hb); have n2_ := Aside0.mk (Kd.S_lower ho0 (below_size (by repeat (first | (with_reducible first | exact HB.out | apply below_alloc | apply pw_below_drewN | apply below_drew1 | refine below_set ?_ GE373.out | refine below_set ?_ GE382.out) | exact HB.out)))); have n3_ := Aside0.mk (blk_below (g := gb373) (o := .cells #[.int .i64 t371, .int .i64 t372] 36 (0, 0)) (by (with_reducible repeat (first | refine blk_drewN ?_ _ | refine blk_drew ?_ | refine blk_alloc ?_ _)); exact BK373.out) hb); have n4_ := Aside0.mk (blk_below (g := gb382) (o := .cells #[.int .i64 t380, .int .i64 t381] 36 (0, 0)) (by (with_reducible repeat (first | refine blk_drewN ?_ _ | refine blk_drew ?_ | refine blk_alloc ?_ _)); exact BK382.out) hb); have n5_ := Aside0.mk (below_step (by repeat (first | (with_reducible first | exact HB.out | apply below_alloc | apply pw_below_drewN | apply below_drew1 | refine below_set ?_ GE373.out | refine below_set ?_ GE382.out) | exact HB.out)) hb); clear HO_4; clear HO_7; clear BK373; clear BK382; clear HB; have HO_4 := n0_; have HO_7 := n1_; have HO397 := n2_; have BK373 := n3_; have BK382 := n4_; have HB := n5_; clear n0_ n1_ n2_ n3_ n4_ n5_; (try clear hb); (try clear hb2); (try clear hk); (try clear hi); (try clear ho0); obtain ⟨Ao67, co67, eo67⟩ := Kd.S_slice HO397.out; subst eo67) | ((with_reducible refine gate_callee (f := 18) rfl ?_); refine goesL_ (some 78) rfl rfl Try.func18 (by kernel_rfl) rfl #[.slice Ao67 t395.length co67] rfl (by (try simp only [List.map_toArray, List.map_cons, List.map_nil]); first | done | rfl | (simp only [List.length_drop, List.length_take]; rfl)) ?_; (with_reducible refine (impl_PicMake.calls kj37 _ _ t395 t398 t401 t402 _ ?side1 ?side2 A62.out).mono ?_); (case side1 => repeat (first | exact (Kd.S_reads' HO397.out).2.2 | (with_reducible refine Kd.C_alloc ?_ _) | (with_reducible refine Kd.C_drewN ?_ _) | (with_reducible refine Kd.C_drew ?_))); (case side2 => exact (Kd.S_reads' HO397.out).2.1); rintro e w68 ⟨v399, rfl, ho0, hb⟩; refine ⟨_, rfl, ?_⟩; have n0_ := Aside0.mk (Kd.Rc_elder' (by (with_reducible repeat (first | apply Kd.Rc_alloc | apply Kd.Rc_drewN | apply Kd.Rc_drew)); exact HO_4.out) (Kd.Rc_base ho0) hb); have n1_ := Aside0.mk (Kd.Rc_elder' (by (with_reducible repeat (first | apply Kd.Rc_alloc | apply Kd.Rc_drewN | apply Kd.Rc_drew)); exact HO_7.out) (Kd.Rc_base ho0) hb); have n2_ := Aside0.mk (Kd.S_below (by (with_reducible repeat (first | apply Kd.S_alloc | apply Kd.S_drewN | apply Kd.S_drew)); exact HO397.out) hb); have n3_ := Aside0.mk (Kd.Rc_lower (Kd.Rc_new' (Kd.Rc_new' ho0 (Kd.Rc_lt (by (with_reducible repeat (first | apply Kd.Rc_alloc | apply Kd.Rc_drewN | apply Kd.Rc_drew)); exact HO_4.out))) (Kd.Rc_lt (by (with_reducible repeat (first | apply Kd.Rc_alloc | apply Kd.Rc_drewN | apply Kd.Rc_drew)); exact HO_7.out))) (below_size (by repeat (first | (with_reducible first | exact HB.out | apply below_alloc | apply pw_below_drewN | apply below_drew1 | refine below_set ?_ GE373.out | refine below_set ?_ GE382.out) | exact HB.out)))); have n4_ := Aside0.mk (blk_below (g := gb373) (o := .cells #[.int .i64 t371, .int .i64 t372] 36 (0, 0)) (by (with_reducible repeat (first | refine blk_drewN ?_ _ | refine blk_drew ?_ | refine blk_alloc ?_ _)); exact BK373.out) hb); have n5_ := Aside0.mk (blk_below (g := gb382) (o := .cells #[.int .i64 t380, .int .i64 t381] 36 (0, 0)) (by (with_reducible repeat (first | refine blk_drewN ?_ _ | refine blk_drew ?_ | refine blk_alloc ?_ _)); exact BK382.out) hb); have n6_ := Aside0.mk (below_step (by repeat (first | (with_reducible first | exact HB.out | apply below_alloc | apply pw_below_drewN | apply below_drew1 | refine below_set ?_ GE373.out | refine below_set ?_ GE382.out) | exact HB.out)) hb); clear HO_4; clear HO_7; clear HO397; clear BK373; clear BK382; clear HB; have HO_4 := n0_; have HO_7 := n1_; have HO397 := n2_; have HO400 := n3_; have BK373 := n4_; have BK382 := n5_; have HB := n6_; clear n0_ n1_ n2_ n3_ n4_ n5_ n6_; (try clear hb); (try clear hb2); (try clear hk); (try clear hi); (try clear ho0)) | ((with_reducible refine gate_dst (N := 13) rfl ?_); refine box_event ?hg (N := 13) ?hd (cs := #[.int .i64 0, .int .i64 0]) (t := 36) ?hr ?_; (case hd => rfl); (case hg => rfl); (case hr => first | (go_simp; done) | (go_simp; rfl)); intro gb403 hg w69 hbox hb; have n0_ := Aside0.mk (Kd.Rc_below (by (with_reducible repeat (first | apply Kd.Rc_alloc | apply Kd.Rc_drewN | apply Kd.Rc_drew)); exact HO_4.out) hb); have n1_ := Aside0.mk (Kd.Rc_below (by (with_reducible repeat (first | apply Kd.Rc_alloc | apply Kd.Rc_drewN | apply Kd.Rc_drew)); exact HO_7.out) hb); have n2_ := Aside0.mk (Kd.S_below (by (with_reducible repeat (first | apply Kd.S_alloc | apply Kd.S_drewN | apply Kd.S_drew)); exact HO397.out) hb); have n3_ := Aside0.mk (Kd.Rc_below (by (with_reducible repeat (first | apply Kd.Rc_alloc | apply Kd.Rc_drewN | apply Kd.Rc_drew)); exact HO400.out) hb); have n4_ := Aside0.mk (blk_below (g := gb373) (o := .cells #[.int .i64 t371, .int .i64 t372] 36 (0, 0)) (by (with_reducible repeat (first | refine blk_drewN ?_ _ | refine blk_drew ?_ | refine blk_alloc ?_ _)); exact BK373.out) hb); have n5_ := Aside0.mk (blk_below (g := gb382) (o := .cells #[.int .i64 t380, .int .i64 t381] 36 (0, 0)) (by (with_reducible repeat (first | refine blk_drewN ?_ _ | refine blk_drew ?_ | refine blk_alloc ?_ _)); exact BK382.out) hb); have n6_ := Aside0.mk (below_step (by repeat (first | (with_reducible first | exact HB.out | apply below_alloc | apply pw_below_drewN | apply below_drew1 | refine below_set ?_ GE373.out | refine below_set ?_ GE382.out) | exact HB.out)) hb); have n7_ := Aside0.mk (hbox); have n8_ := Aside0.mk ((by rw [hg]; exact (below_size (by repeat (first | (with_reducible first | exact HB.out | apply below_alloc | apply pw_below_drewN | apply below_drew1 | refine below_set ?_ GE373.out | refine below_set ?_ GE382.out) | exact HB.out))) : w.heap.size ≤ gb403)); have n9_ := Aside0.mk ((by rw [hg]; exact (below_size (by repeat (first | (with_reducible first | exact HB.out | apply below_alloc | apply pw_below_drewN | apply below_drew1 | refine below_set ?_ GE373.out | refine below_set ?_ GE382.out) | exact HB.out))) : w.heap.size ≤ gb403)); have n10_ := Aside0.mk ((by rw [hg]; exact Nat.ne_of_lt (blk_lt (g := gb373) (o := .cells #[.int .i64 t371, .int .i64 t372] 36 (0, 0)) (by (with_reducible repeat (first | refine blk_drewN ?_ _ | refine blk_drew ?_ | refine blk_alloc ?_ _)); exact BK373.out)) : gb373 ≠ gb403)); have n11_ := Aside0.mk ((by rw [hg]; exact Nat.ne_of_gt (blk_lt (g := gb373) (o := .cells #[.int .i64 t371, .int .i64 t372] 36 (0, 0)) (by (with_reducible repeat (first | refine blk_drewN ?_ _ | refine blk_drew ?_ | refine blk_alloc ?_ _)); exact BK373.out)) : gb403 ≠ gb373)); have n12_ := Aside0.mk ((by rw [hg]; exact Nat.ne_of_lt (blk_lt (g := gb382) (o := .cells #[.int .i64 t380, .int .i64 t381] 36 (0, 0)) (by (with_reducible repeat (first | refine blk_drewN ?_ _ | refine blk_drew ?_ | refine blk_alloc ?_ _)); exact BK382.out)) : gb382 ≠ gb403)); have n13_ := Aside0.mk ((by rw [hg]; exact Nat.ne_of_gt (blk_lt (g := gb382) (o := .cells #[.int .i64 t380, .int .i64 t381] 36 (0, 0)) (by (with_reducible repeat (first | refine blk_drewN ?_ _ | refine blk_drew ?_ | refine blk_alloc ?_ _)); exact BK382.out)) : gb403 ≠ gb382)); clear HO_4; clear HO_7; clear HO397; clear HO400; clear BK373; clear BK382; clear HB; have HO_4 := n0_; have HO_7 := n1_; have HO397 := n2_; have HO400 := n3_; have BK373 := n4_; have BK382 := n5_; have HB := n6_; have BK403 := n7_; have GW403 := n8_; have GE403 := n9_; have NB373_403 := n10_; have NB403_373 := n11_; have NB382_403 := n12_; have NB403_382 := n13_; clear n0_ n1_ n2_ n3_ n4_ n5_ n6_ n7_ n8_ n9_ n10_ n11_ n12_ n13_; clear hb hbox hg; have hnb70 := NB403_373.out; have hnc70 := NB373_403.out; have hnb71 := NB403_382.out; have hnc71 := NB382_403.out; have hcz72_0 : w69.cell? ⟨gb403, 0, none⟩ = some (.int .i64 0) := (blk_cell BK403.out 0).trans rfl; have hcz72_1 : w69.cell? ⟨gb403, 1, none⟩ = some (.int .i64 0) := (blk_cell BK403.out 1).trans rfl; have hfz72_0 := blk_frozen BK403.out 0; have hfz72_1 := blk_frozen BK403.out 1))
                      (try simp only [Act.put, List.setIfInBounds_toArray, List.set_cons_zero, List.set_cons_succ])
                      go_cut [90] (fun v90 wc => ∃ (kq : Nat) (x90_62 : Bool), v90 = .bool x90_62 ∧ Aside0 (laws_FnExactPicMake.j2 kq t393 t392 x90_62 = some r) ∧ Aside0 (kq ≤ kj37) ∧ Aside0 (Kd.Rc (Kd.int .u8) 5 wc w.heap.size (fun _ => True) (.slice Ao64 t377.length co64) t393) ∧ Aside0 (wc.heap[gb373]? = some (.cells #[.int .i64 t371, .int .i64 t372] 36 (0, 0))) ∧ Aside0 (wc.heap[gb382]? = some (.cells #[.int .i64 t380, .int .i64 t381] 36 (0, 0))) ∧ Aside0 (wc.heap[gb403]? = some (.cells #[.int .i64 t401, .int .i64 t402] 36 (0, 0))) ∧ Aside0 (Below w.heap.size w wc))
                      case first =>
                        have H := HC63.out
                        clear HC63
                        replace H := Option.bind_eq_some_iff.mp H
                        obtain ⟨t404, A730, H⟩ := H
                        replace H : (if t404 = true then ((laws_eqPicFault.f t401 t402 t371 t372).bind fun t405 => (laws_FnExactPicMake.j2 kj37 t393 t392 (!t405))) else (laws_FnExactPicMake.j2 kj37 t393 t392 true)) = some r := H
                        have A73 := Aside0.mk A730
                        clear A730
                        by_cases c74 : t404 = true
                        · subst c74
                          have H1 : ((laws_eqPicFault.f t401 t402 t371 t372).bind fun t405 => (laws_FnExactPicMake.j2 kj37 t393 t392 (!t405))) = some r := by rw [if_pos rfl] at H; exact H
                          clear H
                          have H := H1
                          clear H1
                          replace H := Option.bind_eq_some_iff.mp H
                          obtain ⟨t405, A750, H⟩ := H
                          replace H : (laws_FnExactPicMake.j2 kj37 t393 t392 (!t405)) = some r := H
                          have A75 := Aside0.mk A750
                          clear A750
                          have H' := Aside0.mk H
                          clear H
                          obtain ⟨Ao76, co76, eo76⟩ := Kd.Rc_slice HO400.out
                          subst eo76
                          obtain ⟨Ao77, co77, eo77⟩ := Kd.Rc_slice HO_4.out
                          subst eo77
                          go_wp2_with (first | ((with_reducible refine gate_callee (f := 19) rfl ?_); refine goesL_ (some 83) rfl rfl Try.func19 (by kernel_rfl) rfl #[.slice Ao76 t398.length co76, .slice Ao77 t368.length co77] rfl (by (try simp only [List.map_toArray, List.map_cons, List.map_nil]); first | done | rfl | (simp only [List.length_drop, List.length_take]; rfl)) ?_; (with_reducible refine (laws_eqByteS.calls kj37 _ _ t398 _ _ t368 true _ ?side1 ?side2 ?side3 ?side4 A73.out).mono ?_); (case side1 => refine (Kd.Rc_reads' (e := 5) (base := w.heap.size) (ok := fun k_ => ((True ∧ some k_ ≠ (.slice Ao77 t368.length co77 : Value).ownBlock) ∧ some k_ ≠ (.slice Ao64 t377.length co64 : Value).ownBlock)) (n := t398.length) (c := co76) ?_).2.2; exact (by (with_reducible repeat (first | apply Kd.Rc_alloc | apply Kd.Rc_drewN | apply Kd.Rc_drew)); exact (Kd.Rc_mono (Kd.Rc_far (p := ⟨gb403, 1, none⟩) (Kd.Rc_far (p := ⟨gb403, 0, none⟩) (Kd.Rc_types HO400.out BK403.out (by decide)) (fun _ hk => hk.2) (.int .i64 t401)) (fun _ hk => hk.2) (.int .i64 t402)) (fun _ h_ => h_.1)))); (case side2 => exact (Kd.Rc_reads' HO400.out).2.1); (case side3 => refine (Kd.Rc_reads' (e := 5) (base := w.heap.size) (ok := fun k_ => (some k_ ≠ (.slice Ao64 t377.length co64 : Value).ownBlock ∧ some k_ ≠ (.slice Ao76 t398.length co76 : Value).ownBlock)) (n := t368.length) (c := co77) ?_).2.2; exact (by (with_reducible repeat (first | apply Kd.Rc_alloc | apply Kd.Rc_drewN | apply Kd.Rc_drew)); exact (Kd.Rc_mono (Kd.Rc_far (p := ⟨gb403, 1, none⟩) (Kd.Rc_far (p := ⟨gb403, 0, none⟩) (Kd.Rc_types HO_4.out BK403.out (by decide)) (fun _ hk => hk.2) (.int .i64 t401)) (fun _ hk => hk.2) (.int .i64 t402)) (fun _ h_ => h_.1)))); (case side4 => exact (Kd.Rc_reads' HO_4.out).2.1); rintro e w' ⟨rfl, ⟨nd, rfl⟩⟩; refine ⟨_, rfl, ?_⟩; have hnb78 := NB403_373.out; have hnc78 := NB373_403.out; have hnb79 := NB403_382.out; have hnc79 := NB382_403.out; have hcz80_0 : w69.cell? ⟨gb403, 0, none⟩ = some (.int .i64 0) := (blk_cell BK403.out 0).trans rfl; have hcz80_1 : w69.cell? ⟨gb403, 1, none⟩ = some (.int .i64 0) := (blk_cell BK403.out 1).trans rfl; have hfz80_0 := blk_frozen BK403.out 0; have hfz80_1 := blk_frozen BK403.out 1; have hnb81 := NB373_382.out; have hnc81 := NB382_373.out; have hcz82_0 : w69.cell? ⟨gb373, 0, none⟩ = some (.int .i64 t371) := (blk_cell BK373.out 0).trans rfl; have hcz82_1 : w69.cell? ⟨gb373, 1, none⟩ = some (.int .i64 t372) := (blk_cell BK373.out 1).trans rfl; have hfz82_0 := blk_frozen BK373.out 0; have hfz82_1 := blk_frozen BK373.out 1) | (go_at_call 20; (with_reducible refine (laws_eqPicFault.calls t401 t402 t371 t372 t405 _ A75.out).mono ?_); rintro e w83 ⟨rfl, hb⟩; have n0_ := Aside0.mk (Kd.Rc_below (by (with_reducible repeat (first | apply Kd.Rc_alloc | apply Kd.Rc_drewN | apply Kd.Rc_drew)); exact (Kd.Rc_mono (Kd.Rc_far (p := ⟨gb403, 1, none⟩) (Kd.Rc_far (p := ⟨gb403, 0, none⟩) (Kd.Rc_types HO_4.out BK403.out (by decide)) (fun _ hk => hk.2) (.int .i64 t401)) (fun _ hk => hk.2) (.int .i64 t402)) (fun _ h_ => h_.1))) hb); have n1_ := Aside0.mk (Kd.Rc_below (by (with_reducible repeat (first | apply Kd.Rc_alloc | apply Kd.Rc_drewN | apply Kd.Rc_drew)); exact (Kd.Rc_mono (Kd.Rc_far (p := ⟨gb403, 1, none⟩) (Kd.Rc_far (p := ⟨gb403, 0, none⟩) (Kd.Rc_types HO_7.out BK403.out (by decide)) (fun _ hk => hk.2) (.int .i64 t401)) (fun _ hk => hk.2) (.int .i64 t402)) (fun _ h_ => h_.1))) hb); have n2_ := Aside0.mk (Kd.S_below (by (with_reducible repeat (first | apply Kd.S_alloc | apply Kd.S_drewN | apply Kd.S_drew)); exact (Kd.S_mono (Kd.S_far (p := ⟨gb403, 1, none⟩) (Kd.S_far (p := ⟨gb403, 0, none⟩) (Kd.S_types HO397.out BK403.out (by decide)) (fun _ hk => hk.2) (.int .i64 t401)) (fun _ hk => hk.2) (.int .i64 t402)) (fun _ h_ => h_.1))) hb); have n3_ := Aside0.mk (Kd.Rc_below (by (with_reducible repeat (first | apply Kd.Rc_alloc | apply Kd.Rc_drewN | apply Kd.Rc_drew)); exact (Kd.Rc_mono (Kd.Rc_far (p := ⟨gb403, 1, none⟩) (Kd.Rc_far (p := ⟨gb403, 0, none⟩) (Kd.Rc_types HO400.out BK403.out (by decide)) (fun _ hk => hk.2) (.int .i64 t401)) (fun _ hk => hk.2) (.int .i64 t402)) (fun _ h_ => h_.1))) hb); have n4_ := Aside0.mk (blk_below (g := gb373) (o := .cells #[.int .i64 t371, .int .i64 t372] 36 (0, 0)) (by (with_reducible repeat (first | refine blk_drewN ?_ _ | refine blk_drew ?_ | refine blk_alloc ?_ _)); refine blk_far ?_ NB373_403.out _; (with_reducible repeat (first | refine blk_drewN ?_ _ | refine blk_drew ?_ | refine blk_alloc ?_ _)); refine blk_far ?_ NB373_403.out _; (with_reducible repeat (first | refine blk_drewN ?_ _ | refine blk_drew ?_ | refine blk_alloc ?_ _)); exact BK373.out) hb); have n5_ := Aside0.mk (blk_below (g := gb382) (o := .cells #[.int .i64 t380, .int .i64 t381] 36 (0, 0)) (by (with_reducible repeat (first | refine blk_drewN ?_ _ | refine blk_drew ?_ | refine blk_alloc ?_ _)); refine blk_far ?_ NB382_403.out _; (with_reducible repeat (first | refine blk_drewN ?_ _ | refine blk_drew ?_ | refine blk_alloc ?_ _)); refine blk_far ?_ NB382_403.out _; (with_reducible repeat (first | refine blk_drewN ?_ _ | refine blk_drew ?_ | refine blk_alloc ?_ _)); exact BK382.out) hb); have n6_ := Aside0.mk (blk_below (g := gb403) (o := .cells #[.int .i64 t401, .int .i64 t402] 36 (0, 0)) (by (with_reducible repeat (first | refine blk_drewN ?_ _ | refine blk_drew ?_ | refine blk_alloc ?_ _)); refine blk_put (cs := #[.int .i64 t401, .int .i64 0]) ?_ 1 _ rfl; (with_reducible repeat (first | refine blk_drewN ?_ _ | refine blk_drew ?_ | refine blk_alloc ?_ _)); refine blk_put (cs := #[.int .i64 0, .int .i64 0]) ?_ 0 _ rfl; (with_reducible repeat (first | refine blk_drewN ?_ _ | refine blk_drew ?_ | refine blk_alloc ?_ _)); exact BK403.out) hb); have n7_ := Aside0.mk (below_step (by repeat (first | (with_reducible first | exact HB.out | apply below_alloc | apply pw_below_drewN | apply below_drew1 | refine below_set ?_ GE373.out | refine below_set ?_ GE382.out | refine below_set ?_ GE403.out) | exact HB.out)) hb); clear HO_4; clear HO_7; clear HO397; clear HO400; clear BK373; clear BK382; clear BK403; clear HB; have HO_4 := n0_; have HO_7 := n1_; have HO397 := n2_; have HO400 := n3_; have BK373 := n4_; have BK382 := n5_; have BK403 := n6_; have HB := n7_; clear n0_ n1_ n2_ n3_ n4_ n5_ n6_ n7_; (try clear hb); (try clear hb2); (try clear hk); (try clear hi)))
                          go_meet
                          case rel => exact ⟨_, (!t405), (by first | rfl | (simp; done) | (simp [*]; done)), H', ⟨by have := HJ8.out; have := HJ37.out; first | omega | exact Nat.le_refl _⟩, ⟨by (with_reducible repeat (first | apply Kd.Rc_alloc | apply Kd.Rc_drewN | apply Kd.Rc_drew)); exact Kd.Rc_mono HO_7.out (fun _ hk => trivial)⟩, ⟨by (with_reducible repeat (first | refine blk_drewN ?_ _ | refine blk_drew ?_ | refine blk_alloc ?_ _)); exact BK373.out⟩, ⟨by (with_reducible repeat (first | refine blk_drewN ?_ _ | refine blk_drew ?_ | refine blk_alloc ?_ _)); exact BK382.out⟩, ⟨by (with_reducible repeat (first | refine blk_drewN ?_ _ | refine blk_drew ?_ | refine blk_alloc ?_ _)); exact BK403.out⟩, ⟨by repeat (first | (with_reducible first | exact HB.out | apply below_alloc | apply pw_below_drewN | apply below_drew1 | refine below_set ?_ GE373.out | refine below_set ?_ GE382.out | refine below_set ?_ GE403.out) | exact HB.out)⟩⟩
                        · replace c74 := Bool.eq_false_iff.mpr c74
                          subst c74
                          have H1 : (laws_FnExactPicMake.j2 kj37 t393 t392 true) = some r := by rw [if_neg (show ¬ (false = true) by decide)] at H; exact H
                          clear H
                          have H := H1
                          clear H1
                          have H' := Aside0.mk H
                          clear H
                          obtain ⟨Ao84, co84, eo84⟩ := Kd.Rc_slice HO400.out
                          subst eo84
                          obtain ⟨Ao85, co85, eo85⟩ := Kd.Rc_slice HO_4.out
                          subst eo85
                          go_wp2_with (first | ((with_reducible refine gate_callee (f := 19) rfl ?_); refine goesL_ (some 83) rfl rfl Try.func19 (by kernel_rfl) rfl #[.slice Ao84 t398.length co84, .slice Ao85 t368.length co85] rfl (by (try simp only [List.map_toArray, List.map_cons, List.map_nil]); first | done | rfl | (simp only [List.length_drop, List.length_take]; rfl)) ?_; (with_reducible refine (laws_eqByteS.calls kj37 _ _ t398 _ _ t368 false _ ?side1 ?side2 ?side3 ?side4 A73.out).mono ?_); (case side1 => refine (Kd.Rc_reads' (e := 5) (base := w.heap.size) (ok := fun k_ => ((True ∧ some k_ ≠ (.slice Ao85 t368.length co85 : Value).ownBlock) ∧ some k_ ≠ (.slice Ao64 t377.length co64 : Value).ownBlock)) (n := t398.length) (c := co84) ?_).2.2; exact (by (with_reducible repeat (first | apply Kd.Rc_alloc | apply Kd.Rc_drewN | apply Kd.Rc_drew)); exact (Kd.Rc_mono (Kd.Rc_far (p := ⟨gb403, 1, none⟩) (Kd.Rc_far (p := ⟨gb403, 0, none⟩) (Kd.Rc_types HO400.out BK403.out (by decide)) (fun _ hk => hk.2) (.int .i64 t401)) (fun _ hk => hk.2) (.int .i64 t402)) (fun _ h_ => h_.1)))); (case side2 => exact (Kd.Rc_reads' HO400.out).2.1); (case side3 => refine (Kd.Rc_reads' (e := 5) (base := w.heap.size) (ok := fun k_ => (some k_ ≠ (.slice Ao64 t377.length co64 : Value).ownBlock ∧ some k_ ≠ (.slice Ao84 t398.length co84 : Value).ownBlock)) (n := t368.length) (c := co85) ?_).2.2; exact (by (with_reducible repeat (first | apply Kd.Rc_alloc | apply Kd.Rc_drewN | apply Kd.Rc_drew)); exact (Kd.Rc_mono (Kd.Rc_far (p := ⟨gb403, 1, none⟩) (Kd.Rc_far (p := ⟨gb403, 0, none⟩) (Kd.Rc_types HO_4.out BK403.out (by decide)) (fun _ hk => hk.2) (.int .i64 t401)) (fun _ hk => hk.2) (.int .i64 t402)) (fun _ h_ => h_.1)))); (case side4 => exact (Kd.Rc_reads' HO_4.out).2.1); rintro e w' ⟨rfl, ⟨nd, rfl⟩⟩; refine ⟨_, rfl, ?_⟩))
                          go_meet
                          case rel => exact ⟨_, (true), (by first | rfl | (simp; done) | (simp [*]; done)), H', ⟨by have := HJ8.out; have := HJ37.out; first | omega | exact Nat.le_refl _⟩, ⟨by (with_reducible repeat (first | apply Kd.Rc_alloc | apply Kd.Rc_drewN | apply Kd.Rc_drew)); exact Kd.Rc_mono (Kd.Rc_far (p := ⟨gb403, 1, none⟩) (Kd.Rc_far (p := ⟨gb403, 0, none⟩) (Kd.Rc_types HO_7.out BK403.out (by decide)) (fun _ hk => hk.2) (.int .i64 t401)) (fun _ hk => hk.2) (.int .i64 t402)) (fun _ hk => trivial)⟩, ⟨by (with_reducible repeat (first | refine blk_drewN ?_ _ | refine blk_drew ?_ | refine blk_alloc ?_ _)); refine blk_far ?_ NB373_403.out _; (with_reducible repeat (first | refine blk_drewN ?_ _ | refine blk_drew ?_ | refine blk_alloc ?_ _)); refine blk_far ?_ NB373_403.out _; (with_reducible repeat (first | refine blk_drewN ?_ _ | refine blk_drew ?_ | refine blk_alloc ?_ _)); exact BK373.out⟩, ⟨by (with_reducible repeat (first | refine blk_drewN ?_ _ | refine blk_drew ?_ | refine blk_alloc ?_ _)); refine blk_far ?_ NB382_403.out _; (with_reducible repeat (first | refine blk_drewN ?_ _ | refine blk_drew ?_ | refine blk_alloc ?_ _)); refine blk_far ?_ NB382_403.out _; (with_reducible repeat (first | refine blk_drewN ?_ _ | refine blk_drew ?_ | refine blk_alloc ?_ _)); exact BK382.out⟩, ⟨by (with_reducible repeat (first | refine blk_drewN ?_ _ | refine blk_drew ?_ | refine blk_alloc ?_ _)); refine blk_put (cs := #[.int .i64 t401, .int .i64 0]) ?_ 1 _ rfl; (with_reducible repeat (first | refine blk_drewN ?_ _ | refine blk_drew ?_ | refine blk_alloc ?_ _)); refine blk_put (cs := #[.int .i64 0, .int .i64 0]) ?_ 0 _ rfl; (with_reducible repeat (first | refine blk_drewN ?_ _ | refine blk_drew ?_ | refine blk_alloc ?_ _)); exact BK403.out⟩, ⟨by repeat (first | (with_reducible first | exact HB.out | apply below_alloc | apply pw_below_drewN | apply below_drew1 | refine below_set ?_ GE373.out | refine below_set ?_ GE382.out | refine below_set ?_ GE403.out) | exact HB.out)⟩⟩
                      case rest =>
                        clear HC63
                        try clear c1
                        try clear c2
                        try clear p2
                        try clear c3
                        try clear c3b0
                        try clear c4
                        try clear c5
                        try clear c6
                        try clear c7
                        try clear c8
                        try clear c10
                        try clear c14
                        try clear c17
                        try clear c18
                        try clear c19
                        try clear c20
                        try clear c21
                        try clear c22
                        try clear c23
                        try clear c27
                        try clear c33
                        try clear c36
                        try clear c42
                        try clear c42b0
                        try clear c44
                        try clear c48
                        try clear c54
                        try clear c57
                        try clear c57b0
                        try clear c60
                        try clear c60b0
                        try clear c60b1
                        try clear c70
                        try clear c71
                        try clear c74
                        try clear c78
                        try clear c79
                        try clear c81
                        try clear hcz15_0
                        try clear hcz15_1
                        try clear hcz21_0
                        try clear hcz21_1
                        try clear hcz28_0
                        try clear hcz28_1
                        try clear hcz29_0
                        try clear hcz29_1
                        try clear hcz49_0
                        try clear hcz49_1
                        try clear hcz50_0
                        try clear hcz50_1
                        try clear hcz72_0
                        try clear hcz72_1
                        try clear hcz80_0
                        try clear hcz80_1
                        try clear hcz82_0
                        try clear hcz82_1
                        try clear hfz15_0
                        try clear hfz15_1
                        try clear hfz21_0
                        try clear hfz21_1
                        try clear hfz28_0
                        try clear hfz28_1
                        try clear hfz29_0
                        try clear hfz29_1
                        try clear hfz49_0
                        try clear hfz49_1
                        try clear hfz50_0
                        try clear hfz50_1
                        try clear hfz72_0
                        try clear hfz72_1
                        try clear hfz80_0
                        try clear hfz80_1
                        try clear hfz82_0
                        try clear hfz82_1
                        try clear p2
                        obtain ⟨kq, x90_62, rfl, HA, HJ62, HO_7, BK373, BK382, BK403, HB⟩ := hcut
                        have hl7_62 := (Kd.Rc_reads' HO_7.out).1
                        rw [hl7_62] at HO_7
                        (try simp only [hl7_62])
                        (try simp only [hl7_62] at BK373)
                        (try simp only [hl7_62] at BK382)
                        (try simp only [hl7_62] at BK403)
                        cases kq with
                        | zero => exact absurd HA.out (by simp [laws_FnExactPicMake.j2])
                        | succ kj62 =>
                          have H := HA.out
                          clear HA
                          simp only [laws_FnExactPicMake.j2] at H
                          by_cases c86 : x90_62 = true
                          · subst c86
                            have H1 : (some false) = some r := by rw [if_pos rfl] at H; exact H
                            clear H
                            have H := H1
                            clear H1
                            obtain rfl := Option.some.inj H
                            go_wp2
                            go_ret
                            exact ⟨by first | rfl | (simp [errW_none, errW_some] <;> rfl) | (simp [*, errW_none, errW_some] <;> rfl), by repeat (first | (with_reducible first | exact HB.out | apply below_alloc | apply pw_below_drewN | apply below_drew1 | refine below_set ?_ GE373.out | refine below_set ?_ GE382.out | refine below_set ?_ GE403.out) | exact HB.out)⟩
                          · replace c86 := Bool.eq_false_iff.mpr c86
                            subst c86
                            have H1 : ((laws_heldByteS.f kj62 t393 1).bind fun t406 => (if t406 < 0 then (some false) else (if t406 = t392 then (some true) else (some false)))) = some r := by rw [if_neg (show ¬ (false = true) by decide)] at H; exact H
                            clear H
                            have H := H1
                            clear H1
                            replace H := Option.bind_eq_some_iff.mp H
                            obtain ⟨t406, A870, H⟩ := H
                            replace H : (if t406 < 0 then (some false) else (if t406 = t392 then (some true) else (some false))) = some r := H
                            have A87 := Aside0.mk A870
                            clear A870
                            by_cases c88 : t406 < 0
                            · rw [if_pos c88] at H
                              have c88b0 : decide (t406 < 0) = true := decide_eq_true c88
                              clear c88
                              obtain rfl := Option.some.inj H
                              go_wp2_with (first | ((with_reducible refine gate_callee (f := 22) rfl ?_); refine goesL_ (some 93) rfl rfl Try.func22 (by kernel_rfl) rfl #[.slice Ao64 t393.length co64, .int .i64 1] rfl (by (try simp only [List.map_toArray, List.map_cons, List.map_nil]); first | done | rfl | (simp only [List.length_drop, List.length_take]; rfl)) ?_; (with_reducible refine (laws_heldByteS.calls kj62 _ _ t393 1 t406 _ ?side1 ?side2 A87.out).mono ?_); (case side1 => repeat (first | exact (Kd.Rc_reads' HO_7.out).2.2 | (with_reducible refine Kd.C_alloc ?_ _) | (with_reducible refine Kd.C_drewN ?_ _) | (with_reducible refine Kd.C_drew ?_))); (case side2 => exact (Kd.Rc_reads' HO_7.out).2.1); rintro e w' ⟨rfl, ⟨nd, rfl⟩⟩; refine ⟨_, rfl, ?_⟩))
                              go_ret
                              exact ⟨by first | rfl | (simp [errW_none, errW_some] <;> rfl) | (simp [*, errW_none, errW_some] <;> rfl), by repeat (first | (with_reducible first | exact HB.out | apply below_alloc | apply pw_below_drewN | apply below_drew1 | refine below_set ?_ GE373.out | refine below_set ?_ GE382.out | refine below_set ?_ GE403.out) | exact HB.out)⟩
                            · rw [if_neg c88] at H
                              have c88b0 : decide (t406 < 0) = false := decide_eq_false c88
                              clear c88
                              by_cases c89 : t406 = t392
                              · rw [if_pos c89] at H
                                have c89b0 : (t406 == t392) = true := beq_iff_eq.mpr c89
                                have c89b1 : (t406 != t392) = false := bne_eq_false_iff_eq.mpr c89
                                clear c89
                                obtain rfl := Option.some.inj H
                                go_wp2_with (first | ((with_reducible refine gate_callee (f := 22) rfl ?_); refine goesL_ (some 93) rfl rfl Try.func22 (by kernel_rfl) rfl #[.slice Ao64 t393.length co64, .int .i64 1] rfl (by (try simp only [List.map_toArray, List.map_cons, List.map_nil]); first | done | rfl | (simp only [List.length_drop, List.length_take]; rfl)) ?_; (with_reducible refine (laws_heldByteS.calls kj62 _ _ t393 1 t406 _ ?side1 ?side2 A87.out).mono ?_); (case side1 => repeat (first | exact (Kd.Rc_reads' HO_7.out).2.2 | (with_reducible refine Kd.C_alloc ?_ _) | (with_reducible refine Kd.C_drewN ?_ _) | (with_reducible refine Kd.C_drew ?_))); (case side2 => exact (Kd.Rc_reads' HO_7.out).2.1); rintro e w' ⟨rfl, ⟨nd, rfl⟩⟩; refine ⟨_, rfl, ?_⟩))
                                go_ret
                                exact ⟨by first | rfl | (simp [errW_none, errW_some] <;> rfl) | (simp [*, errW_none, errW_some] <;> rfl), by repeat (first | (with_reducible first | exact HB.out | apply below_alloc | apply pw_below_drewN | apply below_drew1 | refine below_set ?_ GE373.out | refine below_set ?_ GE382.out | refine below_set ?_ GE403.out) | exact HB.out)⟩
                              · rw [if_neg c89] at H
                                have c89b0 : (t406 == t392) = false := beq_eq_false_iff_ne.mpr c89
                                have c89b1 : (t406 != t392) = true := bne_iff_ne.mpr c89
                                obtain rfl := Option.some.inj H
                                go_wp2_with (first | ((with_reducible refine gate_callee (f := 22) rfl ?_); refine goesL_ (some 93) rfl rfl Try.func22 (by kernel_rfl) rfl #[.slice Ao64 t393.length co64, .int .i64 1] rfl (by (try simp only [List.map_toArray, List.map_cons, List.map_nil]); first | done | rfl | (simp only [List.length_drop, List.length_take]; rfl)) ?_; (with_reducible refine (laws_heldByteS.calls kj62 _ _ t393 1 t406 _ ?side1 ?side2 A87.out).mono ?_); (case side1 => repeat (first | exact (Kd.Rc_reads' HO_7.out).2.2 | (with_reducible refine Kd.C_alloc ?_ _) | (with_reducible refine Kd.C_drewN ?_ _) | (with_reducible refine Kd.C_drew ?_))); (case side2 => exact (Kd.Rc_reads' HO_7.out).2.1); rintro e w' ⟨rfl, ⟨nd, rfl⟩⟩; refine ⟨_, rfl, ?_⟩))
                                go_ret
                                exact ⟨by first | rfl | (simp [errW_none, errW_some] <;> rfl) | (simp [*, errW_none, errW_some] <;> rfl), by repeat (first | (with_reducible first | exact HB.out | apply below_alloc | apply pw_below_drewN | apply below_drew1 | refine below_set ?_ GE373.out | refine below_set ?_ GE382.out | refine below_set ?_ GE403.out) | exact HB.out)⟩
                    · rw [if_neg c60] at H
                      have c60b0 : (t394 == t392) = false := beq_eq_false_iff_ne.mpr c60
                      have c60b1 : (t394 != t392) = true := bne_iff_ne.mpr c60
                      obtain rfl := Option.some.inj H
                      obtain ⟨Ao90, co90, eo90⟩ := Kd.Rc_slice HO_7.out
                      subst eo90
                      go_wp2_with (first | ((with_reducible refine gate_callee (f := 21) rfl ?_); refine goesL_ (some 66) rfl rfl Try.func21 (by kernel_rfl) rfl #[.slice Ao90 t377.length co90, .int .i64 1] rfl (by (try simp only [List.map_toArray, List.map_cons, List.map_nil]); first | done | rfl | (simp only [List.length_drop, List.length_take]; rfl)) ?_; (with_reducible refine (laws_markByteS.callsC kj37 (fun k_ => some k_ = (.slice Ao90 t377.length co90 : Value).ownBlock) (.slice Ao90 t377.length co90) t377 1 t392 t393 w _ ?side1 ?side2 A55.out).mono ?_); (case side1 => repeat (first | (with_reducible first | exact HB.out | apply below_alloc | apply pw_below_drewN | apply below_drew1 | refine below_set ?_ GE373.out | refine below_set ?_ GE382.out) | exact HB.out)); (case side2 => exact Kd.Rc_tight rfl HO_7.out); rintro e w91 ⟨rfl, hy0, hb, hkp⟩; refine ⟨_, rfl, ?_⟩; have n0_ := Aside0.mk (Kd.Rc_mono (ok' := fun k_ => some k_ ≠ (.slice Ao90 t377.length co90 : Value).ownBlock) (Kd.Rc_keptB (HO_4.out) hkp (fun k_ hk_ hs_ => (hk_) hs_)) (fun k_ hk_ => hk_.1)); have n1_ := Aside0.mk (Kd.Rc_reok rfl hy0 (fun k_ e_ => HO_7.out.1 k_ e_)); have n2_ := Aside0.mk (blk_kept (by (with_reducible repeat (first | refine blk_drewN ?_ _ | refine blk_drew ?_ | refine blk_alloc ?_ _)); exact BK373.out) hkp (fun hs_ => (fun e_ => (Kd.Rc_ne HO_7.out BK373.out (by decide)) e_) hs_)); have n3_ := Aside0.mk (blk_kept (by (with_reducible repeat (first | refine blk_drewN ?_ _ | refine blk_drew ?_ | refine blk_alloc ?_ _)); exact BK382.out) hkp (fun hs_ => (fun e_ => (Kd.Rc_ne HO_7.out BK382.out (by decide)) e_) hs_)); have n4_ := Aside0.mk (hb); clear HO_4; clear HO_7; clear BK373; clear BK382; clear HB; have HO_4 := n0_; have HO_7 := n1_; have BK373 := n2_; have BK382 := n3_; have HB := n4_; clear n0_ n1_ n2_ n3_ n4_; (try clear hb); (try clear hkp); (try clear hy0)) | ((with_reducible refine gate_callee (f := 22) rfl ?_); refine goesL_ (some 69) rfl rfl Try.func22 (by kernel_rfl) rfl #[.slice Ao90 t393.length co90, .int .i64 1] rfl (by (try simp only [List.map_toArray, List.map_cons, List.map_nil]); first | done | (rw [show t393.length = t377.length from (Kd.Rc_reads' HO_7.out).1.symm] <;> rfl) | rfl | (simp only [List.length_drop, List.length_take]; rfl)) ?_; (with_reducible refine (laws_heldByteS.calls kj37 _ _ t393 1 t394 _ ?side1 ?side2 A56.out).mono ?_); (case side1 => repeat (first | exact (Kd.Rc_reads' HO_7.out).2.2 | (with_reducible refine Kd.C_alloc ?_ _) | (with_reducible refine Kd.C_drewN ?_ _) | (with_reducible refine Kd.C_drew ?_))); (case side2 => rw [show t393.length = t377.length from (Kd.Rc_reads' HO_7.out).1.symm]; exact (Kd.Rc_reads' HO_7.out).2.1); rintro e w' ⟨rfl, ⟨nd, rfl⟩⟩; refine ⟨_, rfl, ?_⟩))
                      go_ret
                      exact ⟨by first | rfl | (simp [errW_none, errW_some] <;> rfl) | (simp [*, errW_none, errW_some] <;> rfl), by repeat (first | (with_reducible first | exact HB.out | apply below_alloc | apply pw_below_drewN | apply below_drew1 | refine below_set ?_ GE373.out | refine below_set ?_ GE382.out) | exact HB.out)⟩
          · replace c36 := Bool.eq_false_iff.mpr c36
            subst c36
            have H1 : (some false) = some r := by rw [if_neg (show ¬ (false = true) by decide)] at H; exact H
            clear H
            have H := H1
            clear H1
            obtain rfl := Option.some.inj H
            go_wp2_with (first | ((with_reducible refine gate_callee (f := 8) rfl ?_); refine goesL_ (some 44) rfl rfl Try.func8 (by kernel_rfl) rfl #[.slice A0 l0.length c0] rfl (by (try simp only [List.map_toArray, List.map_cons, List.map_nil]); first | done | rfl | (simp only [List.length_drop, List.length_take]; rfl)) ?_; (with_reducible refine (laws_toInstS.calls kj8 _ _ l0 t385 _ ?side1 ?side2 A34.out).mono ?_); (case side1 => repeat (first | exact (Kd.C_below HR0.out HB.out) | (with_reducible refine Kd.C_alloc ?_ _) | (with_reducible refine Kd.C_drewN ?_ _) | (with_reducible refine Kd.C_drew ?_))); (case side2 => exact HC0.out); rintro e w92 ⟨v386, rfl, ho0, hb⟩; refine ⟨_, rfl, ?_⟩; have n0_ := Aside0.mk (Kd.Rc_below (by (with_reducible repeat (first | apply Kd.Rc_alloc | apply Kd.Rc_drewN | apply Kd.Rc_drew)); exact HO_4.out) hb); have n1_ := Aside0.mk (Kd.S_elder' (by (with_reducible repeat (first | apply Kd.S_alloc | apply Kd.S_drewN | apply Kd.S_drew)); exact HO_6.out) (Kd.S_base ho0) hb); have n2_ := Aside0.mk (Kd.Rc_below (by (with_reducible repeat (first | apply Kd.Rc_alloc | apply Kd.Rc_drewN | apply Kd.Rc_drew)); exact HO_7.out) hb); have n3_ := Aside0.mk (Kd.S_lower (Kd.S_new' ho0 (Kd.S_lt (by (with_reducible repeat (first | apply Kd.S_alloc | apply Kd.S_drewN | apply Kd.S_drew)); exact HO_6.out))) (below_size (by repeat (first | (with_reducible first | exact HB.out | apply below_alloc | apply pw_below_drewN | apply below_drew1 | refine below_set ?_ GE373.out | refine below_set ?_ GE382.out) | exact HB.out)))); have n4_ := Aside0.mk (blk_below (g := gb373) (o := .cells #[.int .i64 t371, .int .i64 t372] 36 (0, 0)) (by (with_reducible repeat (first | refine blk_drewN ?_ _ | refine blk_drew ?_ | refine blk_alloc ?_ _)); exact BK373.out) hb); have n5_ := Aside0.mk (blk_below (g := gb382) (o := .cells #[.int .i64 t380, .int .i64 t381] 36 (0, 0)) (by (with_reducible repeat (first | refine blk_drewN ?_ _ | refine blk_drew ?_ | refine blk_alloc ?_ _)); exact BK382.out) hb); have n6_ := Aside0.mk (below_step (by repeat (first | (with_reducible first | exact HB.out | apply below_alloc | apply pw_below_drewN | apply below_drew1 | refine below_set ?_ GE373.out | refine below_set ?_ GE382.out) | exact HB.out)) hb); clear HO_4; clear HO_6; clear HO_7; clear BK373; clear BK382; clear HB; have HO_4 := n0_; have HO_6 := n1_; have HO_7 := n2_; have HO387 := n3_; have BK373 := n4_; have BK382 := n5_; have HB := n6_; clear n0_ n1_ n2_ n3_ n4_ n5_ n6_; (try clear hb); (try clear hb2); (try clear hk); (try clear hi); (try clear ho0); obtain ⟨Ao93, co93, eo93⟩ := Kd.S_slice HO387.out; subst eo93) | ((with_reducible refine gate_callee (f := 10) rfl ?_); refine goesL_ (some 45) rfl rfl Try.func10 (by kernel_rfl) rfl #[.slice Ao17 t374.length co17, .slice Ao93 t385.length co93] rfl (by (try simp only [List.map_toArray, List.map_cons, List.map_nil]); first | done | rfl | (simp only [List.length_drop, List.length_take]; rfl)) ?_; (with_reducible refine (laws_eqInstS.calls kj8 _ _ t374 _ _ t385 false _ ?side1 ?side2 ?side3 ?side4 A35.out).mono ?_); (case side1 => repeat (first | exact (Kd.S_reads' HO_6.out).2.2 | (with_reducible refine Kd.C_alloc ?_ _) | (with_reducible refine Kd.C_drewN ?_ _) | (with_reducible refine Kd.C_drew ?_))); (case side2 => exact (Kd.S_reads' HO_6.out).2.1); (case side3 => repeat (first | exact (Kd.S_reads' HO387.out).2.2 | (with_reducible refine Kd.C_alloc ?_ _) | (with_reducible refine Kd.C_drewN ?_ _) | (with_reducible refine Kd.C_drew ?_))); (case side4 => exact (Kd.S_reads' HO387.out).2.1); rintro e w94 ⟨rfl, hb⟩; refine ⟨_, rfl, ?_⟩; have n0_ := Aside0.mk (Kd.Rc_below (by (with_reducible repeat (first | apply Kd.Rc_alloc | apply Kd.Rc_drewN | apply Kd.Rc_drew)); exact HO_4.out) hb); have n1_ := Aside0.mk (Kd.S_below (by (with_reducible repeat (first | apply Kd.S_alloc | apply Kd.S_drewN | apply Kd.S_drew)); exact HO_6.out) hb); have n2_ := Aside0.mk (Kd.Rc_below (by (with_reducible repeat (first | apply Kd.Rc_alloc | apply Kd.Rc_drewN | apply Kd.Rc_drew)); exact HO_7.out) hb); have n3_ := Aside0.mk (Kd.S_below (by (with_reducible repeat (first | apply Kd.S_alloc | apply Kd.S_drewN | apply Kd.S_drew)); exact HO387.out) hb); have n4_ := Aside0.mk (blk_below (g := gb373) (o := .cells #[.int .i64 t371, .int .i64 t372] 36 (0, 0)) (by (with_reducible repeat (first | refine blk_drewN ?_ _ | refine blk_drew ?_ | refine blk_alloc ?_ _)); exact BK373.out) hb); have n5_ := Aside0.mk (blk_below (g := gb382) (o := .cells #[.int .i64 t380, .int .i64 t381] 36 (0, 0)) (by (with_reducible repeat (first | refine blk_drewN ?_ _ | refine blk_drew ?_ | refine blk_alloc ?_ _)); exact BK382.out) hb); have n6_ := Aside0.mk (below_step (by repeat (first | (with_reducible first | exact HB.out | apply below_alloc | apply pw_below_drewN | apply below_drew1 | refine below_set ?_ GE373.out | refine below_set ?_ GE382.out) | exact HB.out)) hb); clear HO_4; clear HO_6; clear HO_7; clear HO387; clear BK373; clear BK382; clear HB; have HO_4 := n0_; have HO_6 := n1_; have HO_7 := n2_; have HO387 := n3_; have BK373 := n4_; have BK382 := n5_; have HB := n6_; clear n0_ n1_ n2_ n3_ n4_ n5_ n6_; (try clear hb); (try clear hb2); (try clear hk); (try clear hi)))
            go_ret
            exact ⟨by first | rfl | (simp [errW_none, errW_some] <;> rfl) | (simp [*, errW_none, errW_some] <;> rfl), by repeat (first | (with_reducible first | exact HB.out | apply below_alloc | apply pw_below_drewN | apply below_drew1 | refine below_set ?_ GE373.out | refine below_set ?_ GE382.out) | exact HB.out)⟩

end Go.Proofs.Ytpehcdeaboagbaa.Q
