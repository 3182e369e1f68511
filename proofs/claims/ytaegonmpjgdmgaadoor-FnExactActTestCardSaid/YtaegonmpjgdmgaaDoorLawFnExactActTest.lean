/- The statement 'FnExactActTest' of this seat, a tied card: for every input that can be read, where the tables devSizes and devWords read as the program's text lays them, the law returns true and its arguments read behind the call as they read before; the tables are tied to the program's text. -/
import Derived.Test.YtaegonmpjgdmgaaDoorRows
import Derived.Test.YtaegonmpjgdmgaaDoorTie
import Derived.Test.YtaegonmpjgdmgaaDoorCards
import Derived.Test.YtaegonmpjgdmgaaDoorOI
import Derived.Test.YtaegonmpjgdmgaaDoorOzOpen
import Derived.WalkKit
import Derived.ProofKit
import Derived.OpenShut
import Derived.ShutString
import Derived.ChangeOld
import Derived.ChangeVars
import Derived.Below
import Derived.SizedLaws
import Derived.SliceStrings
import Derived.Lib.LaidU8
import Derived.Lib.SmallJoins
import Derived.SevenTiedAt
import Derived.LaidHandle
import Derived.LaidMore
namespace Go.Proofs.YtaegonmpjgdmgaaDoor.fnExactActTest
open Go.ChangeShapes Go.WideShapes Go.ChangeAt Go.RowKit Go.Joins Go.Proofs.YtaegonmpjgdmgaaDoor.Opening Go.Proofs.YtaegonmpjgdmgaaDoorW.PrintWords Go.Proofs.YtaegonmpjgdmgaaDoor.F
open Go.ChangeMaps (open_string shut_string)
set_option linter.unusedVariables false
theorem own : ownKnob Tryd.prog.godebug = none := by kernel_rfl
theorem laidOut : laidOutB Tryd.prog = true := by kernel_rfl
abbrev laid2 : List (String × DataW Unit) := [("loop.example/stile/impl.devSizes", Rows.laid_loop_example_stile_impl_devSizes), ("loop.example/stile/impl.devWords", Rows.laid_loop_example_stile_impl_devWords)]
theorem gVar0 : Tryd.prog.globalNamed "loop.example/stile/impl.devSizes" = some 0 := by kernel_rfl
theorem gType0 : (Tryd.prog.globals[0]?).map (·.type) = some 118 := by kernel_rfl
theorem gVar1 : Tryd.prog.globalNamed "loop.example/stile/impl.devWords" = some 2 := by kernel_rfl
theorem gType1 : (Tryd.prog.globals[2]?).map (·.type) = some 123 := by kernel_rfl
theorem door_met (os : Os) (args : Array Value) : laidMetH Tryd.prog laid2 ((World.doorLaid Tryd.prog 19 os).forCall (fun _ _ => 0) ⟨#[], args, []⟩).memory :=
  laidMetH_of_parts3 (fuel := 8) (laidMet_of_run' 8 (by kernel_rfl) (by kernel_rfl)) (by kernel_rfl) (by kernel_rfl)
theorem inj : ∀ a b : List Int, lits (H := Unit) .i64 a = lits .i64 b → a = b := by
  intro a
  induction a with
  | nil => intro b hb; cases b with
    | nil => rfl
    | cons y b => simp [lits] at hb
  | cons x a ih => intro b hb; cases b with
    | nil => simp [lits] at hb
    | cons y b =>
      simp only [lits, List.map_cons, List.cons.injEq] at hb
      rw [ih b hb.2]
      congr 1
      simpa using hb.1
theorem of_laid {W : World} (h : laidMetH Tryd.prog laid2 W) (h0 : 0 < W.heap.size) (h1 : 2 < W.heap.size) : TB.Tab W := by
  have h' : laidMet Tryd.prog laid2 W := h
  obtain ⟨g, t, cs, fuel, p, hg, ht, hv, hd⟩ := Lib.laidMet.reads h' (.head _)
  obtain ⟨g', t', cs', fuel', p', hg', ht', hv', hd'⟩ := Lib.laidMet.reads h' (.tail _ (.head _))
  obtain rfl := Option.some.inj (gVar0.symm.trans hg)
  obtain rfl := Option.some.inj (gType0.symm.trans ht)
  obtain rfl := Option.some.inj (gVar1.symm.trans hg')
  obtain rfl := Option.some.inj (gType1.symm.trans ht')
  have hw : ∃ A c, W.cell? ⟨2, 0, none⟩ = some (.slice A 4 c) := by
    rcases open_strings Tryd.underlying123 Tryd.underlying9 (by kernel_rfl) hd' with ⟨_, hx⟩ | ⟨a, len, cap, ss, hcs, hb, hl, hm, hss, hx, hcell, hsz⟩
    · simp [Rows.laid_loop_example_stile_impl_devWords] at hx
    · simp only [Prod.mk.injEq, Rows.laid_loop_example_stile_impl_devWords, DataW.slice.injEq] at hx
      obtain ⟨⟨e1, e2⟩, _⟩ := hx
      have hlen : len = ss.length := by
        have := congrArg List.length e2
        simp [strs] at this
        simp at hss
        omega
      have h4 : len = 4 := by
        have := congrArg List.length e1
        simp [strs] at this
        omega
      subst h4
      have := World.var?_cell hg' hv' 0
      rw [Array.eq_one_of_toList hcs] at this
      exact ⟨_, _, by simpa using this⟩
  rcases open_ints Tryd.underlying118 Tryd.underlying3 (by kernel_rfl) hd with ⟨_, hx⟩ | ⟨a, len, cap, zs, hcs, hb, hl, hm, hz, hx, hcell, hwf⟩
  · simp [Rows.laid_loop_example_stile_impl_devSizes] at hx
  · simp only [Prod.mk.injEq, Rows.laid_loop_example_stile_impl_devSizes, DataW.slice.injEq] at hx
    obtain ⟨⟨e1, e2⟩, _⟩ := hx
    have hlen : zs.length = len := by
      have := congrArg List.length e2
      simp [lits] at this
      simp at hz
      omega
    have h11 : len = 11 := by
      have := congrArg List.length e1
      simp [lits] at this
      omega
    have hall : zs = TB.devSizes := by
      rw [List.take_of_length_le (by omega)] at e1
      have e3 : lits (H := Unit) .i64 zs = lits .i64 TB.devSizes := by rw [← e1]; rfl
      exact inj _ _ e3
    obtain ⟨b, off, spot⟩ := a
    have hc0 := hcell 0 (by omega)
    have hspot : spot = none := by simpa [Addr.add] using World.cell?_spot hc0
    subst hspot
    refine ⟨⟨b, off, cap, ?_, fun i hi => ?_, ?_, h0⟩, hw, h1⟩
    · have := World.var?_cell hg hv 0
      rw [Array.eq_one_of_toList hcs] at this
      rw [h11] at this
      simpa using this
    · have := hcell i (by omega)
      rw [hall] at this
      have hadd : (⟨b, off, none⟩ : Addr).add i = ⟨b, off + i, none⟩ := by unfold Addr.add; split <;> simp_all
      rw [hadd] at this
      exact this
    · exact World.block_lt_of_cell? _ _ hc0
theorem var?_below {P : Program} {B g : Nat} {W W' : World} {n : String} {cs : Array Value} (h : Below B W W') (hg : P.globalNamed n = some g) (hgB : g < B) (hv : W.var? P n = some cs) : W'.var? P n = some cs := by
  simp only [World.var?, hg, Option.bind_some] at hv ⊢
  rw [h.block g hgB]
  exact hv
set_option maxRecDepth 100000 in
theorem lifted (os : Os) (started : os.Started) (H : Type) (enc : TypeId × Value → H) :
    ReturnsInHanded {} Tryd.checked os 3 .any (fun w args => (Rows.fnExactActTestSpec.pre enc Tryd.prog Tryd.f3 [] false w args ∧ laidMetH Tryd.prog laid2 w) ∧ sizedMet enc Tryd.prog Tryd.f3 (OpenSpec.ofChange Rows.fnExactActTestSpec) false w args)
      (Rows.fnExactActTestSpec.post enc Tryd.prog Tryd.f3 false true false false) := by
  refine returnsInHanded_of_change_and (C := Tryd.checked) (X := fun w _ => laidMetH Tryd.prog laid2 w) (fun _ _ _ hh h => h.of_heap hh) own started (by kernel_rfl) Tryd.func3
    (ChangeSpec.witness_shaped (enc := enc) (C := Tryd.checked) (os := os) (X := fun w _ => laidMetH Tryd.prog laid2 w) false (World.doorLaid Tryd.prog 19 os) #[.agg (Go.Proofs.YtaegonmpjgdmgaaDoor.MW.mc Go.Proofs.YtaegonmpjgdmgaaDoor.MW.zm), .agg #[.int .i64 0, .slice none 0 0]] 8 rfl (World.shaped_of_RefB (by kernel_rfl) (by kernel_rfl)) (by kernel_rfl) (by kernel_rfl) (by kernel_rfl) (door_met os _)) ?_
  intro W base args ds gs before hval0 hW _ _ hL _
  have hval : ∀ (j : Nat) t v, Tryd.f3.params[j]? = some t → args[j]? = some v → Value.okWide Tryd.prog W .any base t v := hval0
  have hW' := hW
  obtain ⟨p, q, hA0, hV0, rfl, hfz, hnd⟩ := hW
  have hA : DataW.TrodAll enc Tryd.prog W 0 (fun _ => true) true Tryd.f3.params.toList args.toList ds p := hA0
  have hV : DataW.TrodVars enc Tryd.prog W (fun _ => true) ["loop.example/stile/impl.devSizes", "loop.example/stile/impl.devWords"] gs q := hV0
  rw [Tryd.params3] at hA hval
  obtain ⟨v0, vs0, d0, ds0, p0, q0, hargs, rfl, rfl, h0, r0⟩ := trodAll_cons hA
  obtain ⟨v1, vs1, d1, ds1, p1, q1, rfl, rfl, rfl, h1, r1⟩ := trodAll_cons r0
  obtain ⟨rfl, rfl, rfl⟩ := trodAll_nil r1
  obtain rfl : args = #[v0, v1] := by cases args; simp_all
  have k0 := h0
  have lt0 : ∀ x ∈ p0, x.block < W.heap.size := by obtain ⟨m, hm⟩ := k0; exact DataW.trod_lt m _ _ _ hm
  have k1 := h1
  have lt1 : ∀ x ∈ p1, x.block < W.heap.size := by obtain ⟨m, hm⟩ := k1; exact DataW.trod_lt m _ _ _ hm
  obtain ⟨ga, ta, ca, fa, da, pa, gb, tb, cb, fb, db, pb, rfl, hga, hta, hva, hda, hgb, htb, hvb, hdb, rfl⟩ := trodVars_two hV
  obtain rfl := Option.some.inj (gVar0.symm.trans hga)
  obtain rfl := Option.some.inj (gType0.symm.trans hta)
  obtain rfl := Option.some.inj (gVar1.symm.trans hgb)
  obtain rfl := Option.some.inj (gType1.symm.trans htb)
  clear hA0 hV0 hval0 hA hV
  obtain ⟨a0, rfl, w0⟩ := Go.Proofs.YtaegonmpjgdmgaaDoor.MW.open_mc Tryd.underlying36 (by kernel_rfl) (by kernel_rfl) (hval 0 36 v0 rfl rfl)
  obtain ⟨a1, A1_1, c1_1, rfl, l1_1, g1_1, ok1⟩ : ∃ a : Int × List S96, ∃ A1 c1, v1 = .agg #[.int .i64 a.1, .slice A1 a.2.length c1] ∧ a.2.length ≤ c1 ∧ Kd.C k96 W A1 a.2.length a.2 ∧ ((Lit.int .i64 a.1).wf = true ∧ (a.2.length ≤ maxLen ∧ ∀ x1 ∈ a.2, ((Lit.int .i64 x1.f0).wf = true ∧ ((Lit.int .i64 x1.f1).wf = true ∧ (Lit.int .i64 x1.f2).wf = true)))) := by
    obtain ⟨a, cs, rfl, hK, hok⟩ := open_agg Tryd.underlying39 (hval 1 39 v1 rfl rfl) h1 (fun m => (At_struct m Tryd.underlying39 (by kernel_rfl) (FieldsAt.cons rfl (by kernel_rfl) (At.int m Tryd.underlying3) (FieldsAt.one rfl (by kernel_rfl) (At_slice m 96 Tryd.underlying37 (by kernel_rfl) (show At _ _ _ m 96 k96 _ from At.iso (fun a => (⟨a.1, a.2.1, a.2.2⟩ : S96)) (fun _ => rfl) (At_struct m Tryd.underlying96 (by kernel_rfl) (FieldsAt.cons rfl (by kernel_rfl) (At.int m Tryd.underlying3) (FieldsAt.cons rfl (by kernel_rfl) (At.int m Tryd.underlying3) (FieldsAt.one rfl (by kernel_rfl) (At.int m Tryd.underlying3)))))))))))
    obtain ⟨cs⟩ := cs
    obtain ⟨_, _, rfl, rfl, ⟨A1, c1, rfl, l1, g1⟩⟩ := hK
    exact ⟨a, A1, c1, rfl, l1, g1, hok⟩
  have hlt : ∀ x ∈ MemPlace.row ⟨0, 0, none⟩ ca.size ++ pa ++ (MemPlace.row ⟨2, 0, none⟩ cb.size ++ pb), x.block < W.heap.size := fun x hx => hW'.lt x (List.mem_append_right _ hx)
  have hpa : ∀ x ∈ pa, x.block < W.heap.size := fun x hx => hlt x (List.mem_append_left _ (List.mem_append_right _ hx))
  have hpb : ∀ x ∈ pb, x.block < W.heap.size := fun x hx => hlt x (List.mem_append_right _ (List.mem_append_right _ hx))
  obtain ⟨ua, hca, hona⟩ : ∃ u, ca = #[u] ∧ (Value.cells u).toList = [u] := by
    rcases open_ints Tryd.underlying118 Tryd.underlying3 (by kernel_rfl) hda with ⟨h1, _⟩ | ⟨a, len, cap, ss, h1, _⟩
    · exact ⟨_, Array.eq_one_of_toList h1, rfl⟩
    · exact ⟨_, Array.eq_one_of_toList h1, rfl⟩
  obtain ⟨ub, hcb, honb⟩ : ∃ u, cb = #[u] ∧ (Value.cells u).toList = [u] := by
    rcases open_strings Tryd.underlying123 Tryd.underlying9 (by kernel_rfl) hdb with ⟨h1, _⟩ | ⟨a, len, cap, ss, h1, _⟩
    · exact ⟨_, Array.eq_one_of_toList h1, rfl⟩
    · exact ⟨_, Array.eq_one_of_toList h1, rfl⟩
  subst hca hcb
  have hg0lt : 0 < W.heap.size := hlt (.cell 0 0) (List.mem_append_left _ (List.mem_append_left _ (MemPlace.mem_row.2 ⟨0, by simp, rfl⟩)))
  have hg1lt : 2 < W.heap.size := hlt (.cell 2 0) (List.mem_append_right _ (List.mem_append_left _ (MemPlace.mem_row.2 ⟨0, by simp, rfl⟩)))
  refine (K.law_FnExactActTest a0 w0 a1.1 A1_1 c1_1 a1.2 W (of_laid hL hg0lt hg1lt) g1_1 l1_1 ok1.2.1).mono fun e W' h_ => ?_
  obtain ⟨_, he, hv_, bel⟩ := h_
  subst hv_
  subst he
  obtain ⟨fa', hda'⟩ := Below.trod laidOut (by kernel_rfl) (of_decide_eq_true (by kernel_rfl)) (v := ua) (⟨fa, by rw [hona]; simpa using hda⟩ : DataW.Trod enc Tryd.prog W 0 (fun _ => true) true 118 ua da pa) bel hpa
  obtain ⟨fb', hdb'⟩ := Below.trod laidOut (by kernel_rfl) (of_decide_eq_true (by kernel_rfl)) (v := ub) (⟨fb, by rw [honb]; simpa using hdb⟩ : DataW.Trod enc Tryd.prog W 0 (fun _ => true) true 123 ub db pb) bel hpb
  have hvb' := trodVars_mk1 (enc := enc) (spare := fun b => decide (b < W.heap.size)) hgb htb (var?_below bel hgb hg1lt hvb) (by rw [honb] at hdb'; simpa using hdb')
  have hv' : DataW.TrodVars enc Tryd.prog W' (fun b => decide (b < W.heap.size)) ["loop.example/stile/impl.devSizes", "loop.example/stile/impl.devWords"] [da, db] (MemPlace.row ⟨0, 0, none⟩ (#[ua] : Array Value).size ++ pa ++ (MemPlace.row ⟨2, 0, none⟩ (#[ub] : Array Value).size ++ pb)) :=
    ⟨0, 118, #[ua], fa', pa, _, hga, hta, var?_below bel hga hg0lt hva, by rw [hona] at hda'; simpa using hda', hvb', rfl⟩
  exact ⟨_, rfl, _, _, _, [], _, _, hW', trodAll_mk1 (shut_bool Tryd.underlying4 _), (trodAll_cons_mk (Below.trod laidOut (by kernel_rfl) (of_decide_eq_true (by kernel_rfl)) k0 bel lt0) (trodAll_cons_mk (Below.trod laidOut (by kernel_rfl) (of_decide_eq_true (by kernel_rfl)) k1 bel lt1) trodAll_mk0)), hv', bel.frame _, fun h => by cases h⟩
theorem over : Rows.fnExactActTestRow.holds Tryd.pinned (OpenSpec.ofChange Rows.fnExactActTestSpec) :=
  OpenClaim.holds_of_wide 3 Tryd.f3 rfl rfl rfl rfl rfl rfl rfl ⟨rfl, rfl, rfl, rfl, rfl⟩ rfl rfl rfl rfl rfl (by kernel_rfl) Tryd.func3 (by kernel_rfl)
    (of_decide_eq_true (by kernel_rfl)) (by unfold Func.isWrapper; first | (rw [if_pos (by decide +kernel)]; kernel_rfl) | (rw [if_neg (by decide +kernel)]; exact ⟨rfl, rfl⟩))
    (fun os started H enc _ => lifted os started H enc)
theorem card : Rows.FnExactActTestCardSaid :=
  Claim7.holds_tied_plain_at .later [] [.data, .widerDeep] true (true, "8c247e62aeff27cda096c0749cda341d1a6a55d65785c2fb18579466739949eb") false
    over (fun _ h => by cases h) (by kernel_rfl) (fun _ h => by cases h) fnExactActTest_row_tie rfl ⟨rfl, rfl⟩ (by kernel_rfl) rfl
    (fun f fn hf hfn => by
      obtain rfl : f = 3 := Option.some.inj ((show Tryd.prog.funcNamed "loop.example/stile/laws.FnExactActTest" = some 3 by kernel_rfl).symm.trans hf) |>.symm
      obtain rfl : fn = Tryd.f3 := (Option.some.inj (Tryd.func3.symm.trans hfn)).symm
      exact ⟨by kernel_rfl, fun j t ht => by
        rw [Tryd.params3] at ht
        match j, ht with
        | 0, ht => simp at ht; subst ht; exact (show Tryd.prog.wantsStandIn 36 = false by kernel_rfl)
        | 1, ht => simp at ht; subst ht; exact (show Tryd.prog.wantsStandIn 39 = false by kernel_rfl)
        | _ + 2, ht => simp at ht⟩)
    (by kernel_rfl)
#print axioms card
end Go.Proofs.YtaegonmpjgdmgaaDoor.fnExactActTest
namespace Go.Proofs.YtaegonmpjgdmgaaDoor
/-- The card, under a short name, for the claim. -/
theorem fnExactActTest_holds : Rows.FnExactActTestCardSaid := fnExactActTest.card
end Go.Proofs.YtaegonmpjgdmgaaDoor
