/- The statement 'FnExactListWord' of this seat, a tied card: for every input that can be read, where listWords reads as the program's text lays it, the law returns true and its arguments read behind the call as they read before; the table is tied to the program's text. -/
import Derived.Test.YtoeijldmebocmaaDoorRows
import Derived.Test.YtoeijldmebocmaaDoorTie
import Derived.Test.YtoeijldmebocmaaDoorCards
import Derived.Test.YtoeijldmebocmaaDoorLW
import Derived.WalkKit
import Derived.ProofKit
import Derived.OpenShut
import Derived.ChangeOld
import Derived.ChangeVars
import Derived.Below
import Derived.SizedLaws
import Derived.SliceStrings
import Derived.Lib.LaidU8
import Derived.Lib.SmallJoins
import Derived.SevenTiedAt
import Derived.LaidHandle
import Derived.LaidMore
namespace Go.Proofs.YtoeijldmebocmaaDoor.fnExactListWord
open Go.ChangeShapes Go.WideShapes Go.ChangeAt Go.RowKit Go.Joins
set_option linter.unusedVariables false
theorem own : ownKnob Tryd.prog.godebug = none := by kernel_rfl
theorem laidOut : laidOutB Tryd.prog = true := by kernel_rfl
abbrev laid1 : List (String × DataW Unit) := [("loop.example/stile/impl.listWords", Rows.laid_loop_example_stile_impl_listWords)]
theorem gVar : Tryd.prog.globalNamed "loop.example/stile/impl.listWords" = some 0 := by kernel_rfl
theorem gType : (Tryd.prog.globals[0]?).map (·.type) = some 24 := by kernel_rfl
theorem door_met (os : Os) (args : Array Value) : laidMetH Tryd.prog laid1 ((World.doorLaid Tryd.prog 14 os).forCall (fun _ _ => 0) ⟨#[], args, []⟩).memory :=
  laidMetH_of_parts3 (fuel := 8) (laidMet_of_run' 8 (by kernel_rfl) (by kernel_rfl)) (by kernel_rfl) (by kernel_rfl)
theorem of_laid {W : World} (h : laidMetH Tryd.prog laid1 W) (h0 : 0 < W.heap.size) : K.Tab W := by
  have h' : laidMet Tryd.prog laid1 W := h
  obtain ⟨g, t, cs, fuel, p, hg, ht, hv, hd⟩ := Lib.laidMet.reads h' (List.mem_singleton.2 rfl)
  obtain rfl := Option.some.inj (gVar.symm.trans hg)
  obtain rfl := Option.some.inj (gType.symm.trans ht)
  rcases open_strings Tryd.underlying24 Tryd.underlying9 (by kernel_rfl) hd with ⟨_, hx⟩ | ⟨a, len, cap, ss, hcs, hb, hl, hm, hss, hx, hcell, hsz⟩
  · simp [Rows.laid_loop_example_stile_impl_listWords] at hx
  · simp only [Prod.mk.injEq, Rows.laid_loop_example_stile_impl_listWords, DataW.slice.injEq] at hx
    obtain ⟨⟨e1, e2⟩, _⟩ := hx
    have hlen : len = ss.length := by
      have := congrArg List.length e2
      simp [strs] at this
      simp at hss
      omega
    have hss12 : ss.length = 12 := by
      have := congrArg List.length e1
      simp [strs] at this
      omega
    have hall : ss = K.lws := by
      have e3 : strs (H := Unit) ss = strs K.lws := by
        rw [List.take_of_length_le (by omega)] at e1
        rw [← e1]
        rfl
      apply List.ext_getElem?
      intro i
      have e4 := congrArg (·[i]?) e3
      simp only [strs, List.getElem?_map] at e4
      cases h1 : ss[i]? with
      | none => rw [h1] at e4; cases h2 : K.lws[i]? with
        | none => rfl
        | some y => rw [h2] at e4; simp at e4
      | some x => rw [h1] at e4; cases h2 : K.lws[i]? with
        | none => rw [h2] at e4; simp at e4
        | some y =>
          rw [h2] at e4
          simp at e4
          congr 1
          cases x; cases y
          simp at e4
          simp [e4]
    obtain ⟨b, off, spot⟩ := a
    have hc0 := hcell 0 (by omega)
    have hspot : spot = none := by simpa [Addr.add] using World.cell?_spot hc0
    subst hspot
    refine ⟨b, off, cap, ?_, fun i hi => ?_, ?_, h0⟩
    · have := World.var?_cell hg hv 0
      rw [Array.eq_one_of_toList hcs] at this
      rw [hlen, hss12] at this
      simpa using this
    · have := hcell i (by omega)
      rw [hall] at this
      have hadd : (⟨b, off, none⟩ : Addr).add i = ⟨b, off + i, none⟩ := by unfold Addr.add; split <;> simp_all
      rw [hadd] at this
      exact this
    · exact World.block_lt_of_cell? _ _ hc0
theorem var?_below {P : Program} {B g : Nat} {W W' : World} {n : String} {cs : Array Value} (h : Below B W W') (hg : P.globalNamed n = some g) (hgB : g < B) (hv : W.var? P n = some cs) : W'.var? P n = some cs := by
  simp only [World.var?, hg, Option.bind_some] at hv ⊢
  rw [h.block g hgB]
  exact hv
set_option maxRecDepth 100000 in
theorem lifted (os : Os) (started : os.Started) (H : Type) (enc : TypeId × Value → H) :
    ReturnsInHanded {} Tryd.checked os 3 .any (fun w args => (Rows.fnExactListWordSpec.pre enc Tryd.prog Tryd.f3 [] false w args ∧ laidMetH Tryd.prog laid1 w) ∧ sizedMet enc Tryd.prog Tryd.f3 (OpenSpec.ofChange Rows.fnExactListWordSpec) false w args)
      (Rows.fnExactListWordSpec.post enc Tryd.prog Tryd.f3 false true false false) := by
  refine returnsInHanded_of_change_and (C := Tryd.checked) (X := fun w _ => laidMetH Tryd.prog laid1 w) (fun _ _ _ hh h => h.of_heap hh) own started (by kernel_rfl) Tryd.func3
    (ChangeSpec.witness_shaped (enc := enc) (C := Tryd.checked) (os := os) (X := fun w _ => laidMetH Tryd.prog laid1 w) false (World.doorLaid Tryd.prog 14 os) #[.int .i64 0] 8 rfl (World.shaped_of_RefB (by kernel_rfl) (by kernel_rfl)) (by kernel_rfl) (by kernel_rfl) (by kernel_rfl) (door_met os _)) ?_
  intro W base args ds gs before hval0 hW _ _ hL _
  have hval : ∀ (j : Nat) t v, Tryd.f3.params[j]? = some t → args[j]? = some v → Value.okWide Tryd.prog W .any base t v := hval0
  have hW' := hW
  obtain ⟨p, q, hA0, hV0, rfl, hfz, hnd⟩ := hW
  have hA : DataW.TrodAll enc Tryd.prog W 0 (fun _ => true) true Tryd.f3.params.toList args.toList ds p := hA0
  have hV : DataW.TrodVars enc Tryd.prog W (fun _ => true) ["loop.example/stile/impl.listWords"] gs q := hV0
  rw [Tryd.params3] at hA hval
  obtain ⟨v0, d0, rfl, rfl, h0⟩ := trodAll_one hA
  obtain ⟨g, t, cs, fuel, d, p', rfl, hg, ht, hvar, hd, rfl⟩ := trodVars_one hV
  obtain rfl := Option.some.inj (gVar.symm.trans hg)
  obtain rfl := Option.some.inj (gType.symm.trans ht)
  obtain ⟨c, rfl, rfl, rfl, wc⟩ := open_int Tryd.underlying3 (hval 0 3 v0 rfl rfl) h0
  clear hA0 hV0 hval0 hA hV
  have hltv : ∀ x ∈ p', x.block < W.heap.size := fun x hx => hW'.lt x (List.mem_append_right _ (List.mem_append_right _ hx))
  obtain ⟨u, hcs⟩ : ∃ u, cs = #[u] := by
    rcases open_strings Tryd.underlying24 Tryd.underlying9 (by kernel_rfl) hd with ⟨h1, _⟩ | ⟨a, len, cap, ss, h1, _⟩
    · exact ⟨_, Array.eq_one_of_toList h1⟩
    · exact ⟨_, Array.eq_one_of_toList h1⟩
  subst hcs
  have h0lt : 0 < W.heap.size := hW'.lt (.cell 0 0) (List.mem_append_right _ (List.mem_append_left _ (MemPlace.mem_row.2 ⟨0, by simp, rfl⟩)))
  refine (K.law_FnExactListWord c W (of_laid hL h0lt)).mono fun e W' ⟨v_, he, hv_, bel⟩ => ?_
  subst hv_
  subst he
  have hone : (Value.cells u).toList = [u] := by
    rcases open_strings Tryd.underlying24 Tryd.underlying9 (by kernel_rfl) hd with ⟨h1, _⟩ | ⟨a, len, cap, ss, h1, _⟩
    · simp at h1; subst h1; rfl
    · simp at h1; subst h1; rfl
  obtain ⟨fuel', hd'⟩ := Below.trod laidOut (by kernel_rfl) (of_decide_eq_true (by kernel_rfl)) (v := u) (⟨fuel, by rw [hone]; simpa using hd⟩ : DataW.Trod enc Tryd.prog W 0 (fun _ => true) true 24 u d p') bel hltv
  have hv' := trodVars_mk1 (enc := enc) (spare := fun b => decide (b < W.heap.size)) hg ht (var?_below bel hg h0lt hvar) (by rw [hone] at hd'; simpa using hd')
  exact ⟨_, rfl, _, _, _, [], [], _, hW', trodAll_mk1 (shut_bool Tryd.underlying4 _), trodAll_mk1 (shut_int Tryd.underlying3 wc), hv', bel.frame _, fun h => by cases h⟩
theorem over : Rows.fnExactListWordRow.holds Tryd.pinned (OpenSpec.ofChange Rows.fnExactListWordSpec) :=
  OpenClaim.holds_of_wide 3 Tryd.f3 rfl rfl rfl rfl rfl rfl rfl ⟨rfl, rfl, rfl, rfl, rfl⟩ rfl rfl rfl rfl rfl (by kernel_rfl) Tryd.func3 (by kernel_rfl)
    (of_decide_eq_true (by kernel_rfl)) (by unfold Func.isWrapper; first | (rw [if_pos (by decide +kernel)]; kernel_rfl) | (rw [if_neg (by decide +kernel)]; exact ⟨rfl, rfl⟩))
    (fun os started H enc _ => lifted os started H enc)
theorem card : Rows.FnExactListWordCardSaid :=
  Claim7.holds_tied_plain_at .later [] [.widerDeep] true (true, "26108be1e59275dc46fb37b1adbb3a9fc238ce7597c293d37a0dc657715c7d6b") false
    over (fun _ h => by cases h) (by kernel_rfl) (fun _ h => by cases h) fnExactListWord_row_tie rfl ⟨rfl, rfl⟩ (by kernel_rfl) rfl
    (fun f fn hf hfn => by
      obtain rfl : f = 3 := Option.some.inj ((show Tryd.prog.funcNamed "loop.example/stile/laws.FnExactListWord" = some 3 by kernel_rfl).symm.trans hf) |>.symm
      obtain rfl : fn = Tryd.f3 := (Option.some.inj (Tryd.func3.symm.trans hfn)).symm
      exact ⟨by kernel_rfl, fun j t ht => by
        rw [Tryd.params3] at ht
        have h3 : t = 3 := by
          rcases j with _ | j
          · simpa using ht.symm
          · simp at ht
        subst h3
        exact (show Tryd.prog.wantsStandIn 3 = false by kernel_rfl)⟩)
    (by kernel_rfl)
#print axioms card
end Go.Proofs.YtoeijldmebocmaaDoor.fnExactListWord
namespace Go.Proofs.YtoeijldmebocmaaDoor
/-- The card, under a short name, for the claim. -/
theorem fnExactListWord_holds : Rows.FnExactListWordCardSaid := fnExactListWord.card
end Go.Proofs.YtoeijldmebocmaaDoor
