/- The statement 'FnKeptOf' of this seat, a tied card: for every input that can be read, where the table devSizes reads as the program's text lays it, the law returns true and its argument reads behind the call as it read before; the table is tied to the program's text. -/
import Derived.Test.YtidficffkghlkaaDoorRows
import Derived.Test.YtidficffkghlkaaDoorTie
import Derived.Test.YtidficffkghlkaaDoorCards
import Derived.Test.YtidficffkghlkaaDoorNX
import Derived.WalkKit
import Derived.ProofKit
import Derived.OpenShut
import Derived.ChangeOld
import Derived.ChangeVars
import Derived.Below
import Derived.SizedLaws
import Derived.SliceStrings
import Derived.Lib.LaidU8
import Derived.Lib.SmallJoins
import Derived.SevenTiedAt
import Derived.LaidHandle
import Derived.LaidMore
namespace Go.Proofs.YtidficffkghlkaaDoor.fnKeptOf
open Go.ChangeShapes Go.WideShapes Go.ChangeAt Go.RowKit Go.Joins
set_option linter.unusedVariables false
theorem own : ownKnob Tryd.prog.godebug = none := by kernel_rfl
theorem laidOut : laidOutB Tryd.prog = true := by kernel_rfl
def IsRow (k : IntKind) (w : World) (a : Option Addr) (len cap : Nat) (zs : List Int) : Prop :=
  (a = none ∧ len = 0 ∧ cap = 0 ∧ zs = []) ∨
  ∃ x, a = some x ∧ len ≤ cap ∧ cap ≤ maxLen ∧ zs.length = cap ∧ (∀ i, i < zs.length → w.cell? (x.add i) = some (.int k (zs.getD i 0))) ∧ ∀ n ∈ zs, (Lit.int k n).wf = true
abbrev laid2 : List (String × DataW Unit) := [("loop.example/stile/impl.devSizes", Rows.laid_loop_example_stile_impl_devSizes)]
theorem gVar0 : Tryd.prog.globalNamed "loop.example/stile/impl.devSizes" = some 1 := by kernel_rfl
theorem gType0 : (Tryd.prog.globals[1]?).map (·.type) = some 126 := by kernel_rfl
theorem door_met (os : Os) (args : Array Value) : laidMetH Tryd.prog laid2 ((World.doorLaid Tryd.prog 19 os).forCall (fun _ _ => 0) ⟨#[], args, []⟩).memory :=
  laidMetH_of_parts3 (fuel := 8) (laidMet_of_run' 8 (by kernel_rfl) (by kernel_rfl)) (by kernel_rfl) (by kernel_rfl)
theorem of_laid {W : World} (h : laidMetH Tryd.prog laid2 W) (h0 : 1 < W.heap.size) : K.Tab W := by
  have h' : laidMet Tryd.prog laid2 W := h
  obtain ⟨g, t, cs, fuel, p, hg, ht, hv, hd⟩ := Lib.laidMet.reads h' (.head _)
  obtain rfl := Option.some.inj (gVar0.symm.trans hg)
  obtain rfl := Option.some.inj (gType0.symm.trans ht)
  rcases open_ints Tryd.underlying126 Tryd.underlying3 (by kernel_rfl) hd with ⟨_, hx⟩ | ⟨a, len, cap, zs, hcs, hb, hl, hm, hz, hx, hcell, hwf⟩
  · simp [Rows.laid_loop_example_stile_impl_devSizes] at hx
  · simp only [Prod.mk.injEq, Rows.laid_loop_example_stile_impl_devSizes, DataW.slice.injEq] at hx
    obtain ⟨⟨e1, e2⟩, _⟩ := hx
    have hlen : zs.length = len := by
      have := congrArg List.length e2
      simp [lits] at this
      simp at hz
      omega
    have h11 : len = 11 := by
      have := congrArg List.length e1
      simp [lits] at this
      omega
    have hall : zs = K.devSizes := by
      rw [List.take_of_length_le (by omega)] at e1
      have e3 : lits (H := Unit) .i64 zs = lits .i64 K.devSizes := by rw [← e1]; rfl
      have inj : ∀ a b : List Int, lits (H := Unit) .i64 a = lits .i64 b → a = b := by
        intro a
        induction a with
        | nil => intro b hb; cases b with
          | nil => rfl
          | cons y b => simp [lits] at hb
        | cons x a ih => intro b hb; cases b with
          | nil => simp [lits] at hb
          | cons y b =>
            simp only [lits, List.map_cons, List.cons.injEq] at hb
            rw [ih b hb.2]
            congr 1
            simpa using hb.1
      exact inj _ _ e3
    obtain ⟨b, off, spot⟩ := a
    have hc0 := hcell 0 (by omega)
    have hspot : spot = none := by simpa [Addr.add] using World.cell?_spot hc0
    subst hspot
    refine ⟨b, off, cap, ?_, fun i hi => ?_, ?_, h0⟩
    · have := World.var?_cell hg hv 0
      rw [Array.eq_one_of_toList hcs] at this
      rw [h11] at this
      simpa using this
    · have := hcell i (by omega)
      rw [hall] at this
      have hadd : (⟨b, off, none⟩ : Addr).add i = ⟨b, off + i, none⟩ := by unfold Addr.add; split <;> simp_all
      rw [hadd] at this
      exact this
    · exact World.block_lt_of_cell? _ _ hc0
theorem var?_below {P : Program} {B g : Nat} {W W' : World} {n : String} {cs : Array Value} (h : Below B W W') (hg : P.globalNamed n = some g) (hgB : g < B) (hv : W.var? P n = some cs) : W'.var? P n = some cs := by
  simp only [World.var?, hg, Option.bind_some] at hv ⊢
  rw [h.block g hgB]
  exact hv
set_option maxRecDepth 100000 in
theorem lifted (os : Os) (started : os.Started) (H : Type) (enc : TypeId × Value → H) :
    ReturnsInHanded {} Tryd.checked os 3 .any (fun w args => (Rows.fnKeptOfSpec.pre enc Tryd.prog Tryd.f3 [] false w args ∧ laidMetH Tryd.prog laid2 w) ∧ sizedMet enc Tryd.prog Tryd.f3 (OpenSpec.ofChange Rows.fnKeptOfSpec) false w args)
      (Rows.fnKeptOfSpec.post enc Tryd.prog Tryd.f3 false true false false) := by
  refine returnsInHanded_of_change_and (C := Tryd.checked) (X := fun w _ => laidMetH Tryd.prog laid2 w) (fun _ _ _ hh h => h.of_heap hh) own started (by kernel_rfl) Tryd.func3
    (ChangeSpec.witness_shaped (enc := enc) (C := Tryd.checked) (os := os) (X := fun w _ => laidMetH Tryd.prog laid2 w) false (World.doorLaid Tryd.prog 19 os) #[.slice none 0 0] 8 rfl (World.shaped_of_RefB (by kernel_rfl) (by kernel_rfl)) (by kernel_rfl) (by kernel_rfl) (by kernel_rfl) (door_met os _)) ?_
  intro W base args ds gs before hval0 hW _ _ hL _
  have hval : ∀ (j : Nat) t v, Tryd.f3.params[j]? = some t → args[j]? = some v → Value.okWide Tryd.prog W .any base t v := hval0
  have hW' := hW
  obtain ⟨p, q, hA0, hV0, rfl, hfz, hnd⟩ := hW
  have hA : DataW.TrodAll enc Tryd.prog W 0 (fun _ => true) true Tryd.f3.params.toList args.toList ds p := hA0
  have hV : DataW.TrodVars enc Tryd.prog W (fun _ => true) ["loop.example/stile/impl.devSizes"] gs q := hV0
  rw [Tryd.params3] at hA hval
  obtain ⟨v0, vs0, d0, ds0, p0, q0, hargs, rfl, rfl, h0, r0⟩ := trodAll_cons hA
  obtain ⟨rfl, rfl, rfl⟩ := trodAll_nil r0
  obtain rfl : args = #[v0] := by cases args; simp_all
  have k0 := h0
  have lt0 : ∀ x ∈ p0, x.block < W.heap.size := by obtain ⟨m, hm⟩ := k0; exact DataW.trod_lt m _ _ _ hm
  obtain ⟨ga, ta, ca, fa, da, pa, rfl, hga, hta, hva, hda, rfl⟩ := trodVars_one hV
  obtain rfl := Option.some.inj (gVar0.symm.trans hga)
  obtain rfl := Option.some.inj (gType0.symm.trans hta)
  obtain ⟨a0, len0, cap0, rfl⟩ := okWide_slice Tryd.underlying22 (hval 0 22 v0 rfl rfl)
  obtain ⟨z0, w0⟩ : ∃ zs, IsRow .u8 W a0 len0 cap0 zs := by
    obtain ⟨fuel, hf⟩ := h0
    rcases open_ints Tryd.underlying22 Tryd.underlying5 (by kernel_rfl) hf with ⟨hcs, _⟩ | ⟨x, l, c, zs, hcs, _, hl, hm, hz, _, hcell, hwz⟩
    · simp [Value.cells] at hcs
      obtain ⟨rfl, rfl, rfl⟩ := hcs
      exact ⟨[], .inl ⟨rfl, rfl, rfl, rfl⟩⟩
    · simp [Value.cells] at hcs
      obtain ⟨rfl, rfl, rfl⟩ := hcs
      exact ⟨zs, .inr ⟨_, rfl, hl, hm, by simpa using hz, hcell, hwz⟩⟩
  clear hA0 hV0 hval0 hA hV
  have hlt : ∀ x ∈ MemPlace.row ⟨1, 0, none⟩ ca.size ++ pa, x.block < W.heap.size := fun x hx => hW'.lt x (List.mem_append_right _ hx)
  have hpa : ∀ x ∈ pa, x.block < W.heap.size := fun x hx => hlt x (List.mem_append_right _ hx)
  obtain ⟨ua, hca, hona⟩ : ∃ u, ca = #[u] ∧ (Value.cells u).toList = [u] := by
    rcases open_ints Tryd.underlying126 Tryd.underlying3 (by kernel_rfl) hda with ⟨h1, _⟩ | ⟨a, len, cap, ss, h1, _⟩
    · exact ⟨_, Array.eq_one_of_toList h1, rfl⟩
    · exact ⟨_, Array.eq_one_of_toList h1, rfl⟩
  subst hca
  have hg0lt : 1 < W.heap.size := hlt (.cell 1 0) (List.mem_append_left _ (MemPlace.mem_row.2 ⟨0, by simp, rfl⟩))
  refine (K.law_FnKeptOf (w := W) a0 len0 cap0 z0 w0 (of_laid hL hg0lt)).mono fun e W' ⟨v_, he, hv_, bel⟩ => ?_
  subst hv_
  subst he
  obtain ⟨fa', hda'⟩ := Below.trod laidOut (by kernel_rfl) (of_decide_eq_true (by kernel_rfl)) (v := ua) (⟨fa, by rw [hona]; simpa using hda⟩ : DataW.Trod enc Tryd.prog W 0 (fun _ => true) true 126 ua da pa) bel hpa
  have hv' := trodVars_mk1 (enc := enc) (spare := fun b => decide (b < W.heap.size)) hga hta (var?_below bel hga hg0lt hva) (by rw [hona] at hda'; simpa using hda')
  exact ⟨_, rfl, _, _, _, [], _, _, hW', trodAll_mk1 (shut_bool Tryd.underlying4 _), (trodAll_cons_mk (Below.trod laidOut (by kernel_rfl) (of_decide_eq_true (by kernel_rfl)) k0 bel lt0) trodAll_mk0), hv', bel.frame _, fun h => by cases h⟩
theorem over : Rows.fnKeptOfRow.holds Tryd.pinned (OpenSpec.ofChange Rows.fnKeptOfSpec) :=
  OpenClaim.holds_of_wide 3 Tryd.f3 rfl rfl rfl rfl rfl rfl rfl ⟨rfl, rfl, rfl, rfl, rfl⟩ rfl rfl rfl rfl rfl (by kernel_rfl) Tryd.func3 (by kernel_rfl)
    (of_decide_eq_true (by kernel_rfl)) (by unfold Func.isWrapper; first | (rw [if_pos (by decide +kernel)]; kernel_rfl) | (rw [if_neg (by decide +kernel)]; exact ⟨rfl, rfl⟩))
    (fun os started H enc _ => lifted os started H enc)
theorem card : Rows.FnKeptOfCardSaid :=
  Claim7.holds_tied_plain_at .later [] [.data] true (true, "59b944e77481ec9df12cc9a2770a1fd9871d93cc5eaa644d88d3efe6851a90d6") false
    over (fun _ h => by cases h) (by kernel_rfl) (fun _ h => by cases h) fnKeptOf_row_tie rfl ⟨rfl, rfl⟩ (by kernel_rfl) rfl
    (fun f fn hf hfn => by
      obtain rfl : f = 3 := Option.some.inj ((show Tryd.prog.funcNamed "loop.example/stile/laws.FnKeptOf" = some 3 by kernel_rfl).symm.trans hf) |>.symm
      obtain rfl : fn = Tryd.f3 := (Option.some.inj (Tryd.func3.symm.trans hfn)).symm
      exact ⟨by kernel_rfl, fun j t ht => by
        rw [Tryd.params3] at ht
        have h3 : t = 22 := by
          rcases j with _ | j
          · simpa using ht.symm
          · simp at ht
        subst h3
        exact (show Tryd.prog.wantsStandIn 22 = false by kernel_rfl)⟩)
    (by kernel_rfl)
#print axioms card
end Go.Proofs.YtidficffkghlkaaDoor.fnKeptOf
namespace Go.Proofs.YtidficffkghlkaaDoor
/-- The card, under a short name, for the claim. -/
theorem fnKeptOf_holds : Rows.FnKeptOfCardSaid := fnKeptOf.card
end Go.Proofs.YtidficffkghlkaaDoor
