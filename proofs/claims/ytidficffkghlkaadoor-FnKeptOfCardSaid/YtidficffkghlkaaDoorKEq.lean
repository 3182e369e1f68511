/- Walks over the ladders' memory: what the functions of this seat answer. -/
import Derived.Test.YtidficffkghlkaaDoorProg
import Derived.Test.YtidficffkghlkaaDoorMW
import Derived.WalkKit
import Derived.Deep.LoopGhost
import Derived.Deep.DeepCutAuto
import Derived.BigFrame
import Derived.Deep.QuietTactic
import Derived.BigQuiet
import Derived.Test.YtidficffkghlkaaDoorKQ
import Derived.Test.YtidficffkghlkaaDoorWEqStruct
import Derived.ChangeKeysEq
namespace Go.Proofs.YtidficffkghlkaaDoor.K
open Go Go.RowKit Go.Proofs.YtidficffkghlkaaDoorW Go.Proofs.YtidficffkghlkaaDoorW.PrintWords Go.Proofs.YtidficffkghlkaaDoor.MW
set_option linter.unusedVariables false
set_option linter.unusedSimpArgs false
set_option maxRecDepth 100000
theorem ag33 : aggSize Tryd.prog 33 = some 32 := by kernel_rfl
theorem ag35 : aggSize Tryd.prog 35 = some 16 := by kernel_rfl
section
variable {P : Program} {w : World} {t e : TypeId} {cs seg xs : Array Value} {off n d : Nat} {v a : Value} {f : Field} {fs : List Field}
theorem part_one (hz : oneT P t = true) (h : cs[off]? = some v) : (part t cs off).run P w = .ok v w := by
  obtain ⟨h1, _⟩ := isOne_of (W := w) hz
  simp [part, h1, h]
theorem part_seg (hz : aggSize P t = some n) (hn : seg.size = n) (hfit : off + n ≤ cs.size) (h : ∀ j, j < seg.size → cs[off + j]? = seg[j]?) : (part t cs off).run P w = .ok (.agg seg) w := by
  obtain ⟨a1, a2⟩ := isAgg_of (W := w) hz
  have he : cs.extract off (off + n) = seg := by
    apply Array.ext_getElem?
    intro i
    rw [Array.getElem?_extract]
    by_cases hi : i < n
    · rw [if_pos (by omega), h i (by omega)]
    · rw [if_neg (by omega), Array.getElem?_eq_none (by omega)]
  simp [part, a1, a2, he]
theorem eqf_t (hn : (f.name == "_") = false) (ha : (part f.type xs f.offset).run P w = .ok a w) (he : (Op.equalIn d f.type a a).run P w = .ok true w) (hr : (Op.eqFields d xs xs fs).run P w = .ok true w) : (Op.eqFields d xs xs (f :: fs)).run P w = .ok true w := by
  have hn' : f.name ≠ "_" := by simpa using hn
  rw [Op.eqFields]
  simp only [if_pos hn', Sem.run_bind, ha, he, Result.andThen_ok]
  simpa using hr
theorem items_t (c : Nat) : ∀ is : List Nat, (∀ i ∈ is, ∃ a, (part e xs (i * c)).run P w = .ok a w ∧ (Op.equalIn d e a a).run P w = .ok true w) → (Op.eqItems d e c xs xs is).run P w = .ok true w
  | [], _ => by simp [Op.eqItems]
  | i :: is, h => by
    obtain ⟨a, h1, h2⟩ := h i (by simp)
    rw [Op.eqItems]
    simp only [Sem.run_bind, h1, h2, Result.andThen_ok]
    simpa using items_t c is (fun j hj => h j (by simp [hj]))
theorem arr_t {n : Nat} {i : TypeInfo} (hu : P.underlying t = some (.array n e)) (hi : P.info? e = some i) (c : Nat) (hc : P.cellsOf e = c) (h : ∀ j, j < n → ∃ a, (part e xs (j * c)).run P w = .ok a w ∧ (Op.equalIn d e a a).run P w = .ok true w) : (Op.equalIn (d + 1) t (.agg xs) (.agg xs)).run P w = .ok true w := by
  rw [run_equalIn_array (i := i) w d xs xs hu hi, hc]
  exact items_t c _ (fun j hj => h j (List.mem_range.1 hj))
theorem int_t (k : IntKind) (x : Int) (h : P.underlying t = some (.int k)) : (Op.equalIn (d + 1) t (.int k x) (.int k x)).run P w = .ok true w := by
  rw [run_equalIn_int w d t k k x x h]; simp
theorem bool_t (x : Bool) (h : P.underlying t = some .bool) : (Op.equalIn (d + 1) t (.bool x) (.bool x)).run P w = .ok true w := by
  rw [run_equalIn_bool w d t x x h]; simp
theorem zero_t (h : P.underlying t = some (.float .f64)) : (Op.equalIn (d + 1) t (.float .f64 0) (.float .f64 0)).run P w = .ok true w := by
  simp [Op.equalIn, run_underlying h]; rfl
end

theorem eq_tm (d : Nat) (x : Bool) (y : Int) (w : World) : (Op.equalIn (d + 2) 27 (.agg #[.bool x, .int .u16 y]) (.agg #[.bool x, .int .u16 y])).run Tryd.prog w = .ok true w :=
  eqA_of Tryd.underlying27 (by kernel_rfl) (eqf_t rfl (part_one on4 (off := 0) rfl) (bool_t _ Tryd.underlying4) (eqf_t rfl (part_one on25 (off := 1) rfl) (int_t .u16 _ Tryd.underlying25) (eqf_nil)))
theorem eq_cm (d : Nat) (x y : Bool) (z : Int) (w : World) : (Op.equalIn (d + 2) 30 (.agg #[.bool x, .bool y, .int .u16 z]) (.agg #[.bool x, .bool y, .int .u16 z])).run Tryd.prog w = .ok true w :=
  eqA_of Tryd.underlying30 (by kernel_rfl) (eqf_t rfl (part_one on4 (off := 0) rfl) (bool_t _ Tryd.underlying4) (eqf_t rfl (part_one on4 (off := 1) rfl) (bool_t _ Tryd.underlying4) (eqf_t rfl (part_one on25 (off := 2) rfl) (int_t .u16 _ Tryd.underlying25) (eqf_nil))))
theorem eq_T (d : Nat) (T : Nat → Bool × Int) (w : World) : (Op.equalIn (d + 3) 28 (.agg (tc T)) (.agg (tc T))).run Tryd.prog w = .ok true w :=
  arr_t Tryd.underlying28 (i := _) (by rfl) 2 (by kernel_rfl) (fun j hj => ⟨_, part_seg ag27 rfl (by rw [tc_size]; omega) (tc_el T j hj), eq_tm d _ _ w⟩)

theorem eq_C (d : Nat) (T : Nat → Bool × Bool × Int) (w : World) : (Op.equalIn (d + 3) 31 (.agg (cc T)) (.agg (cc T))).run Tryd.prog w = .ok true w :=
  arr_t Tryd.underlying31 (i := _) (by rfl) 3 (by kernel_rfl) (fun j hj => ⟨_, part_seg ag30 rfl (by rw [cc_size]; omega) (cc_el T j hj), eq_cm d _ _ _ w⟩)
theorem eq_D (d : Nat) (T : Nat → Int) (w : World) : (Op.equalIn (d + 2) 33 (.agg (dc T)) (.agg (dc T))).run Tryd.prog w = .ok true w :=
  arr_t Tryd.underlying33 (i := _) (by rfl) 1 (by kernel_rfl) (fun j hj => ⟨_, part_one on32 (dc_get T (j * 1) (by omega)), int_t .i16 _ Tryd.underlying32⟩)
theorem eq_R0 (d : Nat) (w : World) : (Op.equalIn (d + 2) 35 (.agg (rc fun _ => 0)) (.agg (rc fun _ => 0))).run Tryd.prog w = .ok true w :=
  arr_t Tryd.underlying35 (i := _) (by rfl) 1 (by kernel_rfl) (fun j hj => ⟨_, part_one on34 (rc_get (fun _ => 0) (j * 1) (by omega)), zero_t Tryd.underlying34⟩)

theorem eq_Mem0 (d : Nat) (m : Mm) (w : World) : (Op.equalIn (d + 4) 37 (.agg (mc { m with R := fun _ => 0 })) (.agg (mc { m with R := fun _ => 0 }))).run Tryd.prog w = .ok true w :=
  eqA_of Tryd.underlying36 (by kernel_rfl) (eqf_t rfl (part_one on23 (get_X _)) (int_t .u32 _ Tryd.underlying23) (eqf_t rfl (part_one on23 (get_Y _)) (int_t .u32 _ Tryd.underlying23) (eqf_t rfl (part_one on24 (get_M _)) (int_t .u64 _ Tryd.underlying24) (eqf_t rfl (part_one on25 (get_S _)) (int_t .u16 _ Tryd.underlying25) (eqf_t rfl (part_one on23 (get_E _)) (int_t .u32 _ Tryd.underlying23) (eqf_t rfl (part_seg ag28 (tc_size _) (by rw [mc_size]; decide) (get_T _)) (eq_T _ _ _) (eqf_t rfl (part_seg ag31 (cc_size _) (by rw [mc_size]; decide) (get_C _)) (eq_C _ _ _) (eqf_t rfl (part_seg ag33 (dc_size _) (by rw [mc_size]; decide) (get_D _)) (eq_D _ _ _) (eqf_t rfl (part_seg ag35 (rc_size _) (by rw [mc_size]; decide) (get_R _)) (eq_R0 _ _) (eqf_t rfl (part_one on23 (get_Time _)) (int_t .u32 _ Tryd.underlying23) (eqf_t rfl (part_one on4 (get_Ran _)) (bool_t _ Tryd.underlying4) (eqf_t rfl (part_one on4 (get_Fault _)) (bool_t _ Tryd.underlying4) (eqf_nil)))))))))))))

end Go.Proofs.YtidficffkghlkaaDoor.K
