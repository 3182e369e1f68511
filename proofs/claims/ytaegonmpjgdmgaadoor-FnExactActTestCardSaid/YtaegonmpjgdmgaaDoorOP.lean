/- A ladder's memory that came in by value: what it reads as. No program in sight. -/
import Derived.Test.YtaegonmpjgdmgaaDoorMW
import Derived.WideShapes
namespace Go.Proofs.YtaegonmpjgdmgaaDoor.MW
open Go
set_option linter.unusedVariables false
def kcode (P : Program) (u : TypeId) : Nat :=
  match P.underlying u with
  | some (.int .u32) => 1
  | some (.int .u64) => 2
  | some (.int .u16) => 3
  | some .bool => 4
  | some (.int .i16) => 5
  | some (.float .f64) => 6
  | _ => 0
def kwant (i : Nat) : Nat :=
  if i = 2 then 2 else if i = 3 then 3 else if i < 5 then 1 else if i < 37 then (if (i - 5) % 2 = 0 then 4 else 3) else if i < 85 then (if (i - 37) % 3 = 2 then 3 else 4) else if i < 117 then 5 else if i < 133 then 6 else if i = 133 then 1 else 4
def memKinds (P : Program) (t : TypeId) : Bool :=
  match P.cellTypes P.depth t with
  | some ts => ts.length == 136 && (List.range 136).all fun i => (ts[i]?).map (kcode P) == some (kwant i)
  | none => false
structure Mm.wf (m : Mm) : Prop where
  X : 0 ≤ m.X ∧ m.X < 4294967296
  Y : 0 ≤ m.Y ∧ m.Y < 4294967296
  M : 0 ≤ m.M ∧ m.M < 18446744073709551616
  S : 0 ≤ m.S ∧ m.S < 65536
  E : 0 ≤ m.E ∧ m.E < 4294967296
  T : ∀ k, k < 16 → 0 ≤ (m.T k).2 ∧ (m.T k).2 < 65536
  C : ∀ k, k < 16 → 0 ≤ (m.C k).2.2 ∧ (m.C k).2.2 < 65536
  D : ∀ k, k < 32 → -32768 ≤ m.D k ∧ m.D k < 32768
  R : ∀ k, k < 16 → m.R k < 2 ^ 64
  Time : 0 ≤ m.Time ∧ m.Time < 4294967296
def gi (cs : Array Value) (i : Nat) : Int := match cs[i]? with | some (.int _ n) => n | _ => 0
def gb (cs : Array Value) (i : Nat) : Bool := match cs[i]? with | some (.bool b) => b | _ => false
def gf (cs : Array Value) (i : Nat) : Nat := match cs[i]? with | some (.float _ b) => b | _ => 0
def toMm (cs : Array Value) : Mm := ⟨gi cs 0, gi cs 1, gi cs 2, gi cs 3, gi cs 4, fun k => (gb cs (5 + k * 2), gi cs (5 + k * 2 + 1)), fun k => (gb cs (37 + k * 3), gb cs (37 + k * 3 + 1), gi cs (37 + k * 3 + 2)), fun k => gi cs (85 + k), fun k => gf cs (117 + k), gi cs 133, gb cs 134, gb cs 135⟩
section
variable {P : Program} {w : World} {r : Reach} {base : Nat} {u : TypeId} {v : Value}
theorem cell_int {k : IntKind} (hu : P.underlying u = some (.int k)) (h : Cell.okWide P w r base u v) : ∃ n, v = .int k n ∧ k.has n := by
  unfold Cell.okWide at h
  rw [hu] at h
  cases v <;> simp [Cell.ok, hu] at h
  rename_i k' n
  obtain ⟨rfl, h⟩ := h
  exact ⟨n, rfl, h⟩
theorem cell_bool (hu : P.underlying u = some .bool) (h : Cell.okWide P w r base u v) : ∃ b, v = .bool b := by
  unfold Cell.okWide at h
  rw [hu] at h
  cases v <;> simp [Cell.ok, hu] at h
  exact ⟨_, rfl⟩
theorem cell_float {k : FloatKind} (hu : P.underlying u = some (.float k)) (h : Cell.okWide P w r base u v) : ∃ n, v = .float k n ∧ k.has n := by
  unfold Cell.okWide at h
  rw [hu] at h
  cases v <;> simp [Cell.ok, hu] at h
  rename_i k' n
  obtain ⟨rfl, h⟩ := h
  exact ⟨n, rfl, h⟩
theorem kcode_spec (u : TypeId) : (kcode P u = 1 → P.underlying u = some (.int .u32)) ∧ (kcode P u = 2 → P.underlying u = some (.int .u64)) ∧ (kcode P u = 3 → P.underlying u = some (.int .u16)) ∧ (kcode P u = 4 → P.underlying u = some .bool) ∧ (kcode P u = 5 → P.underlying u = some (.int .i16)) ∧ (kcode P u = 6 → P.underlying u = some (.float .f64)) := by
  unfold kcode
  split <;> simp_all
theorem open_mc {t : TypeId} {fs : Array Field} (ht : P.underlying t = some (.struct fs)) (hz : P.cellsOf t = 136) (hk : memKinds P t = true) (h : Value.okWide P w r base t v) : ∃ m, v = .agg (mc m) ∧ m.wf := by
  simp only [Value.okWide, ht] at h
  obtain ⟨cs, rfl, hs, ts, hts, hn, hc⟩ := h
  rw [hz] at hs
  unfold memKinds at hk
  rw [hts] at hk
  simp only [Bool.and_eq_true, beq_iff_eq, List.all_eq_true, List.mem_range] at hk
  obtain ⟨hl, hk⟩ := hk
  have cell : ∀ i, i < 136 → ∃ u v, cs[i]? = some v ∧ kcode P u = kwant i ∧ Cell.okWide P w r base u v := by
    intro i hi
    have e := Array.getElem?_eq_getElem (xs := cs) (show i < cs.size by omega)
    obtain ⟨u, hu, hok⟩ := hc i _ e
    rw [hl, Nat.mod_eq_of_lt hi] at hu
    have := hk i hi
    rw [hu] at this
    exact ⟨u, _, e, Option.some.inj this, hok⟩
  have int1 : ∀ i, i < 136 → kwant i = 1 → cs[i]? = some (.int .u32 (gi cs i)) ∧ 0 ≤ gi cs i ∧ gi cs i < 4294967296 := by
    intro i hi hw
    obtain ⟨u, v, e, hu, hok⟩ := cell i hi
    obtain ⟨n, rfl, hn⟩ := cell_int ((kcode_spec u).1 (hu.trans hw)) hok
    have hg : gi cs i = n := by unfold gi; rw [e]
    rw [hg, e]
    simp [IntKind.has, IntKind.min, IntKind.max, IntKind.signed, IntKind.bits] at hn
    exact ⟨rfl, by omega, by omega⟩
  have int2 : ∀ i, i < 136 → kwant i = 2 → cs[i]? = some (.int .u64 (gi cs i)) ∧ 0 ≤ gi cs i ∧ gi cs i < 18446744073709551616 := by
    intro i hi hw
    obtain ⟨u, v, e, hu, hok⟩ := cell i hi
    obtain ⟨n, rfl, hn⟩ := cell_int ((kcode_spec u).2.1 (hu.trans hw)) hok
    have hg : gi cs i = n := by unfold gi; rw [e]
    rw [hg, e]
    simp [IntKind.has, IntKind.min, IntKind.max, IntKind.signed, IntKind.bits] at hn
    exact ⟨rfl, by omega, by omega⟩
  have int3 : ∀ i, i < 136 → kwant i = 3 → cs[i]? = some (.int .u16 (gi cs i)) ∧ 0 ≤ gi cs i ∧ gi cs i < 65536 := by
    intro i hi hw
    obtain ⟨u, v, e, hu, hok⟩ := cell i hi
    obtain ⟨n, rfl, hn⟩ := cell_int ((kcode_spec u).2.2.1 (hu.trans hw)) hok
    have hg : gi cs i = n := by unfold gi; rw [e]
    rw [hg, e]
    simp [IntKind.has, IntKind.min, IntKind.max, IntKind.signed, IntKind.bits] at hn
    exact ⟨rfl, by omega, by omega⟩
  have bool4 : ∀ i, i < 136 → kwant i = 4 → cs[i]? = some (.bool (gb cs i)) := by
    intro i hi hw
    obtain ⟨u, v, e, hu, hok⟩ := cell i hi
    obtain ⟨b, rfl⟩ := cell_bool ((kcode_spec u).2.2.2.1 (hu.trans hw)) hok
    have hg : gb cs i = b := by unfold gb; rw [e]
    rw [hg, e]
  have int5 : ∀ i, i < 136 → kwant i = 5 → cs[i]? = some (.int .i16 (gi cs i)) ∧ -32768 ≤ gi cs i ∧ gi cs i < 32768 := by
    intro i hi hw
    obtain ⟨u, v, e, hu, hok⟩ := cell i hi
    obtain ⟨n, rfl, hn⟩ := cell_int ((kcode_spec u).2.2.2.2.1 (hu.trans hw)) hok
    have hg : gi cs i = n := by unfold gi; rw [e]
    rw [hg, e]
    simp [IntKind.has, IntKind.min, IntKind.max, IntKind.signed, IntKind.bits] at hn
    exact ⟨rfl, by omega, by omega⟩
  have flt6 : ∀ i, i < 136 → kwant i = 6 → cs[i]? = some (.float .f64 (gf cs i)) ∧ gf cs i < 2 ^ 64 := by
    intro i hi hw
    obtain ⟨u, v, e, hu, hok⟩ := cell i hi
    obtain ⟨n, rfl, hn⟩ := cell_float ((kcode_spec u).2.2.2.2.2 (hu.trans hw)) hok
    have hg : gf cs i = n := by unfold gf; rw [e]
    rw [hg, e]
    exact ⟨rfl, by simpa [FloatKind.has] using hn⟩
  refine ⟨toMm cs, ?_, ?_⟩
  · refine congrArg Value.agg ?_
    apply Array.ext_getElem?
    intro i
    by_cases hi : i < 136
    · rw [mc_get _ i hi]
      rcases ivl i hi with rfl | rfl | rfl | rfl | rfl | ⟨h0, h1⟩ | ⟨h0, h1⟩ | ⟨h0, h1⟩ | ⟨h0, h1⟩ | rfl | rfl | rfl
      · exact (int1 0 (by decide) rfl).1
      · exact (int1 1 (by decide) rfl).1
      · exact (int2 2 (by decide) rfl).1
      · exact (int3 3 (by decide) rfl).1
      · exact (int1 4 (by decide) rfl).1
      · rw [cell_T _ i h0 h1]
        unfold tcell
        by_cases hp : (i - 5) % 2 = 0
        · rw [if_pos hp, bool4 i hi (by unfold kwant; rw [if_neg (by omega), if_neg (by omega), if_neg (by omega), if_pos h1, if_pos hp])]
          show _ = some (Value.bool (gb cs (5 + (i - 5) / 2 * 2)))
          rw [show 5 + (i - 5) / 2 * 2 = i by omega]
        · rw [if_neg hp, (int3 i hi (by unfold kwant; rw [if_neg (by omega), if_neg (by omega), if_neg (by omega), if_pos h1, if_neg hp])).1]
          show _ = some (Value.int .u16 (gi cs (5 + (i - 5) / 2 * 2 + 1)))
          rw [show 5 + (i - 5) / 2 * 2 + 1 = i by omega]
      · rw [cell_C _ i h0 h1]
        unfold ccell
        have kw : (i - 37) % 3 ≠ 2 → kwant i = 4 := fun hp => by unfold kwant; rw [if_neg (by omega), if_neg (by omega), if_neg (by omega), if_neg (by omega), if_pos h1, if_neg hp]
        by_cases hp : (i - 37) % 3 = 0
        · rw [if_pos hp, bool4 i hi (kw (by omega))]
          show _ = some (Value.bool (gb cs (37 + (i - 37) / 3 * 3)))
          rw [show 37 + (i - 37) / 3 * 3 = i by omega]
        · by_cases hp1 : (i - 37) % 3 = 1
          · rw [if_neg hp, if_pos hp1, bool4 i hi (kw (by omega))]
            show _ = some (Value.bool (gb cs (37 + (i - 37) / 3 * 3 + 1)))
            rw [show 37 + (i - 37) / 3 * 3 + 1 = i by omega]
          · rw [if_neg hp, if_neg hp1, (int3 i hi (by unfold kwant; rw [if_neg (by omega), if_neg (by omega), if_neg (by omega), if_neg (by omega), if_pos h1, if_pos (by omega)])).1]
            show _ = some (Value.int .u16 (gi cs (37 + (i - 37) / 3 * 3 + 2)))
            rw [show 37 + (i - 37) / 3 * 3 + 2 = i by omega]
      · rw [cell_D _ i h0 h1, (int5 i hi (by unfold kwant; rw [if_neg (by omega), if_neg (by omega), if_neg (by omega), if_neg (by omega), if_neg (by omega), if_pos h1])).1]
        show _ = some (Value.int .i16 (gi cs (85 + (i - 85))))
        rw [show 85 + (i - 85) = i by omega]
      · rw [cell_R _ i h0 h1, (flt6 i hi (by unfold kwant; rw [if_neg (by omega), if_neg (by omega), if_neg (by omega), if_neg (by omega), if_neg (by omega), if_neg (by omega), if_pos h1])).1]
        show _ = some (Value.float .f64 (gf cs (117 + (i - 117))))
        rw [show 117 + (i - 117) = i by omega]
      · exact (int1 133 (by decide) rfl).1
      · exact bool4 134 (by decide) rfl
      · exact bool4 135 (by decide) rfl
    · rw [Array.getElem?_eq_none (by omega), Array.getElem?_eq_none (by rw [mc_size]; omega)]
  · refine ⟨(int1 0 (by decide) rfl).2, (int1 1 (by decide) rfl).2, (int2 2 (by decide) rfl).2, (int3 3 (by decide) rfl).2, (int1 4 (by decide) rfl).2, fun k hk => ?_, fun k hk => ?_, fun k hk => ?_, fun k hk => ?_, (int1 133 (by decide) rfl).2⟩
    · exact (int3 (5 + k * 2 + 1) (by omega) (by unfold kwant; rw [if_neg (by omega), if_neg (by omega), if_neg (by omega), if_pos (by omega), if_neg (by omega)])).2
    · exact (int3 (37 + k * 3 + 2) (by omega) (by unfold kwant; rw [if_neg (by omega), if_neg (by omega), if_neg (by omega), if_neg (by omega), if_pos (by omega), if_pos (by omega)])).2
    · exact (int5 (85 + k) (by omega) (by unfold kwant; rw [if_neg (by omega), if_neg (by omega), if_neg (by omega), if_neg (by omega), if_neg (by omega), if_pos (by omega)])).2
    · exact (flt6 (117 + k) (by omega) (by unfold kwant; rw [if_neg (by omega), if_neg (by omega), if_neg (by omega), if_neg (by omega), if_neg (by omega), if_neg (by omega), if_pos (by omega)])).2
end
end Go.Proofs.YtaegonmpjgdmgaaDoor.MW
