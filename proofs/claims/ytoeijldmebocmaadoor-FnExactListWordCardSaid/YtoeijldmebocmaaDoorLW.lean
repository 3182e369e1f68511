/- The word of an instruction: what impl.ListWord and spec.ListWord answer, with the table of words as it is laid. -/
import Derived.Test.YtoeijldmebocmaaDoorProg
import Derived.WalkKit
import Derived.BigFrame
import Derived.Below
namespace Go.Proofs.YtoeijldmebocmaaDoor.K
open Go Go.RowKit
set_option linter.unusedVariables false
def Ret (w : World) (R : Value → Prop) (e : Ending) (w' : World) : Prop := ∃ v, e = .returned v ∧ R v ∧ Below w.heap.size w w'
def lws : List ByteArray := [⟨#[]⟩, ⟨#[108, 100]⟩, ⟨#[97, 110, 100]⟩, ⟨#[111, 114]⟩, ⟨#[97, 110, 98]⟩, ⟨#[111, 114, 98]⟩, ⟨#[105, 110, 118]⟩, ⟨#[109, 112, 115]⟩, ⟨#[109, 114, 100]⟩, ⟨#[109, 112, 112]⟩, ⟨#[99, 111, 105, 108]⟩, ⟨#[101, 110, 100]⟩]
def lw (c : Int) : ByteArray := if 1 ≤ c ∧ c ≤ 11 then lws.getD c.toNat ByteArray.empty else ByteArray.empty
/-- The table of words, as it lies in memory. -/
def Tab (w : World) : Prop := ∃ b off cap, w.cell? ⟨0, 0, none⟩ = some (.slice (some ⟨b, off, none⟩) 12 cap) ∧ (∀ i, i < 12 → w.cell? ⟨b, off + i, none⟩ = some (.string (lws.getD i ByteArray.empty))) ∧ b < w.heap.size ∧ 0 < w.heap.size
theorem Tab.below {w w' : World} (h : Tab w) (hb : Below w.heap.size w w') : Tab w' := by
  obtain ⟨b, off, cap, h1, h2, h3, h4⟩ := h
  exact ⟨b, off, cap, (hb.cell (p := ⟨0, 0, none⟩) h4).trans h1, fun i hi => (hb.cell (p := ⟨b, off + i, none⟩) h3).trans (h2 i hi), Nat.lt_of_lt_of_le h3 hb.size, Nat.lt_of_lt_of_le h4 hb.size⟩
theorem cases11 {c : Int} (h : 1 ≤ c ∧ c ≤ 11) : c = 1 ∨ c = 2 ∨ c = 3 ∨ c = 4 ∨ c = 5 ∨ c = 6 ∨ c = 7 ∨ c = 8 ∨ c = 9 ∨ c = 10 ∨ c = 11 := by omega
set_option maxHeartbeats 4000000 in
set_option maxRecDepth 100000 in
theorem c_spec (c : Int) (w : World) : Calls Tryd.prog 4 #[.int .i64 c] w (Ret w (· = .string (lw c))) := by
  by_cases h : 1 ≤ c ∧ c ≤ 11
  · rcases cases11 h with rfl | rfl | rfl | rfl | rfl | rfl | rfl | rfl | rfl | rfl | rfl
    all_goals
      clear h
      go_enter Tryd.func4, Tryd.ntmps4
      go_wp2
      go_ret
      exact ⟨_, rfl, rfl, (Below.refl _ _).alloc (Nat.le_refl _) _⟩
  · have hz : lw c = ⟨#[]⟩ := by unfold lw; rw [if_neg h]; rfl
    rw [hz]
    clear hz
    by_cases h1 : c < 1
    · clear h
      go_enter Tryd.func4, Tryd.ntmps4
      go_wp2
      go_ret
      exact ⟨_, rfl, rfl, Below.refl _ _⟩
    · have h2 : 11 < c := by omega
      clear h
      go_enter Tryd.func4, Tryd.ntmps4
      go_wp2
      go_ret
      exact ⟨_, rfl, rfl, Below.refl _ _⟩
set_option maxHeartbeats 4000000 in
set_option maxRecDepth 100000 in
theorem c_in_yes (c : Int) (h1 : 1 ≤ c) (h2 : c ≤ 11) (w : World) : Calls Tryd.prog 6 #[.int .i64 c, .int .i64 1, .int .i64 11] w fun e w' => e = .returned (.bool true) ∧ w' = w := by
  go_enter Tryd.func6, Tryd.ntmps6
  go_wp2
  go_ret
  exact ⟨rfl, rfl⟩
set_option maxHeartbeats 4000000 in
set_option maxRecDepth 100000 in
theorem c_in_no (c : Int) (h : c < 1 ∨ 11 < c) (w : World) : Calls Tryd.prog 6 #[.int .i64 c, .int .i64 1, .int .i64 11] w fun e w' => e = .returned (.bool false) ∧ w' = w := by
  by_cases h1 : 1 ≤ c
  · have h3 : decide (c ≤ 11) = false := decide_eq_false (by omega)
    clear h
    go_enter Tryd.func6, Tryd.ntmps6
    go_wp2
    go_ret
    exact ⟨rfl, rfl⟩
  · have h3 : c < 1 := by omega
    clear h h1
    go_enter Tryd.func6, Tryd.ntmps6
    go_wp2
    go_ret
    exact ⟨rfl, rfl⟩
set_option maxHeartbeats 4000000 in
set_option maxRecDepth 100000 in
theorem c_impl (c : Int) (w : World) (ht : Tab w) : Calls Tryd.prog 5 #[.int .i64 c] w (Ret w (· = .string (lw c))) := by
  obtain ⟨b, off, cap, h1, h2, h3, h4⟩ := ht
  by_cases h : 1 ≤ c ∧ c ≤ 11
  · rcases cases11 h with rfl | rfl | rfl | rfl | rfl | rfl | rfl | rfl | rfl | rfl | rfl
    · have hc := h2 1 (by decide)
      have hw : lws.getD 1 ByteArray.empty = ⟨#[108, 100]⟩ := rfl
      rw [hw] at hc
      clear h h2 hw
      go_enter Tryd.func5, Tryd.ntmps5
      go_wp2_with (go_at_call 6; refine (c_in_yes 1 (by decide) (by decide) _).mono ?_; rintro e w' ⟨rfl, rfl⟩)
      go_ret
      exact ⟨_, rfl, rfl, Below.refl _ _⟩
    · have hc := h2 2 (by decide)
      have hw : lws.getD 2 ByteArray.empty = ⟨#[97, 110, 100]⟩ := rfl
      rw [hw] at hc
      clear h h2 hw
      go_enter Tryd.func5, Tryd.ntmps5
      go_wp2_with (go_at_call 6; refine (c_in_yes 2 (by decide) (by decide) _).mono ?_; rintro e w' ⟨rfl, rfl⟩)
      go_ret
      exact ⟨_, rfl, rfl, Below.refl _ _⟩
    · have hc := h2 3 (by decide)
      have hw : lws.getD 3 ByteArray.empty = ⟨#[111, 114]⟩ := rfl
      rw [hw] at hc
      clear h h2 hw
      go_enter Tryd.func5, Tryd.ntmps5
      go_wp2_with (go_at_call 6; refine (c_in_yes 3 (by decide) (by decide) _).mono ?_; rintro e w' ⟨rfl, rfl⟩)
      go_ret
      exact ⟨_, rfl, rfl, Below.refl _ _⟩
    · have hc := h2 4 (by decide)
      have hw : lws.getD 4 ByteArray.empty = ⟨#[97, 110, 98]⟩ := rfl
      rw [hw] at hc
      clear h h2 hw
      go_enter Tryd.func5, Tryd.ntmps5
      go_wp2_with (go_at_call 6; refine (c_in_yes 4 (by decide) (by decide) _).mono ?_; rintro e w' ⟨rfl, rfl⟩)
      go_ret
      exact ⟨_, rfl, rfl, Below.refl _ _⟩
    · have hc := h2 5 (by decide)
      have hw : lws.getD 5 ByteArray.empty = ⟨#[111, 114, 98]⟩ := rfl
      rw [hw] at hc
      clear h h2 hw
      go_enter Tryd.func5, Tryd.ntmps5
      go_wp2_with (go_at_call 6; refine (c_in_yes 5 (by decide) (by decide) _).mono ?_; rintro e w' ⟨rfl, rfl⟩)
      go_ret
      exact ⟨_, rfl, rfl, Below.refl _ _⟩
    · have hc := h2 6 (by decide)
      have hw : lws.getD 6 ByteArray.empty = ⟨#[105, 110, 118]⟩ := rfl
      rw [hw] at hc
      clear h h2 hw
      go_enter Tryd.func5, Tryd.ntmps5
      go_wp2_with (go_at_call 6; refine (c_in_yes 6 (by decide) (by decide) _).mono ?_; rintro e w' ⟨rfl, rfl⟩)
      go_ret
      exact ⟨_, rfl, rfl, Below.refl _ _⟩
    · have hc := h2 7 (by decide)
      have hw : lws.getD 7 ByteArray.empty = ⟨#[109, 112, 115]⟩ := rfl
      rw [hw] at hc
      clear h h2 hw
      go_enter Tryd.func5, Tryd.ntmps5
      go_wp2_with (go_at_call 6; refine (c_in_yes 7 (by decide) (by decide) _).mono ?_; rintro e w' ⟨rfl, rfl⟩)
      go_ret
      exact ⟨_, rfl, rfl, Below.refl _ _⟩
    · have hc := h2 8 (by decide)
      have hw : lws.getD 8 ByteArray.empty = ⟨#[109, 114, 100]⟩ := rfl
      rw [hw] at hc
      clear h h2 hw
      go_enter Tryd.func5, Tryd.ntmps5
      go_wp2_with (go_at_call 6; refine (c_in_yes 8 (by decide) (by decide) _).mono ?_; rintro e w' ⟨rfl, rfl⟩)
      go_ret
      exact ⟨_, rfl, rfl, Below.refl _ _⟩
    · have hc := h2 9 (by decide)
      have hw : lws.getD 9 ByteArray.empty = ⟨#[109, 112, 112]⟩ := rfl
      rw [hw] at hc
      clear h h2 hw
      go_enter Tryd.func5, Tryd.ntmps5
      go_wp2_with (go_at_call 6; refine (c_in_yes 9 (by decide) (by decide) _).mono ?_; rintro e w' ⟨rfl, rfl⟩)
      go_ret
      exact ⟨_, rfl, rfl, Below.refl _ _⟩
    · have hc := h2 10 (by decide)
      have hw : lws.getD 10 ByteArray.empty = ⟨#[99, 111, 105, 108]⟩ := rfl
      rw [hw] at hc
      clear h h2 hw
      go_enter Tryd.func5, Tryd.ntmps5
      go_wp2_with (go_at_call 6; refine (c_in_yes 10 (by decide) (by decide) _).mono ?_; rintro e w' ⟨rfl, rfl⟩)
      go_ret
      exact ⟨_, rfl, rfl, Below.refl _ _⟩
    · have hc := h2 11 (by decide)
      have hw : lws.getD 11 ByteArray.empty = ⟨#[101, 110, 100]⟩ := rfl
      rw [hw] at hc
      clear h h2 hw
      go_enter Tryd.func5, Tryd.ntmps5
      go_wp2_with (go_at_call 6; refine (c_in_yes 11 (by decide) (by decide) _).mono ?_; rintro e w' ⟨rfl, rfl⟩)
      go_ret
      exact ⟨_, rfl, rfl, Below.refl _ _⟩
  · have hz : lw c = ⟨#[]⟩ := by unfold lw; rw [if_neg h]; rfl
    have hd : c < 1 ∨ 11 < c := by omega
    rw [hz]
    clear hz h h2
    go_enter Tryd.func5, Tryd.ntmps5
    go_wp2_with (go_at_call 6; refine (c_in_no c hd _).mono ?_; rintro e w' ⟨rfl, rfl⟩)
    go_ret
    exact ⟨_, rfl, rfl, Below.refl _ _⟩
set_option maxHeartbeats 4000000 in
set_option maxRecDepth 100000 in
theorem law_FnExactListWord (c : Int) (w : World) (ht : Tab w) : Calls Tryd.prog 3 #[.int .i64 c] w (Ret w (· = .bool true)) := by
  go_enter Tryd.func3, Tryd.ntmps3
  go_wp2_with (go_at_call 4; refine (c_spec c _).mono ?_; rintro e w1 ⟨v, rfl, rfl, hb⟩)
  go_wp2_with (go_at_call 5; refine (c_impl c _ (ht.below hb)).mono ?_; rintro e w2 ⟨v, rfl, rfl, hb2⟩)
  go_ret
  exact ⟨_, rfl, by simp, hb.trans (hb2.mono hb.size)⟩
end Go.Proofs.YtoeijldmebocmaaDoor.K
