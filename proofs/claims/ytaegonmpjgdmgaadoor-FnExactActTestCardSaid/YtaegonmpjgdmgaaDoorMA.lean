/- Walks over the ladders' memory: what the functions of this seat answer. -/
import Derived.Test.YtaegonmpjgdmgaaDoorProg
import Derived.Test.YtaegonmpjgdmgaaDoorMW
import Derived.WalkKit
import Derived.Deep.LoopGhost
import Derived.Deep.DeepCutAuto
import Derived.BigFrame
import Derived.Deep.QuietTactic
import Derived.BigQuiet
import Derived.Test.YtaegonmpjgdmgaaDoorRC
import Derived.Test.YtaegonmpjgdmgaaDoorOzTell
import Derived.Test.YtaegonmpjgdmgaaDoorOP
import Derived.Test.YtaegonmpjgdmgaaDoorKC
import Derived.Laws.BitsAllLaws
namespace Go.Proofs.YtaegonmpjgdmgaaDoor.K
open Go Go.RowKit Go.Proofs.YtaegonmpjgdmgaaDoorW Go.Proofs.YtaegonmpjgdmgaaDoorW.PrintWords Go.Proofs.YtaegonmpjgdmgaaDoor.MW
set_option linter.unusedVariables false
set_option linter.unusedSimpArgs false
set_option maxRecDepth 100000
theorem fo61_0 : fieldOff Tryd.prog 61 0 = some 0 := by kernel_rfl
theorem on3 : oneT Tryd.prog 3 = true := by kernel_rfl
theorem fo61_1 : fieldOff Tryd.prog 61 1 = some 1 := by kernel_rfl
theorem ag61 : aggSize Tryd.prog 61 = some 3 := by kernel_rfl
section
variable {P : Program} {ops : Array Oper} {rest : List Oper} {o : Oper} {a : Act} {Q : Exit → Act → World → Prop} {w W : World} {L : List (Nat × Array Value)}
theorem call_ev2 {f : FuncId} {ars : Array Operand} {ts : Array TypeId} {fn : Func} {args : Array Value} {R : Value → Prop} (HS : Priv w W L) (hgd : o.guard = none) (ho : o.op = .call { callee := .value (.func f), args := ars, argTypes := ts })
  (hf : P.funcs[f]? = some fn) (hname : (fn.name == "runtime.NumGoroutine") = false) (hb : fn.body.isSome = true) (hargs : ars.map a.eval = args) (hc : Calls P f args W (Ret W R))
  (h : ∀ v W', R v → Priv w W' L → Below W.heap.size W W' → wpList P ops Q rest (a.put o.dst v) W') : wpList P ops Q (o :: rest) a W := call_ev HS hgd ho hf hname hb hc hargs h
end
def devSizes : List Int := [0, 32, 32, 64, 16, 32, 5, 16, 16, 32, 16]
def devSize (k : Int) : Int := if 1 ≤ k ∧ k ≤ 10 then devSizes.getD k.toNat 0 else 0
def devN (k : Int) : Int := if k = 6 then 8 else devSize k
def place (k n : Int) : Int := if devN k = 0 then 0 else Int.tmod (wrap64 (Int.tmod n (devN k) + devN k)) (devN k)
theorem devN_in (k : Int) : 0 ≤ devN k ∧ devN k ≤ 64 := by
 unfold devN
 by_cases h6 : k = 6
 ·rw [if_pos h6]; decide
 rw [if_neg h6]
 unfold devSize
 by_cases h : 1 ≤ k ∧ k ≤ 10
 ·rw [if_pos h]
  have : k = 1 ∨ k = 2 ∨ k = 3 ∨ k = 4 ∨ k = 5 ∨ k = 6 ∨ k = 7 ∨ k = 8 ∨ k = 9 ∨ k = 10 := by omega
  rcases this with rfl | rfl | rfl | rfl | rfl | rfl | rfl | rfl | rfl | rfl <;> decide
 ·rw [if_neg h]; decide
theorem tmod_in (n s : Int) (hs : 0 < s) : -s < Int.tmod n s ∧ Int.tmod n s < s := by
 have h1 := Int.tmod_lt_of_pos n hs
 have h2 : -s < Int.tmod n s := by
  have h := Int.tmod_lt_of_pos (-n) hs
  rw [Int.neg_tmod] at h
  omega
 exact ⟨h2, h1⟩
theorem place_raw (k n : Int) (h : devN k ≠ 0) : Int.tmod (wrap64 (Int.tmod n (devN k) + devN k)) (devN k) = Int.tmod (Int.tmod n (devN k) + devN k) (devN k) := by
 have hs := devN_in k
 have ht := tmod_in n (devN k) (by omega)
 rw [show wrap64 (Int.tmod n (devN k) + devN k) = Int.tmod n (devN k) + devN k by unfold wrap64; omega]
theorem place_in (k n : Int) : 0 ≤ place k n ∧ (devN k ≠ 0 → place k n < devN k) := by
 unfold place
 by_cases h : devN k = 0
 ·rw [if_pos h]; exact ⟨by decide, fun h2 => absurd h h2⟩
 ·rw [if_neg h, place_raw k n h]
  have hs := devN_in k
  have ht := tmod_in n (devN k) (by omega)
  have h0 : 0 ≤ Int.tmod n (devN k) + devN k := by omega
  exact ⟨by rw [Int.tmod_eq_emod_of_nonneg h0]; exact Int.emod_nonneg _ h, fun _ => Int.tmod_lt_of_pos _ (by omega)⟩
/-- The table of sizes, as it lies in memory. -/
def Tab (w : World) : Prop := ∃ b off cap, w.cell? ⟨0, 0, none⟩ = some (.slice (some ⟨b, off, none⟩) 11 cap) ∧ (∀ i, i < 11 → w.cell? ⟨b, off + i, none⟩ = some (.int .i64 (devSizes.getD i 0))) ∧ b < w.heap.size ∧ 0 < w.heap.size
theorem Tab.below {w w' : World} (h : Tab w) (hb : Below w.heap.size w w') : Tab w' := by
 obtain ⟨b, off, cap, h1, h2, h3, h4⟩ := h
 exact ⟨b, off, cap, (hb.cell (p := ⟨0, 0, none⟩) h4).trans h1, fun i hi => (hb.cell (p := ⟨b, off + i, none⟩) h3).trans (h2 i hi), Nat.lt_of_lt_of_le h3 hb.size, Nat.lt_of_lt_of_le h4 hb.size⟩
theorem c_in (x l h : Int) (W : World) : Calls Tryd.prog 32 #[.int .i64 x, .int .i64 l, .int .i64 h] W (Ret W (· = .bool (decide (l ≤ x ∧ x ≤ h)))) := by
 by_cases h1 : l ≤ x
 ·have e : decide (l ≤ x ∧ x ≤ h) = decide (x ≤ h) := by simp [h1]
  rw [e]
  go_enter Tryd.func32, Tryd.ntmps32
  go_wp2
  go_ret
  exact ⟨_, rfl, rfl, Below.refl _ _⟩
 ·have e : decide (l ≤ x ∧ x ≤ h) = false := by simp [h1]
  rw [e]
  have h2 : x < l := by omega
  go_enter Tryd.func32, Tryd.ntmps32
  go_wp2
  go_ret
  exact ⟨_, rfl, rfl, Below.refl _ _⟩

set_option maxHeartbeats 4000000 in
set_option maxRecDepth 100000 in
theorem c_DevSize (k : Int) (w : World) (ht : Tab w) : Calls Tryd.prog 72 #[.int .i64 k] w (Ret w (· = .int .i64 (devSize k))) := by
 by_cases h : 1 ≤ k ∧ k ≤ 10
 ·have e_ : k = 1 ∨ k = 2 ∨ k = 3 ∨ k = 4 ∨ k = 5 ∨ k = 6 ∨ k = 7 ∨ k = 8 ∨ k = 9 ∨ k = 10 := by omega
  have HT := Aside0.mk ht
  rcases e_ with rfl | rfl | rfl | rfl | rfl | rfl | rfl | rfl | rfl | rfl
  all_goals
   go_enter Tryd.func72, Tryd.ntmps72
   go_wp2_with fail
   go_at_call 32
   refine (c_in _ _ _ _).mono ?_
   rintro e_ W_ ⟨v_, rfl, rfl, HB_⟩
   obtain ⟨b, off, cap, h1, h2, h3, h4⟩ := HT.out.below HB_
   clear HT h ht
   have hc1 := h2 1 (by decide)
   have hc2 := h2 2 (by decide)
   have hc3 := h2 3 (by decide)
   have hc4 := h2 4 (by decide)
   have hc5 := h2 5 (by decide)
   have hc6 := h2 6 (by decide)
   have hc7 := h2 7 (by decide)
   have hc8 := h2 8 (by decide)
   have hc9 := h2 9 (by decide)
   have hc10 := h2 10 (by decide)
   clear h2
   go_wp2
   go_ret
   exact ⟨_, rfl, rfl, HB_⟩
 ·have hz : devSize k = 0 := by unfold devSize; rw [if_neg h]
  rw [hz]
  have hd : decide (1 ≤ k ∧ k ≤ 10) = false := decide_eq_false h
  clear h hz ht
  go_enter Tryd.func72, Tryd.ntmps72
  go_wp2_with fail
  go_at_call 32
  refine (c_in _ _ _ _).mono ?_
  rintro e_ W_ ⟨v_, rfl, rfl, HB_⟩
  go_wp2
  go_ret
  exact ⟨_, rfl, rfl, HB_⟩

set_option maxHeartbeats 4000000 in
set_option maxRecDepth 100000 in
theorem c_place (k n p : Int) (w : World) (ht : Tab w) : Calls Tryd.prog 46 #[.agg #[.int .i64 k, .int .i64 n, .int .i64 p]] w (Ret w (· = .int .i64 (place k n))) := by
 have HS := Aside0.mk (Priv.nil w)
 have HT := Aside0.mk ht
 have hN := devN_in k
 have e_ : devN k = if k = 6 then 8 else devSize k := rfl
 have p_ : place k n = if devN k = 0 then 0 else Int.tmod (wrap64 (Int.tmod n (devN k) + devN k)) (devN k) := rfl
 by_cases h6 : k = 6
 ·rw [if_pos h6] at e_
  rw [e_, if_neg (by decide)] at p_
  rw [p_]
  subst h6
  clear p_ e_ hN ht
  go_enter Tryd.func46, Tryd.ntmps46
  go_wp2_with ((first | ((with_reducible refine gate_dst (N := 6) rfl ?_); refine call_ev2 HS.out rfl rfl Tryd.func72 (by kernel_rfl) rfl (by (try simp only [List.map_toArray, List.map_cons, List.map_nil]); first | done | rfl) (c_DevSize _ _ (HT.out.below HS.out.below)) ?_; rintro v_ W_ rfl HP HB_; clear HS; have HS := Aside0.mk HP; clear HP; clear HB_) | ((with_reducible refine gate_dst (N := 1) rfl ?_); (with_reducible refine box_new HS.out rfl rfl (by first | exact eval_tmp rfl | exact eval_const) ?_); intro g1 W1_ HP; clear HS; have HS := Aside0.mk HP; clear HP) | ((with_reducible refine gate_dst (N := 4) rfl ?_); (with_reducible refine field_at rfl rfl rfl fo61_0 ?_); (try simp only [toNat_16, toNat_12, Int.toNat_natCast, Nat.zero_add, Nat.add_zero, Nat.mul_one])) | ((with_reducible refine gate_dst (N := 5) rfl ?_); (with_reducible refine load_one HS.out rfl rfl on3 rfl (by first | exact at0 | exact at1 | exact at2 | exact at3 | exact at4 | exact at5 | exact at6) (by with_reducible first | exact dc_get _ _ (by omega) | exact rc_get _ _ (by omega) | exact at0a | exact at1a | exact at2a | exact at3a) ?_)) | ((with_reducible refine gate_dst (N := 7) rfl ?_); (with_reducible refine field_at rfl rfl rfl fo61_0 ?_); (try simp only [toNat_16, toNat_12, Int.toNat_natCast, Nat.zero_add, Nat.add_zero, Nat.mul_one])) | ((with_reducible refine gate_dst (N := 8) rfl ?_); (with_reducible refine load_one HS.out rfl rfl on3 rfl (by first | exact at0 | exact at1 | exact at2 | exact at3 | exact at4 | exact at5 | exact at6) (by with_reducible first | exact dc_get _ _ (by omega) | exact rc_get _ _ (by omega) | exact at0a | exact at1a | exact at2a | exact at3a) ?_)) | ((with_reducible refine gate_dst (N := 12) rfl ?_); (with_reducible refine field_at rfl rfl rfl fo61_1 ?_); (try simp only [toNat_16, toNat_12, Int.toNat_natCast, Nat.zero_add, Nat.add_zero, Nat.mul_one])) | ((with_reducible refine gate_dst (N := 13) rfl ?_); (with_reducible refine load_one HS.out rfl rfl on3 rfl (by first | exact at0 | exact at1 | exact at2 | exact at3 | exact at4 | exact at5 | exact at6) (by with_reducible first | exact dc_get _ _ (by omega) | exact rc_get _ _ (by omega) | exact at0a | exact at1a | exact at2a | exact at3a) ?_))); (try simp only [Act.put, List.setIfInBounds_toArray, List.set_cons_zero, List.set_cons_succ]))
  go_ret
  exact ⟨_, rfl, rfl, HS.out.below⟩
 ·rw [if_neg h6] at e_
  have b6 : (k == 6) = false := by simp; omega
  by_cases h0 : devN k = 0
  ·rw [if_pos h0] at p_
   rw [p_]
   have hd : devSize k = 0 := by omega
   clear p_ e_ hN ht h0
   go_enter Tryd.func46, Tryd.ntmps46
   go_wp2_with ((first | ((with_reducible refine gate_dst (N := 6) rfl ?_); refine call_ev2 HS.out rfl rfl Tryd.func72 (by kernel_rfl) rfl (by (try simp only [List.map_toArray, List.map_cons, List.map_nil]); first | done | rfl) (c_DevSize _ _ (HT.out.below HS.out.below)) ?_; rintro v_ W_ rfl HP HB_; clear HS; have HS := Aside0.mk HP; clear HP; clear HB_) | ((with_reducible refine gate_dst (N := 1) rfl ?_); (with_reducible refine box_new HS.out rfl rfl (by first | exact eval_tmp rfl | exact eval_const) ?_); intro g1 W1_ HP; clear HS; have HS := Aside0.mk HP; clear HP) | ((with_reducible refine gate_dst (N := 4) rfl ?_); (with_reducible refine field_at rfl rfl rfl fo61_0 ?_); (try simp only [toNat_16, toNat_12, Int.toNat_natCast, Nat.zero_add, Nat.add_zero, Nat.mul_one])) | ((with_reducible refine gate_dst (N := 5) rfl ?_); (with_reducible refine load_one HS.out rfl rfl on3 rfl (by first | exact at0 | exact at1 | exact at2 | exact at3 | exact at4 | exact at5 | exact at6) (by with_reducible first | exact dc_get _ _ (by omega) | exact rc_get _ _ (by omega) | exact at0a | exact at1a | exact at2a | exact at3a) ?_)) | ((with_reducible refine gate_dst (N := 7) rfl ?_); (with_reducible refine field_at rfl rfl rfl fo61_0 ?_); (try simp only [toNat_16, toNat_12, Int.toNat_natCast, Nat.zero_add, Nat.add_zero, Nat.mul_one])) | ((with_reducible refine gate_dst (N := 8) rfl ?_); (with_reducible refine load_one HS.out rfl rfl on3 rfl (by first | exact at0 | exact at1 | exact at2 | exact at3 | exact at4 | exact at5 | exact at6) (by with_reducible first | exact dc_get _ _ (by omega) | exact rc_get _ _ (by omega) | exact at0a | exact at1a | exact at2a | exact at3a) ?_))); (try simp only [Act.put, List.setIfInBounds_toArray, List.set_cons_zero, List.set_cons_succ]))
   go_ret
   exact ⟨_, rfl, rfl, HS.out.below⟩
  ·rw [if_neg h0, e_] at p_
   rw [p_]
   have hd : (devSize k == 0) = false := by simp; omega
   have hd2 : ¬ devSize k = 0 := by omega
   clear p_ hN ht h0
   go_enter Tryd.func46, Tryd.ntmps46
   go_wp2_with ((first | ((with_reducible refine gate_dst (N := 6) rfl ?_); refine call_ev2 HS.out rfl rfl Tryd.func72 (by kernel_rfl) rfl (by (try simp only [List.map_toArray, List.map_cons, List.map_nil]); first | done | rfl) (c_DevSize _ _ (HT.out.below HS.out.below)) ?_; rintro v_ W_ rfl HP HB_; clear HS; have HS := Aside0.mk HP; clear HP; clear HB_) | ((with_reducible refine gate_dst (N := 1) rfl ?_); (with_reducible refine box_new HS.out rfl rfl (by first | exact eval_tmp rfl | exact eval_const) ?_); intro g1 W1_ HP; clear HS; have HS := Aside0.mk HP; clear HP) | ((with_reducible refine gate_dst (N := 4) rfl ?_); (with_reducible refine field_at rfl rfl rfl fo61_0 ?_); (try simp only [toNat_16, toNat_12, Int.toNat_natCast, Nat.zero_add, Nat.add_zero, Nat.mul_one])) | ((with_reducible refine gate_dst (N := 5) rfl ?_); (with_reducible refine load_one HS.out rfl rfl on3 rfl (by first | exact at0 | exact at1 | exact at2 | exact at3 | exact at4 | exact at5 | exact at6) (by with_reducible first | exact dc_get _ _ (by omega) | exact rc_get _ _ (by omega) | exact at0a | exact at1a | exact at2a | exact at3a) ?_)) | ((with_reducible refine gate_dst (N := 7) rfl ?_); (with_reducible refine field_at rfl rfl rfl fo61_0 ?_); (try simp only [toNat_16, toNat_12, Int.toNat_natCast, Nat.zero_add, Nat.add_zero, Nat.mul_one])) | ((with_reducible refine gate_dst (N := 8) rfl ?_); (with_reducible refine load_one HS.out rfl rfl on3 rfl (by first | exact at0 | exact at1 | exact at2 | exact at3 | exact at4 | exact at5 | exact at6) (by with_reducible first | exact dc_get _ _ (by omega) | exact rc_get _ _ (by omega) | exact at0a | exact at1a | exact at2a | exact at3a) ?_)) | ((with_reducible refine gate_dst (N := 12) rfl ?_); (with_reducible refine field_at rfl rfl rfl fo61_1 ?_); (try simp only [toNat_16, toNat_12, Int.toNat_natCast, Nat.zero_add, Nat.add_zero, Nat.mul_one])) | ((with_reducible refine gate_dst (N := 13) rfl ?_); (with_reducible refine load_one HS.out rfl rfl on3 rfl (by first | exact at0 | exact at1 | exact at2 | exact at3 | exact at4 | exact at5 | exact at6) (by with_reducible first | exact dc_get _ _ (by omega) | exact rc_get _ _ (by omega) | exact at0a | exact at1a | exact at2a | exact at3a) ?_))); (try simp only [Act.put, List.setIfInBounds_toArray, List.set_cons_zero, List.set_cons_succ]))
   go_ret
   exact ⟨_, rfl, rfl, HS.out.below⟩

def testb (x : Int) (j : Nat) : Bool := decide (x / 2 ^ j % 2 = 1)
def membit (m : Mm) (k : Int) (j : Nat) : Bool :=
 if k = 1 then testb m.X j else if k = 2 then testb m.Y j else if k = 3 then testb m.M j else if k = 4 then testb m.S j else if k = 5 then testb m.E j
 else if k = 7 then (m.T j).1 else if k = 8 then (m.C j).1 else if k = 6 then [true, false, !m.Ran, m.Fault, decide (500 ≤ m.Time % 1000), false, false, false].getD j false else false
theorem div_in (x : Int) (j : Nat) (c : Int) (h0 : 0 ≤ x) (h1 : x < c) : 0 ≤ x / 2 ^ j ∧ x / 2 ^ j < c := by
 have hp : (0 : Int) < 2 ^ j := Int.pow_pos (by decide)
 exact ⟨Int.ediv_nonneg h0 (by omega), Int.lt_of_le_of_lt (Int.ediv_le_self _ h0) h1⟩
theorem tb (x : Int) (j : Nat) {y : Int} (h : y = x / 2 ^ j % 2) : (y == 1) = testb x j := by
 subst h
 unfold testb
 rw [Bool.eq_iff_iff]
 simp
theorem and1_32 (y : Int) (h0 : 0 ≤ y) (h1 : y < 4294967296) : bits .and .u32 y 1 = y % 2 := by
 have h := u32_and y 1 h0 h1 (by decide) (by decide)
 rw [h, show (1 : Int).toNat = 1 from rfl, Nat.and_one_is_mod]; omega
theorem and1_16 (y : Int) (h0 : 0 ≤ y) (h1 : y < 65536) : bits .and .u16 y 1 = y % 2 := by
 have h := u16_and y 1 h0 h1 (by decide) (by decide)
 rw [h, show (1 : Int).toNat = 1 from rfl, Nat.and_one_is_mod]; omega
theorem and1_64 (y : Int) (h0 : 0 ≤ y) (h1 : y < 18446744073709551616) : bits .and .u64 y 1 = y % 2 := by
 have h := u64_and y 1 h0 h1 (by decide) (by decide)
 rw [h, show (1 : Int).toNat = 1 from rfl, Nat.and_one_is_mod]; omega

set_option maxHeartbeats 4000000 in
set_option maxRecDepth 100000 in
theorem c_MemBit0 (m : Mm) (wf : m.wf) (k n p : Int) (j : Nat) (hj : place k n = j) (hlt : devN k ≠ 0 → (j : Int) < devN k) (w : World) (ht : Tab w) : Calls Tryd.prog 29 #[.agg (mc m), .agg #[.int .i64 k, .int .i64 n, .int .i64 p]] w (Ret w (· = .bool (membit m k j))) := by
 have HS := Aside0.mk (Priv.nil w)
 have HT := Aside0.mk ht
 clear ht
 by_cases h1 : k = 1
 ·subst h1
  have hlt2 : (j : Int) < 32 := hlt (by decide)
  have hd := div_in m.X j _ wf.X.1 wf.X.2
  have hb : (bits .and .u32 (m.X / 2 ^ j) 1 == 1) = testb m.X j := tb _ _ (and1_32 _ hd.1 hd.2)
  go_enter Tryd.func29, Tryd.ntmps29
  go_wp2_with ((first | ((with_reducible refine gate_dst (N := 7) rfl ?_); refine call_ev2 HS.out rfl rfl Tryd.func46 (by kernel_rfl) rfl (by (try simp only [List.map_toArray, List.map_cons, List.map_nil]); first | done | rfl) (c_place _ _ _ _ (HT.out.below HS.out.below)) ?_; rintro v_ W_ rfl HP HB_; clear HS; have HS := Aside0.mk HP; clear HP; clear HB_) | ((with_reducible refine gate_dst (N := 2) rfl ?_); (with_reducible refine box_new HS.out rfl rfl (by first | exact eval_tmp rfl | exact eval_const) ?_); intro g2 W2_ HP; clear HS; have HS := Aside0.mk HP; clear HP) | ((with_reducible refine gate_dst (N := 3) rfl ?_); (with_reducible refine box_new HS.out rfl rfl (by first | exact eval_tmp rfl | exact eval_const) ?_); intro g3 W3_ HP; clear HS; have HS := Aside0.mk HP; clear HP) | ((with_reducible refine gate_dst (N := 6) rfl ?_); (with_reducible refine load_seg HS.out rfl rfl ag61 rfl (by first | exact at0 | exact at1 | exact at2 | exact at3 | exact at4 | exact at5 | exact at6) (by with_reducible first | exact tc_el _ _ (by omega) | exact cc_el _ _ (by omega) | exact whole _) (by with_reducible first | exact mc_size _ | exact tc_size _ | exact cc_size _ | exact dc_size _ | exact rc_size _ | exact sz1 | exact sz2 | exact sz3 | exact sz4) ?_)) | ((with_reducible refine gate_dst (N := 8) rfl ?_); (with_reducible refine field_at rfl rfl rfl fo61_0 ?_); (try simp only [toNat_16, toNat_12, Int.toNat_natCast, Nat.zero_add, Nat.add_zero, Nat.mul_one])) | ((with_reducible refine gate_dst (N := 9) rfl ?_); (with_reducible refine load_one HS.out rfl rfl on3 rfl (by first | exact at0 | exact at1 | exact at2 | exact at3 | exact at4 | exact at5 | exact at6) (by with_reducible first | exact dc_get _ _ (by omega) | exact rc_get _ _ (by omega) | exact at0a | exact at1a | exact at2a | exact at3a) ?_)) | ((with_reducible refine gate_dst (N := 12) rfl ?_); (with_reducible refine field_at rfl rfl rfl fo46_0 ?_); (try simp only [toNat_16, toNat_12, Int.toNat_natCast, Nat.zero_add, Nat.add_zero, Nat.mul_one])) | ((with_reducible refine gate_dst (N := 13) rfl ?_); (with_reducible refine load_one HS.out rfl rfl on22 rfl (by first | exact at0 | exact at1 | exact at2 | exact at3 | exact at4 | exact at5 | exact at6) (by with_reducible exact get_X _) ?_))); (try simp only [Act.put, List.setIfInBounds_toArray, List.set_cons_zero, List.set_cons_succ]))
  go_ret
  exact ⟨_, rfl, congrArg Value.bool (by first | rfl | (rw [hb]; rfl) | exact hb), HS.out.below⟩
 by_cases h2 : k = 2
 ·subst h2
  have hlt2 : (j : Int) < 32 := hlt (by decide)
  have hd := div_in m.Y j _ wf.Y.1 wf.Y.2
  have hb : (bits .and .u32 (m.Y / 2 ^ j) 1 == 1) = testb m.Y j := tb _ _ (and1_32 _ hd.1 hd.2)
  go_enter Tryd.func29, Tryd.ntmps29
  go_wp2_with ((first | ((with_reducible refine gate_dst (N := 7) rfl ?_); refine call_ev2 HS.out rfl rfl Tryd.func46 (by kernel_rfl) rfl (by (try simp only [List.map_toArray, List.map_cons, List.map_nil]); first | done | rfl) (c_place _ _ _ _ (HT.out.below HS.out.below)) ?_; rintro v_ W_ rfl HP HB_; clear HS; have HS := Aside0.mk HP; clear HP; clear HB_) | ((with_reducible refine gate_dst (N := 2) rfl ?_); (with_reducible refine box_new HS.out rfl rfl (by first | exact eval_tmp rfl | exact eval_const) ?_); intro g2 W2_ HP; clear HS; have HS := Aside0.mk HP; clear HP) | ((with_reducible refine gate_dst (N := 3) rfl ?_); (with_reducible refine box_new HS.out rfl rfl (by first | exact eval_tmp rfl | exact eval_const) ?_); intro g3 W3_ HP; clear HS; have HS := Aside0.mk HP; clear HP) | ((with_reducible refine gate_dst (N := 6) rfl ?_); (with_reducible refine load_seg HS.out rfl rfl ag61 rfl (by first | exact at0 | exact at1 | exact at2 | exact at3 | exact at4 | exact at5 | exact at6) (by with_reducible first | exact tc_el _ _ (by omega) | exact cc_el _ _ (by omega) | exact whole _) (by with_reducible first | exact mc_size _ | exact tc_size _ | exact cc_size _ | exact dc_size _ | exact rc_size _ | exact sz1 | exact sz2 | exact sz3 | exact sz4) ?_)) | ((with_reducible refine gate_dst (N := 8) rfl ?_); (with_reducible refine field_at rfl rfl rfl fo61_0 ?_); (try simp only [toNat_16, toNat_12, Int.toNat_natCast, Nat.zero_add, Nat.add_zero, Nat.mul_one])) | ((with_reducible refine gate_dst (N := 9) rfl ?_); (with_reducible refine load_one HS.out rfl rfl on3 rfl (by first | exact at0 | exact at1 | exact at2 | exact at3 | exact at4 | exact at5 | exact at6) (by with_reducible first | exact dc_get _ _ (by omega) | exact rc_get _ _ (by omega) | exact at0a | exact at1a | exact at2a | exact at3a) ?_)) | ((with_reducible refine gate_dst (N := 20) rfl ?_); (with_reducible refine field_at rfl rfl rfl fo46_1 ?_); (try simp only [toNat_16, toNat_12, Int.toNat_natCast, Nat.zero_add, Nat.add_zero, Nat.mul_one])) | ((with_reducible refine gate_dst (N := 21) rfl ?_); (with_reducible refine load_one HS.out rfl rfl on22 rfl (by first | exact at0 | exact at1 | exact at2 | exact at3 | exact at4 | exact at5 | exact at6) (by with_reducible exact get_Y _) ?_))); (try simp only [Act.put, List.setIfInBounds_toArray, List.set_cons_zero, List.set_cons_succ]))
  go_ret
  exact ⟨_, rfl, congrArg Value.bool (by first | rfl | (rw [hb]; rfl) | exact hb), HS.out.below⟩
 by_cases h3 : k = 3
 ·subst h3
  have hlt2 : (j : Int) < 64 := hlt (by decide)
  have hd := div_in m.M j _ wf.M.1 wf.M.2
  have hb : (bits .and .u64 (m.M / 2 ^ j) 1 == 1) = testb m.M j := tb _ _ (and1_64 _ hd.1 hd.2)
  go_enter Tryd.func29, Tryd.ntmps29
  go_wp2_with ((first | ((with_reducible refine gate_dst (N := 7) rfl ?_); refine call_ev2 HS.out rfl rfl Tryd.func46 (by kernel_rfl) rfl (by (try simp only [List.map_toArray, List.map_cons, List.map_nil]); first | done | rfl) (c_place _ _ _ _ (HT.out.below HS.out.below)) ?_; rintro v_ W_ rfl HP HB_; clear HS; have HS := Aside0.mk HP; clear HP; clear HB_) | ((with_reducible refine gate_dst (N := 2) rfl ?_); (with_reducible refine box_new HS.out rfl rfl (by first | exact eval_tmp rfl | exact eval_const) ?_); intro g2 W2_ HP; clear HS; have HS := Aside0.mk HP; clear HP) | ((with_reducible refine gate_dst (N := 3) rfl ?_); (with_reducible refine box_new HS.out rfl rfl (by first | exact eval_tmp rfl | exact eval_const) ?_); intro g3 W3_ HP; clear HS; have HS := Aside0.mk HP; clear HP) | ((with_reducible refine gate_dst (N := 6) rfl ?_); (with_reducible refine load_seg HS.out rfl rfl ag61 rfl (by first | exact at0 | exact at1 | exact at2 | exact at3 | exact at4 | exact at5 | exact at6) (by with_reducible first | exact tc_el _ _ (by omega) | exact cc_el _ _ (by omega) | exact whole _) (by with_reducible first | exact mc_size _ | exact tc_size _ | exact cc_size _ | exact dc_size _ | exact rc_size _ | exact sz1 | exact sz2 | exact sz3 | exact sz4) ?_)) | ((with_reducible refine gate_dst (N := 8) rfl ?_); (with_reducible refine field_at rfl rfl rfl fo61_0 ?_); (try simp only [toNat_16, toNat_12, Int.toNat_natCast, Nat.zero_add, Nat.add_zero, Nat.mul_one])) | ((with_reducible refine gate_dst (N := 9) rfl ?_); (with_reducible refine load_one HS.out rfl rfl on3 rfl (by first | exact at0 | exact at1 | exact at2 | exact at3 | exact at4 | exact at5 | exact at6) (by with_reducible first | exact dc_get _ _ (by omega) | exact rc_get _ _ (by omega) | exact at0a | exact at1a | exact at2a | exact at3a) ?_)) | ((with_reducible refine gate_dst (N := 28) rfl ?_); (with_reducible refine field_at rfl rfl rfl fo46_2 ?_); (try simp only [toNat_16, toNat_12, Int.toNat_natCast, Nat.zero_add, Nat.add_zero, Nat.mul_one])) | ((with_reducible refine gate_dst (N := 29) rfl ?_); (with_reducible refine load_one HS.out rfl rfl on23 rfl (by first | exact at0 | exact at1 | exact at2 | exact at3 | exact at4 | exact at5 | exact at6) (by with_reducible exact get_M _) ?_))); (try simp only [Act.put, List.setIfInBounds_toArray, List.set_cons_zero, List.set_cons_succ]))
  go_ret
  exact ⟨_, rfl, congrArg Value.bool (by first | rfl | (rw [hb]; rfl) | exact hb), HS.out.below⟩
 by_cases h4 : k = 4
 ·subst h4
  have hlt2 : (j : Int) < 16 := hlt (by decide)
  have hd := div_in m.S j _ wf.S.1 wf.S.2
  have hb : (bits .and .u16 (m.S / 2 ^ j) 1 == 1) = testb m.S j := tb _ _ (and1_16 _ hd.1 hd.2)
  go_enter Tryd.func29, Tryd.ntmps29
  go_wp2_with ((first | ((with_reducible refine gate_dst (N := 7) rfl ?_); refine call_ev2 HS.out rfl rfl Tryd.func46 (by kernel_rfl) rfl (by (try simp only [List.map_toArray, List.map_cons, List.map_nil]); first | done | rfl) (c_place _ _ _ _ (HT.out.below HS.out.below)) ?_; rintro v_ W_ rfl HP HB_; clear HS; have HS := Aside0.mk HP; clear HP; clear HB_) | ((with_reducible refine gate_dst (N := 2) rfl ?_); (with_reducible refine box_new HS.out rfl rfl (by first | exact eval_tmp rfl | exact eval_const) ?_); intro g2 W2_ HP; clear HS; have HS := Aside0.mk HP; clear HP) | ((with_reducible refine gate_dst (N := 3) rfl ?_); (with_reducible refine box_new HS.out rfl rfl (by first | exact eval_tmp rfl | exact eval_const) ?_); intro g3 W3_ HP; clear HS; have HS := Aside0.mk HP; clear HP) | ((with_reducible refine gate_dst (N := 6) rfl ?_); (with_reducible refine load_seg HS.out rfl rfl ag61 rfl (by first | exact at0 | exact at1 | exact at2 | exact at3 | exact at4 | exact at5 | exact at6) (by with_reducible first | exact tc_el _ _ (by omega) | exact cc_el _ _ (by omega) | exact whole _) (by with_reducible first | exact mc_size _ | exact tc_size _ | exact cc_size _ | exact dc_size _ | exact rc_size _ | exact sz1 | exact sz2 | exact sz3 | exact sz4) ?_)) | ((with_reducible refine gate_dst (N := 8) rfl ?_); (with_reducible refine field_at rfl rfl rfl fo61_0 ?_); (try simp only [toNat_16, toNat_12, Int.toNat_natCast, Nat.zero_add, Nat.add_zero, Nat.mul_one])) | ((with_reducible refine gate_dst (N := 9) rfl ?_); (with_reducible refine load_one HS.out rfl rfl on3 rfl (by first | exact at0 | exact at1 | exact at2 | exact at3 | exact at4 | exact at5 | exact at6) (by with_reducible first | exact dc_get _ _ (by omega) | exact rc_get _ _ (by omega) | exact at0a | exact at1a | exact at2a | exact at3a) ?_)) | ((with_reducible refine gate_dst (N := 36) rfl ?_); (with_reducible refine field_at rfl rfl rfl fo46_3 ?_); (try simp only [toNat_16, toNat_12, Int.toNat_natCast, Nat.zero_add, Nat.add_zero, Nat.mul_one])) | ((with_reducible refine gate_dst (N := 37) rfl ?_); (with_reducible refine load_one HS.out rfl rfl on24 rfl (by first | exact at0 | exact at1 | exact at2 | exact at3 | exact at4 | exact at5 | exact at6) (by with_reducible exact get_S _) ?_))); (try simp only [Act.put, List.setIfInBounds_toArray, List.set_cons_zero, List.set_cons_succ]))
  go_ret
  exact ⟨_, rfl, congrArg Value.bool (by first | rfl | (rw [hb]; rfl) | exact hb), HS.out.below⟩
 by_cases h5 : k = 5
 ·subst h5
  have hlt2 : (j : Int) < 32 := hlt (by decide)
  have hd := div_in m.E j _ wf.E.1 wf.E.2
  have hb : (bits .and .u32 (m.E / 2 ^ j) 1 == 1) = testb m.E j := tb _ _ (and1_32 _ hd.1 hd.2)
  go_enter Tryd.func29, Tryd.ntmps29
  go_wp2_with ((first | ((with_reducible refine gate_dst (N := 7) rfl ?_); refine call_ev2 HS.out rfl rfl Tryd.func46 (by kernel_rfl) rfl (by (try simp only [List.map_toArray, List.map_cons, List.map_nil]); first | done | rfl) (c_place _ _ _ _ (HT.out.below HS.out.below)) ?_; rintro v_ W_ rfl HP HB_; clear HS; have HS := Aside0.mk HP; clear HP; clear HB_) | ((with_reducible refine gate_dst (N := 2) rfl ?_); (with_reducible refine box_new HS.out rfl rfl (by first | exact eval_tmp rfl | exact eval_const) ?_); intro g2 W2_ HP; clear HS; have HS := Aside0.mk HP; clear HP) | ((with_reducible refine gate_dst (N := 3) rfl ?_); (with_reducible refine box_new HS.out rfl rfl (by first | exact eval_tmp rfl | exact eval_const) ?_); intro g3 W3_ HP; clear HS; have HS := Aside0.mk HP; clear HP) | ((with_reducible refine gate_dst (N := 6) rfl ?_); (with_reducible refine load_seg HS.out rfl rfl ag61 rfl (by first | exact at0 | exact at1 | exact at2 | exact at3 | exact at4 | exact at5 | exact at6) (by with_reducible first | exact tc_el _ _ (by omega) | exact cc_el _ _ (by omega) | exact whole _) (by with_reducible first | exact mc_size _ | exact tc_size _ | exact cc_size _ | exact dc_size _ | exact rc_size _ | exact sz1 | exact sz2 | exact sz3 | exact sz4) ?_)) | ((with_reducible refine gate_dst (N := 8) rfl ?_); (with_reducible refine field_at rfl rfl rfl fo61_0 ?_); (try simp only [toNat_16, toNat_12, Int.toNat_natCast, Nat.zero_add, Nat.add_zero, Nat.mul_one])) | ((with_reducible refine gate_dst (N := 9) rfl ?_); (with_reducible refine load_one HS.out rfl rfl on3 rfl (by first | exact at0 | exact at1 | exact at2 | exact at3 | exact at4 | exact at5 | exact at6) (by with_reducible first | exact dc_get _ _ (by omega) | exact rc_get _ _ (by omega) | exact at0a | exact at1a | exact at2a | exact at3a) ?_)) | ((with_reducible refine gate_dst (N := 44) rfl ?_); (with_reducible refine field_at rfl rfl rfl fo46_4 ?_); (try simp only [toNat_16, toNat_12, Int.toNat_natCast, Nat.zero_add, Nat.add_zero, Nat.mul_one])) | ((with_reducible refine gate_dst (N := 45) rfl ?_); (with_reducible refine load_one HS.out rfl rfl on22 rfl (by first | exact at0 | exact at1 | exact at2 | exact at3 | exact at4 | exact at5 | exact at6) (by with_reducible exact get_E _) ?_))); (try simp only [Act.put, List.setIfInBounds_toArray, List.set_cons_zero, List.set_cons_succ]))
  go_ret
  exact ⟨_, rfl, congrArg Value.bool (by first | rfl | (rw [hb]; rfl) | exact hb), HS.out.below⟩
 by_cases h7 : k = 7
 ·subst h7
  have hlt2 : (j : Int) < 16 := hlt (by decide)
  go_enter Tryd.func29, Tryd.ntmps29
  go_wp2_with ((first | ((with_reducible refine gate_dst (N := 7) rfl ?_); refine call_ev2 HS.out rfl rfl Tryd.func46 (by kernel_rfl) rfl (by (try simp only [List.map_toArray, List.map_cons, List.map_nil]); first | done | rfl) (c_place _ _ _ _ (HT.out.below HS.out.below)) ?_; rintro v_ W_ rfl HP HB_; clear HS; have HS := Aside0.mk HP; clear HP; clear HB_) | ((with_reducible refine gate_dst (N := 2) rfl ?_); (with_reducible refine box_new HS.out rfl rfl (by first | exact eval_tmp rfl | exact eval_const) ?_); intro g2 W2_ HP; clear HS; have HS := Aside0.mk HP; clear HP) | ((with_reducible refine gate_dst (N := 3) rfl ?_); (with_reducible refine box_new HS.out rfl rfl (by first | exact eval_tmp rfl | exact eval_const) ?_); intro g3 W3_ HP; clear HS; have HS := Aside0.mk HP; clear HP) | ((with_reducible refine gate_dst (N := 6) rfl ?_); (with_reducible refine load_seg HS.out rfl rfl ag61 rfl (by first | exact at0 | exact at1 | exact at2 | exact at3 | exact at4 | exact at5 | exact at6) (by with_reducible first | exact tc_el _ _ (by omega) | exact cc_el _ _ (by omega) | exact whole _) (by with_reducible first | exact mc_size _ | exact tc_size _ | exact cc_size _ | exact dc_size _ | exact rc_size _ | exact sz1 | exact sz2 | exact sz3 | exact sz4) ?_)) | ((with_reducible refine gate_dst (N := 8) rfl ?_); (with_reducible refine field_at rfl rfl rfl fo61_0 ?_); (try simp only [toNat_16, toNat_12, Int.toNat_natCast, Nat.zero_add, Nat.add_zero, Nat.mul_one])) | ((with_reducible refine gate_dst (N := 9) rfl ?_); (with_reducible refine load_one HS.out rfl rfl on3 rfl (by first | exact at0 | exact at1 | exact at2 | exact at3 | exact at4 | exact at5 | exact at6) (by with_reducible first | exact dc_get _ _ (by omega) | exact rc_get _ _ (by omega) | exact at0a | exact at1a | exact at2a | exact at3a) ?_)) | ((with_reducible refine gate_dst (N := 53) rfl ?_); (with_reducible refine field_at rfl rfl rfl fo46_5 ?_); (try simp only [toNat_16, toNat_12, Int.toNat_natCast, Nat.zero_add, Nat.add_zero, Nat.mul_one])) | ((with_reducible refine gate_dst (N := 54) rfl ?_); (with_reducible refine index_at rfl rfl rfl rfl ar42 (by omega) (by omega) ?_); (try simp only [toNat_16, toNat_12, Int.toNat_natCast, Nat.zero_add, Nat.add_zero, Nat.mul_one])) | ((with_reducible refine gate_dst (N := 55) rfl ?_); (with_reducible refine field_at rfl rfl rfl fo41_0 ?_); (try simp only [toNat_16, toNat_12, Int.toNat_natCast, Nat.zero_add, Nat.add_zero, Nat.mul_one])) | ((with_reducible refine gate_dst (N := 56) rfl ?_); (with_reducible refine load_one HS.out rfl rfl on4 rfl (by first | exact at0 | exact at1 | exact at2 | exact at3 | exact at4 | exact at5 | exact at6) (by with_reducible first | exact el_T0 _ _ (by omega) | exact el_T1 _ _ (by omega)) ?_))); (try simp only [Act.put, List.setIfInBounds_toArray, List.set_cons_zero, List.set_cons_succ]))
  go_ret
  exact ⟨_, rfl, congrArg Value.bool (by simp only [hj, Int.toNat_natCast]; rfl), HS.out.below⟩
 by_cases h8 : k = 8
 ·subst h8
  have hlt2 : (j : Int) < 16 := hlt (by decide)
  go_enter Tryd.func29, Tryd.ntmps29
  go_wp2_with ((first | ((with_reducible refine gate_dst (N := 7) rfl ?_); refine call_ev2 HS.out rfl rfl Tryd.func46 (by kernel_rfl) rfl (by (try simp only [List.map_toArray, List.map_cons, List.map_nil]); first | done | rfl) (c_place _ _ _ _ (HT.out.below HS.out.below)) ?_; rintro v_ W_ rfl HP HB_; clear HS; have HS := Aside0.mk HP; clear HP; clear HB_) | ((with_reducible refine gate_dst (N := 2) rfl ?_); (with_reducible refine box_new HS.out rfl rfl (by first | exact eval_tmp rfl | exact eval_const) ?_); intro g2 W2_ HP; clear HS; have HS := Aside0.mk HP; clear HP) | ((with_reducible refine gate_dst (N := 3) rfl ?_); (with_reducible refine box_new HS.out rfl rfl (by first | exact eval_tmp rfl | exact eval_const) ?_); intro g3 W3_ HP; clear HS; have HS := Aside0.mk HP; clear HP) | ((with_reducible refine gate_dst (N := 6) rfl ?_); (with_reducible refine load_seg HS.out rfl rfl ag61 rfl (by first | exact at0 | exact at1 | exact at2 | exact at3 | exact at4 | exact at5 | exact at6) (by with_reducible first | exact tc_el _ _ (by omega) | exact cc_el _ _ (by omega) | exact whole _) (by with_reducible first | exact mc_size _ | exact tc_size _ | exact cc_size _ | exact dc_size _ | exact rc_size _ | exact sz1 | exact sz2 | exact sz3 | exact sz4) ?_)) | ((with_reducible refine gate_dst (N := 8) rfl ?_); (with_reducible refine field_at rfl rfl rfl fo61_0 ?_); (try simp only [toNat_16, toNat_12, Int.toNat_natCast, Nat.zero_add, Nat.add_zero, Nat.mul_one])) | ((with_reducible refine gate_dst (N := 9) rfl ?_); (with_reducible refine load_one HS.out rfl rfl on3 rfl (by first | exact at0 | exact at1 | exact at2 | exact at3 | exact at4 | exact at5 | exact at6) (by with_reducible first | exact dc_get _ _ (by omega) | exact rc_get _ _ (by omega) | exact at0a | exact at1a | exact at2a | exact at3a) ?_)) | ((with_reducible refine gate_dst (N := 60) rfl ?_); (with_reducible refine field_at rfl rfl rfl fo46_6 ?_); (try simp only [toNat_16, toNat_12, Int.toNat_natCast, Nat.zero_add, Nat.add_zero, Nat.mul_one])) | ((with_reducible refine gate_dst (N := 61) rfl ?_); (with_reducible refine index_at rfl rfl rfl rfl ar44 (by omega) (by omega) ?_); (try simp only [toNat_16, toNat_12, Int.toNat_natCast, Nat.zero_add, Nat.add_zero, Nat.mul_one])) | ((with_reducible refine gate_dst (N := 62) rfl ?_); (with_reducible refine field_at rfl rfl rfl fo43_0 ?_); (try simp only [toNat_16, toNat_12, Int.toNat_natCast, Nat.zero_add, Nat.add_zero, Nat.mul_one])) | ((with_reducible refine gate_dst (N := 63) rfl ?_); (with_reducible refine load_one HS.out rfl rfl on4 rfl (by first | exact at0 | exact at1 | exact at2 | exact at3 | exact at4 | exact at5 | exact at6) (by with_reducible first | exact el_C0 _ _ (by omega) | exact el_C1 _ _ (by omega) | exact el_C2 _ _ (by omega)) ?_))); (try simp only [Act.put, List.setIfInBounds_toArray, List.set_cons_zero, List.set_cons_succ]))
  go_ret
  exact ⟨_, rfl, congrArg Value.bool (by simp only [hj, Int.toNat_natCast]; rfl), HS.out.below⟩
 by_cases h6 : k = 6
 ·subst h6
  have hlt2 : (j : Int) < 8 := hlt (by decide)
  have htm : m.Time.tmod 1000 = m.Time % 1000 := Int.tmod_eq_emod_of_nonneg wf.Time.1
  have hv : ∀ a b c : Bool, [Value.bool true, .bool false, .bool a, .bool b, .bool c, .bool false, .bool false, .bool false][j]? = some (.bool ([true, false, a, b, c, false, false, false].getD j false)) := by
   intro a b c
   obtain rfl | rfl | rfl | rfl | rfl | rfl | rfl | rfl : j = 0 ∨ j = 1 ∨ j = 2 ∨ j = 3 ∨ j = 4 ∨ j = 5 ∨ j = 6 ∨ j = 7 := by omega
   all_goals rfl
  obtain ⟨r, hr⟩ : ∃ r, [true, false, !m.Ran, m.Fault, decide (500 ≤ m.Time % 1000), false, false, false].getD j false = r := ⟨_, rfl⟩
  have hv2 := hv (!m.Ran) m.Fault (decide (500 ≤ m.Time % 1000))
  rw [hr] at hv2
  have e_ : membit m 6 j = r := hr
  rw [e_]
  clear hv hr e_
  go_enter Tryd.func29, Tryd.ntmps29
  go_wp2_with ((first | ((with_reducible refine gate_dst (N := 7) rfl ?_); refine call_ev2 HS.out rfl rfl Tryd.func46 (by kernel_rfl) rfl (by (try simp only [List.map_toArray, List.map_cons, List.map_nil]); first | done | rfl) (c_place _ _ _ _ (HT.out.below HS.out.below)) ?_; rintro v_ W_ rfl HP HB_; clear HS; have HS := Aside0.mk HP; clear HP; clear HB_) | ((with_reducible refine gate_dst (N := 2) rfl ?_); (with_reducible refine box_new HS.out rfl rfl (by first | exact eval_tmp rfl | exact eval_const) ?_); intro g2 W2_ HP; clear HS; have HS := Aside0.mk HP; clear HP) | ((with_reducible refine gate_dst (N := 3) rfl ?_); (with_reducible refine box_new HS.out rfl rfl (by first | exact eval_tmp rfl | exact eval_const) ?_); intro g3 W3_ HP; clear HS; have HS := Aside0.mk HP; clear HP) | ((with_reducible refine gate_dst (N := 6) rfl ?_); (with_reducible refine load_seg HS.out rfl rfl ag61 rfl (by first | exact at0 | exact at1 | exact at2 | exact at3 | exact at4 | exact at5 | exact at6) (by with_reducible first | exact tc_el _ _ (by omega) | exact cc_el _ _ (by omega) | exact whole _) (by with_reducible first | exact mc_size _ | exact tc_size _ | exact cc_size _ | exact dc_size _ | exact rc_size _ | exact sz1 | exact sz2 | exact sz3 | exact sz4) ?_)) | ((with_reducible refine gate_dst (N := 8) rfl ?_); (with_reducible refine field_at rfl rfl rfl fo61_0 ?_); (try simp only [toNat_16, toNat_12, Int.toNat_natCast, Nat.zero_add, Nat.add_zero, Nat.mul_one])) | ((with_reducible refine gate_dst (N := 9) rfl ?_); (with_reducible refine load_one HS.out rfl rfl on3 rfl (by first | exact at0 | exact at1 | exact at2 | exact at3 | exact at4 | exact at5 | exact at6) (by with_reducible first | exact dc_get _ _ (by omega) | exact rc_get _ _ (by omega) | exact at0a | exact at1a | exact at2a | exact at3a) ?_)) | ((with_reducible refine gate_dst (N := 66) rfl ?_); (with_reducible refine field_at rfl rfl rfl fo46_10 ?_); (try simp only [toNat_16, toNat_12, Int.toNat_natCast, Nat.zero_add, Nat.add_zero, Nat.mul_one])) | ((with_reducible refine gate_dst (N := 67) rfl ?_); (with_reducible refine load_one HS.out rfl rfl on4 rfl (by first | exact at0 | exact at1 | exact at2 | exact at3 | exact at4 | exact at5 | exact at6) (by with_reducible exact get_Ran _) ?_)) | ((with_reducible refine gate_dst (N := 69) rfl ?_); (with_reducible refine field_at rfl rfl rfl fo46_11 ?_); (try simp only [toNat_16, toNat_12, Int.toNat_natCast, Nat.zero_add, Nat.add_zero, Nat.mul_one])) | ((with_reducible refine gate_dst (N := 70) rfl ?_); (with_reducible refine load_one HS.out rfl rfl on4 rfl (by first | exact at0 | exact at1 | exact at2 | exact at3 | exact at4 | exact at5 | exact at6) (by with_reducible exact get_Fault _) ?_)) | ((with_reducible refine gate_dst (N := 71) rfl ?_); (with_reducible refine field_at rfl rfl rfl fo46_9 ?_); (try simp only [toNat_16, toNat_12, Int.toNat_natCast, Nat.zero_add, Nat.add_zero, Nat.mul_one])) | ((with_reducible refine gate_dst (N := 72) rfl ?_); (with_reducible refine load_one HS.out rfl rfl on22 rfl (by first | exact at0 | exact at1 | exact at2 | exact at3 | exact at4 | exact at5 | exact at6) (by with_reducible exact get_Time _) ?_))); (try simp only [Act.put, List.setIfInBounds_toArray, List.set_cons_zero, List.set_cons_succ]))
  go_ret
  exact ⟨_, rfl, rfl, below_alloc HS.out.below _⟩
 have n1 : (k == 1) = false := by simp; omega
 have n2 : (k == 2) = false := by simp; omega
 have n3 : (k == 3) = false := by simp; omega
 have n4 : (k == 4) = false := by simp; omega
 have n5 : (k == 5) = false := by simp; omega
 have n6 : (k == 6) = false := by simp; omega
 have n7 : (k == 7) = false := by simp; omega
 have n8 : (k == 8) = false := by simp; omega
 have e_ : membit m k j = false := by unfold membit; simp only [h1, h2, h3, h4, h5, h6, h7, h8, if_false]
 rw [e_]
 clear h1 h2 h3 h4 h5 h6 h7 h8 e_
 go_enter Tryd.func29, Tryd.ntmps29
 go_wp2_with ((first | ((with_reducible refine gate_dst (N := 7) rfl ?_); refine call_ev2 HS.out rfl rfl Tryd.func46 (by kernel_rfl) rfl (by (try simp only [List.map_toArray, List.map_cons, List.map_nil]); first | done | rfl) (c_place _ _ _ _ (HT.out.below HS.out.below)) ?_; rintro v_ W_ rfl HP HB_; clear HS; have HS := Aside0.mk HP; clear HP; clear HB_) | ((with_reducible refine gate_dst (N := 2) rfl ?_); (with_reducible refine box_new HS.out rfl rfl (by first | exact eval_tmp rfl | exact eval_const) ?_); intro g2 W2_ HP; clear HS; have HS := Aside0.mk HP; clear HP) | ((with_reducible refine gate_dst (N := 3) rfl ?_); (with_reducible refine box_new HS.out rfl rfl (by first | exact eval_tmp rfl | exact eval_const) ?_); intro g3 W3_ HP; clear HS; have HS := Aside0.mk HP; clear HP) | ((with_reducible refine gate_dst (N := 6) rfl ?_); (with_reducible refine load_seg HS.out rfl rfl ag61 rfl (by first | exact at0 | exact at1 | exact at2 | exact at3 | exact at4 | exact at5 | exact at6) (by with_reducible first | exact tc_el _ _ (by omega) | exact cc_el _ _ (by omega) | exact whole _) (by with_reducible first | exact mc_size _ | exact tc_size _ | exact cc_size _ | exact dc_size _ | exact rc_size _ | exact sz1 | exact sz2 | exact sz3 | exact sz4) ?_)) | ((with_reducible refine gate_dst (N := 8) rfl ?_); (with_reducible refine field_at rfl rfl rfl fo61_0 ?_); (try simp only [toNat_16, toNat_12, Int.toNat_natCast, Nat.zero_add, Nat.add_zero, Nat.mul_one])) | ((with_reducible refine gate_dst (N := 9) rfl ?_); (with_reducible refine load_one HS.out rfl rfl on3 rfl (by first | exact at0 | exact at1 | exact at2 | exact at3 | exact at4 | exact at5 | exact at6) (by with_reducible first | exact dc_get _ _ (by omega) | exact rc_get _ _ (by omega) | exact at0a | exact at1a | exact at2a | exact at3a) ?_))); (try simp only [Act.put, List.setIfInBounds_toArray, List.set_cons_zero, List.set_cons_succ]))
 go_ret
 exact ⟨_, rfl, rfl, HS.out.below⟩

end Go.Proofs.YtaegonmpjgdmgaaDoor.K
