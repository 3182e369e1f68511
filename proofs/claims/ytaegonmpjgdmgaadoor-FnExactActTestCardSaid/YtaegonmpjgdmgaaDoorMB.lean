/- Walks over the ladders' memory: what the functions of this seat answer. -/
import Derived.Test.YtaegonmpjgdmgaaDoorProg
import Derived.Test.YtaegonmpjgdmgaaDoorMW
import Derived.WalkKit
import Derived.Deep.LoopGhost
import Derived.Deep.DeepCutAuto
import Derived.BigFrame
import Derived.Deep.QuietTactic
import Derived.BigQuiet
import Derived.Test.YtaegonmpjgdmgaaDoorMA
namespace Go.Proofs.YtaegonmpjgdmgaaDoor.K
open Go Go.RowKit Go.Proofs.YtaegonmpjgdmgaaDoorW Go.Proofs.YtaegonmpjgdmgaaDoorW.PrintWords Go.Proofs.YtaegonmpjgdmgaaDoor.MW
set_option linter.unusedVariables false
set_option linter.unusedSimpArgs false
set_option maxRecDepth 100000

theorem c_MemBit (m : Mm) (wf : m.wf) (k n p : Int) (w : World) (ht : Tab w) : Calls Tryd.prog 29 #[.agg (mc m), .agg #[.int .i64 k, .int .i64 n, .int .i64 p]] w (Ret w (· = .bool (membit m k (place k n).toNat))) := by
 have h := place_in k n
 exact c_MemBit0 m wf k n p _ (by omega) (fun h2 => by have := h.2 h2; omega) w ht
theorem c_bit (b : Bool) (w : World) : Calls Tryd.prog 73 #[.bool b] w (fun e w' => e = .returned (.int .u64 (if b then 1 else 0)) ∧ w' = w) := by
 cases b <;> (go_enter Tryd.func73, Tryd.ntmps73; go_wp2; go_ret; exact ⟨rfl, rfl⟩)
/-! ### Bits -/
def B (j q t r : Nat) : Nat := 2 ^ (j + 1) * q + (2 ^ j * t + r)
theorem tbB (j q t r i : Nat) (hr : r < 2 ^ j) (ht : t < 2) : (B j q t r).testBit i = if i < j then r.testBit i else if i = j then t.testBit 0 else q.testBit (i - (j + 1)) := by
 have h1 : 2 ^ j * t + r < 2 ^ (j + 1) := by
  rw [Nat.pow_succ]
  have : t = 0 ∨ t = 1 := by omega
  rcases this with rfl | rfl <;> omega
 unfold B
 rw [Nat.testBit_two_pow_mul_add _ h1]
 by_cases h : i < j + 1
 ·rw [if_pos h, Nat.testBit_two_pow_mul_add _ hr]
  by_cases h2 : i < j
  ·rw [if_pos h2, if_pos h2]
  ·have : i = j := by omega
   subst this
   simp
 ·rw [if_neg h, if_neg (by omega), if_neg (by omega)]
theorem B_of (x j : Nat) : ∃ q r, r < 2 ^ j ∧ x = B j q (x / 2 ^ j % 2) r := by
 refine ⟨x / 2 ^ (j + 1), x % 2 ^ j, Nat.mod_lt _ (Nat.two_pow_pos j), ?_⟩
 unfold B
 have h1 := Nat.div_add_mod x (2 ^ j)
 have h2 := Nat.div_add_mod (x / 2 ^ j) 2
 have h3 : x / 2 ^ j / 2 = x / 2 ^ (j + 1) := by rw [Nat.div_div_eq_div_mul, Nat.pow_succ]
 rw [h3] at h2
 have h4 : 2 ^ j * (x / 2 ^ j) = 2 ^ (j + 1) * (x / 2 ^ (j + 1)) + 2 ^ j * (x / 2 ^ j % 2) := by
  conv => lhs; rw [← h2]
  rw [Nat.mul_add, ← Nat.mul_assoc, Nat.pow_succ]
 omega
theorem B_and (w j q t r : Nat) (hr : r < 2 ^ j) (ht : t < 2) (hj : j < w) (hx : B j q t r < 2 ^ w) : B j q t r &&& (2 ^ w - (2 ^ j + 1)) = B j q 0 r := by
 apply Nat.eq_of_testBit_eq
 intro i
 rw [Nat.testBit_and, Nat.testBit_two_pow_sub_succ (Nat.pow_lt_pow_right (by decide) hj), Nat.testBit_two_pow, tbB j q 0 r i hr (by decide)]
 by_cases hi : i < w
 ·rw [tbB j q t r i hr ht]
  by_cases h : i < j
  ·simp [h, hi]; omega
  ·by_cases h2 : i = j
   ·subst h2; simp
   ·simp [h, h2, hi]; omega
 ·have h0 : (B j q t r).testBit i = false := Nat.testBit_lt_two_pow (Nat.lt_of_lt_of_le hx (Nat.pow_le_pow_right (by decide) (by omega)))
  rw [h0]
  rw [tbB j q t r i hr ht, if_neg (by omega), if_neg (by omega)] at h0
  rw [if_neg (by omega), if_neg (by omega), h0]
  simp
theorem B_or (j q r : Nat) (hr : r < 2 ^ j) : B j q 0 r ||| 2 ^ j = B j q 1 r := by
 apply Nat.eq_of_testBit_eq
 intro i
 rw [Nat.testBit_or, Nat.testBit_two_pow, tbB j q 0 r i hr (by decide), tbB j q 1 r i hr (by decide)]
 by_cases h : i < j
 ·simp [h]; omega
 ·by_cases h2 : i = j
  ·subst h2; simp
  ·simp [h, h2]; omega
def putn (x j : Nat) (b : Bool) : Nat := if b then (if x / 2 ^ j % 2 = 1 then x else x + 2 ^ j) else (if x / 2 ^ j % 2 = 1 then x - 2 ^ j else x)
theorem putn_B (j q t r : Nat) (b : Bool) (ht : t < 2) (he : B j q t r / 2 ^ j % 2 = t) : putn (B j q t r) j b = B j q (if b then 1 else 0) r := by
 unfold putn
 rw [he]
 have h : t = 0 ∨ t = 1 := by omega
 cases b <;> rcases h with rfl | rfl <;> simp [B] <;> omega
theorem put_bits (w x j : Nat) (b : Bool) (hj : j < w) (hx : x < 2 ^ w) : (x &&& (2 ^ w - (2 ^ j + 1))) ||| (if b then 2 ^ j else 0) = putn x j b := by
 obtain ⟨q, r, hr, e⟩ := B_of x j
 have ht : x / 2 ^ j % 2 < 2 := Nat.mod_lt _ (by decide)
 generalize x / 2 ^ j % 2 = t at *
 have he : B j q t r / 2 ^ j % 2 = t := by
  have h := tbB j q t r j hr ht
  rw [if_neg (by omega), if_pos rfl, Nat.testBit_eq_decide_div_mod_eq, Nat.testBit_eq_decide_div_mod_eq] at h
  have h2 : t = 0 ∨ t = 1 := by omega
  rcases h2 with rfl | rfl <;> simp at h <;> omega
 subst e
 rw [putn_B j q t r b ht he, B_and w j q t r hr ht hj hx]
 cases b
 ·simp
 ·simp only [if_true]; exact B_or j q r hr
theorem put_lt (w x j : Nat) (b : Bool) (hj : j < w) (hx : x < 2 ^ w) : putn x j b < 2 ^ w := by
 rw [← put_bits w x j b hj hx]
 refine Nat.or_lt_two_pow (Nat.lt_of_le_of_lt Nat.and_le_left hx) ?_
 cases b
 ·exact Nat.two_pow_pos w
 ·exact Nat.pow_lt_pow_right (by decide) hj
/-- A bit put. -/
def putb (x : Int) (j : Nat) (b : Bool) : Int := ((putn x.toNat j b : Nat) : Int)
theorem put16t (x : Int) (j : Nat) (h0 : 0 ≤ x) (h1 : x < 65536) (hj : j < 16) : bits .or .u16 (bits .andNot .u16 x (IntKind.u64.wrap (2 ^ j) % 65536)) (IntKind.u64.wrap (2 ^ j) % 65536) = putb x j true := by
 obtain ⟨x, rfl⟩ := Int.eq_ofNat_of_zero_le h0
 have hx : x < 2 ^ 16 := by omega
 have hp : 2 ^ j < 2 ^ 16 := Nat.pow_lt_pow_right (by decide) hj
 have e : (2 : Int) ^ j = ((2 ^ j : Nat) : Int) := by rw [Int.natCast_pow]; rfl
 have e3 : ∀ P : Nat, P < 65536 → IntKind.u64.wrap (P : Int) % 65536 = (P : Int) := fun P hP => by rw [IntKind.wrap_u64]; omega
 have e2 := e3 (2 ^ j) (by omega)
 have h := put_bits 16 x j true hj hx
 rw [e, e2, u16_andNot_nat x (2 ^ j) (by omega) (by omega)]
 have ha : x &&& (2 ^ 16 - (2 ^ j + 1)) < 65536 := Nat.lt_of_le_of_lt Nat.and_le_left (by omega)
 rw [show (65535 : Nat) - 2 ^ j = 2 ^ 16 - (2 ^ j + 1) by omega]
 rw [u16_or_nat _ _ ha (by omega)]
 show _ = ((putn x j true : Nat) : Int)
 rw [← h]
 rfl
theorem put16f (x : Int) (j : Nat) (h0 : 0 ≤ x) (h1 : x < 65536) (hj : j < 16) : bits .or .u16 (bits .andNot .u16 x (IntKind.u64.wrap (2 ^ j) % 65536)) (IntKind.u64.wrap 0 % 65536) = putb x j false := by
 obtain ⟨x, rfl⟩ := Int.eq_ofNat_of_zero_le h0
 have hx : x < 2 ^ 16 := by omega
 have hp : 2 ^ j < 2 ^ 16 := Nat.pow_lt_pow_right (by decide) hj
 have e : (2 : Int) ^ j = ((2 ^ j : Nat) : Int) := by rw [Int.natCast_pow]; rfl
 have e3 : ∀ P : Nat, P < 65536 → IntKind.u64.wrap (P : Int) % 65536 = (P : Int) := fun P hP => by rw [IntKind.wrap_u64]; omega
 have e2 := e3 (2 ^ j) (by omega)
 have h := put_bits 16 x j false hj hx
 rw [e, e2, u16_andNot_nat x (2 ^ j) (by omega) (by omega)]
 have ha : x &&& (2 ^ 16 - (2 ^ j + 1)) < 65536 := Nat.lt_of_le_of_lt Nat.and_le_left (by omega)
 rw [show (65535 : Nat) - 2 ^ j = 2 ^ 16 - (2 ^ j + 1) by omega]
 have z : IntKind.u64.wrap 0 % 65536 = ((0 : Nat) : Int) := by decide
 rw [z, u16_or_nat _ _ ha (by decide)]
 show _ = ((putn x j false : Nat) : Int)
 rw [← h]
 rfl
theorem put32t (x : Int) (j : Nat) (h0 : 0 ≤ x) (h1 : x < 4294967296) (hj : j < 32) : bits .or .u32 (bits .andNot .u32 x (IntKind.u64.wrap (2 ^ j) % 4294967296)) (IntKind.u64.wrap (2 ^ j) % 4294967296) = putb x j true := by
 obtain ⟨x, rfl⟩ := Int.eq_ofNat_of_zero_le h0
 have hx : x < 2 ^ 32 := by omega
 have hp : 2 ^ j < 2 ^ 32 := Nat.pow_lt_pow_right (by decide) hj
 have e : (2 : Int) ^ j = ((2 ^ j : Nat) : Int) := by rw [Int.natCast_pow]; rfl
 have e3 : ∀ P : Nat, P < 4294967296 → IntKind.u64.wrap (P : Int) % 4294967296 = (P : Int) := fun P hP => by rw [IntKind.wrap_u64]; omega
 have e2 := e3 (2 ^ j) (by omega)
 have h := put_bits 32 x j true hj hx
 rw [e, e2, u32_andNot_nat x (2 ^ j) (by omega) (by omega)]
 have ha : x &&& (2 ^ 32 - (2 ^ j + 1)) < 4294967296 := Nat.lt_of_le_of_lt Nat.and_le_left (by omega)
 rw [show (4294967295 : Nat) - 2 ^ j = 2 ^ 32 - (2 ^ j + 1) by omega]
 rw [u32_or_nat _ _ ha (by omega)]
 show _ = ((putn x j true : Nat) : Int)
 rw [← h]
 rfl
theorem put32f (x : Int) (j : Nat) (h0 : 0 ≤ x) (h1 : x < 4294967296) (hj : j < 32) : bits .or .u32 (bits .andNot .u32 x (IntKind.u64.wrap (2 ^ j) % 4294967296)) (IntKind.u64.wrap 0 % 4294967296) = putb x j false := by
 obtain ⟨x, rfl⟩ := Int.eq_ofNat_of_zero_le h0
 have hx : x < 2 ^ 32 := by omega
 have hp : 2 ^ j < 2 ^ 32 := Nat.pow_lt_pow_right (by decide) hj
 have e : (2 : Int) ^ j = ((2 ^ j : Nat) : Int) := by rw [Int.natCast_pow]; rfl
 have e3 : ∀ P : Nat, P < 4294967296 → IntKind.u64.wrap (P : Int) % 4294967296 = (P : Int) := fun P hP => by rw [IntKind.wrap_u64]; omega
 have e2 := e3 (2 ^ j) (by omega)
 have h := put_bits 32 x j false hj hx
 rw [e, e2, u32_andNot_nat x (2 ^ j) (by omega) (by omega)]
 have ha : x &&& (2 ^ 32 - (2 ^ j + 1)) < 4294967296 := Nat.lt_of_le_of_lt Nat.and_le_left (by omega)
 rw [show (4294967295 : Nat) - 2 ^ j = 2 ^ 32 - (2 ^ j + 1) by omega]
 have z : IntKind.u64.wrap 0 % 4294967296 = ((0 : Nat) : Int) := by decide
 rw [z, u32_or_nat _ _ ha (by decide)]
 show _ = ((putn x j false : Nat) : Int)
 rw [← h]
 rfl
theorem put64t (x : Int) (j : Nat) (h0 : 0 ≤ x) (h1 : x < 18446744073709551616) (hj : j < 64) : bits .or .u64 (bits .andNot .u64 x (IntKind.u64.wrap (2 ^ j))) (IntKind.u64.wrap (2 ^ j)) = putb x j true := by
 obtain ⟨x, rfl⟩ := Int.eq_ofNat_of_zero_le h0
 have hx : x < 2 ^ 64 := by omega
 have hp : 2 ^ j < 2 ^ 64 := Nat.pow_lt_pow_right (by decide) hj
 have e : (2 : Int) ^ j = ((2 ^ j : Nat) : Int) := by rw [Int.natCast_pow]; rfl
 have e3 : ∀ P : Nat, P < 18446744073709551616 → IntKind.u64.wrap (P : Int) = (P : Int) := fun P hP => by rw [IntKind.wrap_u64]; omega
 have e2 := e3 (2 ^ j) (by omega)
 have h := put_bits 64 x j true hj hx
 rw [e, e2, u64_andNot_nat x (2 ^ j) (by omega) (by omega)]
 have ha : x &&& (2 ^ 64 - (2 ^ j + 1)) < 18446744073709551616 := Nat.lt_of_le_of_lt Nat.and_le_left (by omega)
 rw [show (18446744073709551615 : Nat) - 2 ^ j = 2 ^ 64 - (2 ^ j + 1) by omega]
 rw [u64_or_nat _ _ ha (by omega)]
 show _ = ((putn x j true : Nat) : Int)
 rw [← h]
 rfl
theorem put64f (x : Int) (j : Nat) (h0 : 0 ≤ x) (h1 : x < 18446744073709551616) (hj : j < 64) : bits .or .u64 (bits .andNot .u64 x (IntKind.u64.wrap (2 ^ j))) (IntKind.u64.wrap 0) = putb x j false := by
 obtain ⟨x, rfl⟩ := Int.eq_ofNat_of_zero_le h0
 have hx : x < 2 ^ 64 := by omega
 have hp : 2 ^ j < 2 ^ 64 := Nat.pow_lt_pow_right (by decide) hj
 have e : (2 : Int) ^ j = ((2 ^ j : Nat) : Int) := by rw [Int.natCast_pow]; rfl
 have e3 : ∀ P : Nat, P < 18446744073709551616 → IntKind.u64.wrap (P : Int) = (P : Int) := fun P hP => by rw [IntKind.wrap_u64]; omega
 have e2 := e3 (2 ^ j) (by omega)
 have h := put_bits 64 x j false hj hx
 rw [e, e2, u64_andNot_nat x (2 ^ j) (by omega) (by omega)]
 have ha : x &&& (2 ^ 64 - (2 ^ j + 1)) < 18446744073709551616 := Nat.lt_of_le_of_lt Nat.and_le_left (by omega)
 rw [show (18446744073709551615 : Nat) - 2 ^ j = 2 ^ 64 - (2 ^ j + 1) by omega]
 have z : IntKind.u64.wrap 0 = ((0 : Nat) : Int) := by decide
 rw [z, u64_or_nat _ _ ha (by decide)]
 show _ = ((putn x j false : Nat) : Int)
 rw [← h]
 rfl
theorem testb_nat (x : Int) (j : Nat) (h0 : 0 ≤ x) : testb x j = x.toNat.testBit j := by
 obtain ⟨x, rfl⟩ := Int.eq_ofNat_of_zero_le h0
 unfold testb
 rw [Nat.testBit_eq_decide_div_mod_eq]
 have e : ((x : Int) / 2 ^ j % 2 = 1) ↔ (x / 2 ^ j % 2 = 1) := by
  have : ((x : Int) / 2 ^ j % 2) = ((x / 2 ^ j % 2 : Nat) : Int) := by push_cast; rfl
  omega
 exact decide_eq_decide.2 e
theorem pow_cast (w : Nat) : (2 : Int) ^ w = ((2 ^ w : Nat) : Int) := by rw [Int.natCast_pow]; rfl
theorem putb_in (w : Nat) (x : Int) (j : Nat) (b : Bool) (h0 : 0 ≤ x) (h1 : x < 2 ^ w) (hj : j < w) : 0 ≤ putb x j b ∧ putb x j b < 2 ^ w := by
 obtain ⟨x, rfl⟩ := Int.eq_ofNat_of_zero_le h0
 have hx : x < 2 ^ w := by rw [pow_cast] at h1; omega
 refine ⟨by unfold putb; omega, ?_⟩
 show ((putn x j b : Nat) : Int) < 2 ^ w
 have := put_lt w x j b hj hx
 rw [pow_cast]
 omega
def memput (m : Mm) (k : Int) (j : Nat) (b : Bool) : Mm :=
 if k = 2 then { m with Y := putb m.Y j b } else if k = 3 then { m with M := putb m.M j b } else if k = 4 then { m with S := putb m.S j b } else if k = 5 then { m with E := putb m.E j b } else m
set_option maxHeartbeats 4000000 in
set_option maxRecDepth 100000 in
theorem c_MemPut0 (m : Mm) (wf : m.wf) (k n p : Int) (b : Bool) (j : Nat) (hj : place k n = j) (hlt : devN k ≠ 0 → (j : Int) < devN k) (w : World) (ht : Tab w) : Calls Tryd.prog 47 #[.agg (mc m), .agg #[.int .i64 k, .int .i64 n, .int .i64 p], .bool b] w (Ret w (· = .agg (mc (memput m k j b)))) := by
 have HS := Aside0.mk (Priv.nil w)
 have HT := Aside0.mk ht
 clear ht
 by_cases h2 : k = 2
 ·subst h2
  have hlt2 : (j : Int) < 32 := hlt (by decide)
  cases b
  ·go_enter Tryd.func47, Tryd.ntmps47
   go_wp2_with ((first | ((with_reducible refine gate_dst (N := 11) rfl ?_); refine call_ev2 HS.out rfl rfl Tryd.func46 (by kernel_rfl) rfl (by (try simp only [List.map_toArray, List.map_cons, List.map_nil]); first | done | rfl) (c_place _ _ _ _ (HT.out.below HS.out.below)) ?_; rintro v_ W_ rfl HP HB_; clear HS; have HS := Aside0.mk HP; clear HP; clear HB_) | (first
   | ((with_reducible refine gate_region (id := 2) ?_); refine region_lit HS.out (by kernel_rfl) (by kernel_rfl) ?_; intro W_ HP HB_; clear HS; have HS := Aside0.mk HP; clear HP; clear HB_; (repeat (first
     | ((with_reducible refine st_gate (N := 15) rfl ?_); refine st_call rfl rfl Tryd.func73 (by kernel_rfl) rfl (c_bit _ _) (by (try simp only [List.map_toArray, List.map_cons, List.map_nil]); first | done | rfl) ?_)
     | still_step)); refine wpStill_nil ?_)
   | ((with_reducible refine gate_dst (N := 3) rfl ?_); (with_reducible refine box_new HS.out rfl rfl (by first | exact eval_tmp rfl | exact eval_const) ?_); intro g3 W3_ HP; clear HS; have HS := Aside0.mk HP; clear HP)
   | ((with_reducible refine gate_dst (N := 4) rfl ?_); (with_reducible refine box_new HS.out rfl rfl (by first | exact eval_tmp rfl | exact eval_const) ?_); intro g4 W4_ HP; clear HS; have HS := Aside0.mk HP; clear HP)
   | ((with_reducible refine gate_dst (N := 6) rfl ?_); (with_reducible refine alloc_new HS.out rfl rfl ze46 ?_); intro g6 W6_ HP; clear HS; have HS := Aside0.mk HP; clear HP)
   | ((with_reducible refine gate_dst (N := 10) rfl ?_); (with_reducible refine load_seg HS.out rfl rfl ag61 rfl (by first | exact at0 | exact at1 | exact at2 | exact at3 | exact at4 | exact at5 | exact at6) (by with_reducible first | exact tc_el _ _ (by omega) | exact cc_el _ _ (by omega) | exact whole _) (by with_reducible first | exact mc_size _ | exact tc_size _ | exact cc_size _ | exact dc_size _ | exact rc_size _ | exact sz1 | exact sz2 | exact sz3 | exact sz4) ?_))
   | ((with_reducible refine gate_dst (N := 18) rfl ?_); (with_reducible refine field_at rfl rfl rfl fo61_0 ?_); (try simp only [toNat_16, toNat_12, Int.toNat_natCast, Nat.zero_add, Nat.add_zero, Nat.mul_one]))
   | ((with_reducible refine gate_dst (N := 19) rfl ?_); (with_reducible refine load_one HS.out rfl rfl on3 rfl (by first | exact at0 | exact at1 | exact at2 | exact at3 | exact at4 | exact at5 | exact at6) (by with_reducible first | exact dc_get _ _ (by omega) | exact rc_get _ _ (by omega) | exact at0a | exact at1a | exact at2a | exact at3a) ?_))
   | ((with_reducible refine gate_dst (N := 22) rfl ?_); (with_reducible refine field_at rfl rfl rfl fo46_1 ?_); (try simp only [toNat_16, toNat_12, Int.toNat_natCast, Nat.zero_add, Nat.add_zero, Nat.mul_one]))
   | ((with_reducible refine gate_dst (N := 23) rfl ?_); (with_reducible refine load_one HS.out rfl rfl on22 rfl (by first | exact at0 | exact at1 | exact at2 | exact at3 | exact at4 | exact at5 | exact at6) (by with_reducible exact get_Y _) ?_))
   | ((with_reducible refine gate_dst (N := 30) rfl ?_); (with_reducible refine field_at rfl rfl rfl fo46_1 ?_); (try simp only [toNat_16, toNat_12, Int.toNat_natCast, Nat.zero_add, Nat.add_zero, Nat.mul_one]))
   | ((with_reducible refine gate_store (t := 22) (p := 30) rfl ?_); (with_reducible refine store_one HS.out rfl rfl rfl on22 rfl (by first | exact eval_tmp rfl | exact eval_const) (by first | exact at0 | exact at1 | exact at2 | exact at3 | exact at4 | exact at5 | exact at6) (by with_reducible exact set_Y _ _) (by simp only [mc_size, tc_size, cc_size, dc_size, rc_size, List.size_toArray, List.length_cons, List.length_nil]; omega) rfl rfl ?_); intro W_ HP; clear HS; have HS := Aside0.mk HP; clear HP; (try simp only [List.set_cons_zero, List.set_cons_succ] at HS))
   | ((with_reducible refine gate_dst (N := 62) rfl ?_); (with_reducible refine load_seg HS.out rfl rfl ag46 rfl (by first | exact at0 | exact at1 | exact at2 | exact at3 | exact at4 | exact at5 | exact at6) (by with_reducible first | exact tc_el _ _ (by omega) | exact cc_el _ _ (by omega) | exact whole _) (by with_reducible first | exact mc_size _ | exact tc_size _ | exact cc_size _ | exact dc_size _ | exact rc_size _ | exact sz1 | exact sz2 | exact sz3 | exact sz4) ?_))
   | ((with_reducible refine gate_store (t := 46) (p := 6) rfl ?_); (with_reducible refine store_seg HS.out rfl rfl rfl ag46 rfl (by first | exact eval_tmp rfl | exact eval_const) (by first | exact at0 | exact at1 | exact at2 | exact at3 | exact at4 | exact at5 | exact at6) (by with_reducible first | exact tc_put _ _ (by omega) _ _ | exact cc_put _ _ (by omega) _ _ _ | exact dc_put _ _ (by omega) _ | exact rc_put _ _ (by omega) _ | exact lay_mc _ _ | exact lay_tc _ _ | exact lay_cc _ _ | exact lay_dc _ _ | exact lay_rc _ _ | exact lay2_0 | exact lay2_1 | exact lay3_0 | exact lay3_1 | exact lay3_2 | exact lay2_w | exact lay3_w) (by with_reducible first | exact mc_size _ | exact tc_size _ | exact cc_size _ | exact dc_size _ | exact rc_size _ | exact sz1 | exact sz2 | exact sz3 | exact sz4) (by simp only [mc_size, tc_size, cc_size, dc_size, rc_size, List.size_toArray, List.length_cons, List.length_nil]; omega) (by first | (with_reducible first | exact mc_one _ | exact tc_one _ | exact cc_one _ | exact dc_one _ | exact rc_one _ | exact t2_one _ _ | exact t3_one _ _ _) | (simp [Value.oneCell']; done)) ?_); intro W_ HP; clear HS; have HS := Aside0.mk HP; clear HP; (try simp only [List.set_cons_zero, List.set_cons_succ] at HS)))); (try simp only [Act.put, List.setIfInBounds_toArray, List.set_cons_zero, List.set_cons_succ]))
   refine ret_agg HS.out (by rfl) (by rfl) (by rfl) (by first | exact at0 | exact at1 | exact at2 | exact at3 | exact at4 | exact at5 | exact at6) ag46 (by with_reducible first | exact mc_size _ | exact tc_size _ | exact cc_size _ | exact dc_size _ | exact rc_size _ | exact sz1 | exact sz2 | exact sz3 | exact sz4) ?_
   exact ⟨_, rfl, congrArg (fun y => Value.agg (mc { m with Y := y })) (put32f m.Y j wf.Y.1 wf.Y.2 (by omega)), HS.out.below⟩
  ·go_enter Tryd.func47, Tryd.ntmps47
   go_wp2_with ((first | ((with_reducible refine gate_dst (N := 11) rfl ?_); refine call_ev2 HS.out rfl rfl Tryd.func46 (by kernel_rfl) rfl (by (try simp only [List.map_toArray, List.map_cons, List.map_nil]); first | done | rfl) (c_place _ _ _ _ (HT.out.below HS.out.below)) ?_; rintro v_ W_ rfl HP HB_; clear HS; have HS := Aside0.mk HP; clear HP; clear HB_) | (first
   | ((with_reducible refine gate_region (id := 2) ?_); refine region_lit HS.out (by kernel_rfl) (by kernel_rfl) ?_; intro W_ HP HB_; clear HS; have HS := Aside0.mk HP; clear HP; clear HB_; (repeat (first
     | ((with_reducible refine st_gate (N := 15) rfl ?_); refine st_call rfl rfl Tryd.func73 (by kernel_rfl) rfl (c_bit _ _) (by (try simp only [List.map_toArray, List.map_cons, List.map_nil]); first | done | rfl) ?_)
     | still_step)); refine wpStill_nil ?_)
   | ((with_reducible refine gate_dst (N := 3) rfl ?_); (with_reducible refine box_new HS.out rfl rfl (by first | exact eval_tmp rfl | exact eval_const) ?_); intro g3 W3_ HP; clear HS; have HS := Aside0.mk HP; clear HP)
   | ((with_reducible refine gate_dst (N := 4) rfl ?_); (with_reducible refine box_new HS.out rfl rfl (by first | exact eval_tmp rfl | exact eval_const) ?_); intro g4 W4_ HP; clear HS; have HS := Aside0.mk HP; clear HP)
   | ((with_reducible refine gate_dst (N := 6) rfl ?_); (with_reducible refine alloc_new HS.out rfl rfl ze46 ?_); intro g6 W6_ HP; clear HS; have HS := Aside0.mk HP; clear HP)
   | ((with_reducible refine gate_dst (N := 10) rfl ?_); (with_reducible refine load_seg HS.out rfl rfl ag61 rfl (by first | exact at0 | exact at1 | exact at2 | exact at3 | exact at4 | exact at5 | exact at6) (by with_reducible first | exact tc_el _ _ (by omega) | exact cc_el _ _ (by omega) | exact whole _) (by with_reducible first | exact mc_size _ | exact tc_size _ | exact cc_size _ | exact dc_size _ | exact rc_size _ | exact sz1 | exact sz2 | exact sz3 | exact sz4) ?_))
   | ((with_reducible refine gate_dst (N := 18) rfl ?_); (with_reducible refine field_at rfl rfl rfl fo61_0 ?_); (try simp only [toNat_16, toNat_12, Int.toNat_natCast, Nat.zero_add, Nat.add_zero, Nat.mul_one]))
   | ((with_reducible refine gate_dst (N := 19) rfl ?_); (with_reducible refine load_one HS.out rfl rfl on3 rfl (by first | exact at0 | exact at1 | exact at2 | exact at3 | exact at4 | exact at5 | exact at6) (by with_reducible first | exact dc_get _ _ (by omega) | exact rc_get _ _ (by omega) | exact at0a | exact at1a | exact at2a | exact at3a) ?_))
   | ((with_reducible refine gate_dst (N := 22) rfl ?_); (with_reducible refine field_at rfl rfl rfl fo46_1 ?_); (try simp only [toNat_16, toNat_12, Int.toNat_natCast, Nat.zero_add, Nat.add_zero, Nat.mul_one]))
   | ((with_reducible refine gate_dst (N := 23) rfl ?_); (with_reducible refine load_one HS.out rfl rfl on22 rfl (by first | exact at0 | exact at1 | exact at2 | exact at3 | exact at4 | exact at5 | exact at6) (by with_reducible exact get_Y _) ?_))
   | ((with_reducible refine gate_dst (N := 30) rfl ?_); (with_reducible refine field_at rfl rfl rfl fo46_1 ?_); (try simp only [toNat_16, toNat_12, Int.toNat_natCast, Nat.zero_add, Nat.add_zero, Nat.mul_one]))
   | ((with_reducible refine gate_store (t := 22) (p := 30) rfl ?_); (with_reducible refine store_one HS.out rfl rfl rfl on22 rfl (by first | exact eval_tmp rfl | exact eval_const) (by first | exact at0 | exact at1 | exact at2 | exact at3 | exact at4 | exact at5 | exact at6) (by with_reducible exact set_Y _ _) (by simp only [mc_size, tc_size, cc_size, dc_size, rc_size, List.size_toArray, List.length_cons, List.length_nil]; omega) rfl rfl ?_); intro W_ HP; clear HS; have HS := Aside0.mk HP; clear HP; (try simp only [List.set_cons_zero, List.set_cons_succ] at HS))
   | ((with_reducible refine gate_dst (N := 62) rfl ?_); (with_reducible refine load_seg HS.out rfl rfl ag46 rfl (by first | exact at0 | exact at1 | exact at2 | exact at3 | exact at4 | exact at5 | exact at6) (by with_reducible first | exact tc_el _ _ (by omega) | exact cc_el _ _ (by omega) | exact whole _) (by with_reducible first | exact mc_size _ | exact tc_size _ | exact cc_size _ | exact dc_size _ | exact rc_size _ | exact sz1 | exact sz2 | exact sz3 | exact sz4) ?_))
   | ((with_reducible refine gate_store (t := 46) (p := 6) rfl ?_); (with_reducible refine store_seg HS.out rfl rfl rfl ag46 rfl (by first | exact eval_tmp rfl | exact eval_const) (by first | exact at0 | exact at1 | exact at2 | exact at3 | exact at4 | exact at5 | exact at6) (by with_reducible first | exact tc_put _ _ (by omega) _ _ | exact cc_put _ _ (by omega) _ _ _ | exact dc_put _ _ (by omega) _ | exact rc_put _ _ (by omega) _ | exact lay_mc _ _ | exact lay_tc _ _ | exact lay_cc _ _ | exact lay_dc _ _ | exact lay_rc _ _ | exact lay2_0 | exact lay2_1 | exact lay3_0 | exact lay3_1 | exact lay3_2 | exact lay2_w | exact lay3_w) (by with_reducible first | exact mc_size _ | exact tc_size _ | exact cc_size _ | exact dc_size _ | exact rc_size _ | exact sz1 | exact sz2 | exact sz3 | exact sz4) (by simp only [mc_size, tc_size, cc_size, dc_size, rc_size, List.size_toArray, List.length_cons, List.length_nil]; omega) (by first | (with_reducible first | exact mc_one _ | exact tc_one _ | exact cc_one _ | exact dc_one _ | exact rc_one _ | exact t2_one _ _ | exact t3_one _ _ _) | (simp [Value.oneCell']; done)) ?_); intro W_ HP; clear HS; have HS := Aside0.mk HP; clear HP; (try simp only [List.set_cons_zero, List.set_cons_succ] at HS)))); (try simp only [Act.put, List.setIfInBounds_toArray, List.set_cons_zero, List.set_cons_succ]))
   refine ret_agg HS.out (by rfl) (by rfl) (by rfl) (by first | exact at0 | exact at1 | exact at2 | exact at3 | exact at4 | exact at5 | exact at6) ag46 (by with_reducible first | exact mc_size _ | exact tc_size _ | exact cc_size _ | exact dc_size _ | exact rc_size _ | exact sz1 | exact sz2 | exact sz3 | exact sz4) ?_
   exact ⟨_, rfl, congrArg (fun y => Value.agg (mc { m with Y := y })) (put32t m.Y j wf.Y.1 wf.Y.2 (by omega)), HS.out.below⟩
 by_cases h3 : k = 3
 ·subst h3
  have hlt2 : (j : Int) < 64 := hlt (by decide)
  cases b
  ·go_enter Tryd.func47, Tryd.ntmps47
   go_wp2_with ((first | ((with_reducible refine gate_dst (N := 11) rfl ?_); refine call_ev2 HS.out rfl rfl Tryd.func46 (by kernel_rfl) rfl (by (try simp only [List.map_toArray, List.map_cons, List.map_nil]); first | done | rfl) (c_place _ _ _ _ (HT.out.below HS.out.below)) ?_; rintro v_ W_ rfl HP HB_; clear HS; have HS := Aside0.mk HP; clear HP; clear HB_) | (first
   | ((with_reducible refine gate_region (id := 2) ?_); refine region_lit HS.out (by kernel_rfl) (by kernel_rfl) ?_; intro W_ HP HB_; clear HS; have HS := Aside0.mk HP; clear HP; clear HB_; (repeat (first
     | ((with_reducible refine st_gate (N := 15) rfl ?_); refine st_call rfl rfl Tryd.func73 (by kernel_rfl) rfl (c_bit _ _) (by (try simp only [List.map_toArray, List.map_cons, List.map_nil]); first | done | rfl) ?_)
     | still_step)); refine wpStill_nil ?_)
   | ((with_reducible refine gate_dst (N := 3) rfl ?_); (with_reducible refine box_new HS.out rfl rfl (by first | exact eval_tmp rfl | exact eval_const) ?_); intro g3 W3_ HP; clear HS; have HS := Aside0.mk HP; clear HP)
   | ((with_reducible refine gate_dst (N := 4) rfl ?_); (with_reducible refine box_new HS.out rfl rfl (by first | exact eval_tmp rfl | exact eval_const) ?_); intro g4 W4_ HP; clear HS; have HS := Aside0.mk HP; clear HP)
   | ((with_reducible refine gate_dst (N := 6) rfl ?_); (with_reducible refine alloc_new HS.out rfl rfl ze46 ?_); intro g6 W6_ HP; clear HS; have HS := Aside0.mk HP; clear HP)
   | ((with_reducible refine gate_dst (N := 10) rfl ?_); (with_reducible refine load_seg HS.out rfl rfl ag61 rfl (by first | exact at0 | exact at1 | exact at2 | exact at3 | exact at4 | exact at5 | exact at6) (by with_reducible first | exact tc_el _ _ (by omega) | exact cc_el _ _ (by omega) | exact whole _) (by with_reducible first | exact mc_size _ | exact tc_size _ | exact cc_size _ | exact dc_size _ | exact rc_size _ | exact sz1 | exact sz2 | exact sz3 | exact sz4) ?_))
   | ((with_reducible refine gate_dst (N := 18) rfl ?_); (with_reducible refine field_at rfl rfl rfl fo61_0 ?_); (try simp only [toNat_16, toNat_12, Int.toNat_natCast, Nat.zero_add, Nat.add_zero, Nat.mul_one]))
   | ((with_reducible refine gate_dst (N := 19) rfl ?_); (with_reducible refine load_one HS.out rfl rfl on3 rfl (by first | exact at0 | exact at1 | exact at2 | exact at3 | exact at4 | exact at5 | exact at6) (by with_reducible first | exact dc_get _ _ (by omega) | exact rc_get _ _ (by omega) | exact at0a | exact at1a | exact at2a | exact at3a) ?_))
   | ((with_reducible refine gate_dst (N := 33) rfl ?_); (with_reducible refine field_at rfl rfl rfl fo46_2 ?_); (try simp only [toNat_16, toNat_12, Int.toNat_natCast, Nat.zero_add, Nat.add_zero, Nat.mul_one]))
   | ((with_reducible refine gate_dst (N := 34) rfl ?_); (with_reducible refine load_one HS.out rfl rfl on23 rfl (by first | exact at0 | exact at1 | exact at2 | exact at3 | exact at4 | exact at5 | exact at6) (by with_reducible exact get_M _) ?_))
   | ((with_reducible refine gate_dst (N := 39) rfl ?_); (with_reducible refine field_at rfl rfl rfl fo46_2 ?_); (try simp only [toNat_16, toNat_12, Int.toNat_natCast, Nat.zero_add, Nat.add_zero, Nat.mul_one]))
   | ((with_reducible refine gate_store (t := 23) (p := 39) rfl ?_); (with_reducible refine store_one HS.out rfl rfl rfl on23 rfl (by first | exact eval_tmp rfl | exact eval_const) (by first | exact at0 | exact at1 | exact at2 | exact at3 | exact at4 | exact at5 | exact at6) (by with_reducible exact set_M _ _) (by simp only [mc_size, tc_size, cc_size, dc_size, rc_size, List.size_toArray, List.length_cons, List.length_nil]; omega) rfl rfl ?_); intro W_ HP; clear HS; have HS := Aside0.mk HP; clear HP; (try simp only [List.set_cons_zero, List.set_cons_succ] at HS))
   | ((with_reducible refine gate_dst (N := 62) rfl ?_); (with_reducible refine load_seg HS.out rfl rfl ag46 rfl (by first | exact at0 | exact at1 | exact at2 | exact at3 | exact at4 | exact at5 | exact at6) (by with_reducible first | exact tc_el _ _ (by omega) | exact cc_el _ _ (by omega) | exact whole _) (by with_reducible first | exact mc_size _ | exact tc_size _ | exact cc_size _ | exact dc_size _ | exact rc_size _ | exact sz1 | exact sz2 | exact sz3 | exact sz4) ?_))
   | ((with_reducible refine gate_store (t := 46) (p := 6) rfl ?_); (with_reducible refine store_seg HS.out rfl rfl rfl ag46 rfl (by first | exact eval_tmp rfl | exact eval_const) (by first | exact at0 | exact at1 | exact at2 | exact at3 | exact at4 | exact at5 | exact at6) (by with_reducible first | exact tc_put _ _ (by omega) _ _ | exact cc_put _ _ (by omega) _ _ _ | exact dc_put _ _ (by omega) _ | exact rc_put _ _ (by omega) _ | exact lay_mc _ _ | exact lay_tc _ _ | exact lay_cc _ _ | exact lay_dc _ _ | exact lay_rc _ _ | exact lay2_0 | exact lay2_1 | exact lay3_0 | exact lay3_1 | exact lay3_2 | exact lay2_w | exact lay3_w) (by with_reducible first | exact mc_size _ | exact tc_size _ | exact cc_size _ | exact dc_size _ | exact rc_size _ | exact sz1 | exact sz2 | exact sz3 | exact sz4) (by simp only [mc_size, tc_size, cc_size, dc_size, rc_size, List.size_toArray, List.length_cons, List.length_nil]; omega) (by first | (with_reducible first | exact mc_one _ | exact tc_one _ | exact cc_one _ | exact dc_one _ | exact rc_one _ | exact t2_one _ _ | exact t3_one _ _ _) | (simp [Value.oneCell']; done)) ?_); intro W_ HP; clear HS; have HS := Aside0.mk HP; clear HP; (try simp only [List.set_cons_zero, List.set_cons_succ] at HS)))); (try simp only [Act.put, List.setIfInBounds_toArray, List.set_cons_zero, List.set_cons_succ]))
   refine ret_agg HS.out (by rfl) (by rfl) (by rfl) (by first | exact at0 | exact at1 | exact at2 | exact at3 | exact at4 | exact at5 | exact at6) ag46 (by with_reducible first | exact mc_size _ | exact tc_size _ | exact cc_size _ | exact dc_size _ | exact rc_size _ | exact sz1 | exact sz2 | exact sz3 | exact sz4) ?_
   exact ⟨_, rfl, congrArg (fun y => Value.agg (mc { m with M := y })) (put64f m.M j wf.M.1 wf.M.2 (by omega)), HS.out.below⟩
  ·go_enter Tryd.func47, Tryd.ntmps47
   go_wp2_with ((first | ((with_reducible refine gate_dst (N := 11) rfl ?_); refine call_ev2 HS.out rfl rfl Tryd.func46 (by kernel_rfl) rfl (by (try simp only [List.map_toArray, List.map_cons, List.map_nil]); first | done | rfl) (c_place _ _ _ _ (HT.out.below HS.out.below)) ?_; rintro v_ W_ rfl HP HB_; clear HS; have HS := Aside0.mk HP; clear HP; clear HB_) | (first
   | ((with_reducible refine gate_region (id := 2) ?_); refine region_lit HS.out (by kernel_rfl) (by kernel_rfl) ?_; intro W_ HP HB_; clear HS; have HS := Aside0.mk HP; clear HP; clear HB_; (repeat (first
     | ((with_reducible refine st_gate (N := 15) rfl ?_); refine st_call rfl rfl Tryd.func73 (by kernel_rfl) rfl (c_bit _ _) (by (try simp only [List.map_toArray, List.map_cons, List.map_nil]); first | done | rfl) ?_)
     | still_step)); refine wpStill_nil ?_)
   | ((with_reducible refine gate_dst (N := 3) rfl ?_); (with_reducible refine box_new HS.out rfl rfl (by first | exact eval_tmp rfl | exact eval_const) ?_); intro g3 W3_ HP; clear HS; have HS := Aside0.mk HP; clear HP)
   | ((with_reducible refine gate_dst (N := 4) rfl ?_); (with_reducible refine box_new HS.out rfl rfl (by first | exact eval_tmp rfl | exact eval_const) ?_); intro g4 W4_ HP; clear HS; have HS := Aside0.mk HP; clear HP)
   | ((with_reducible refine gate_dst (N := 6) rfl ?_); (with_reducible refine alloc_new HS.out rfl rfl ze46 ?_); intro g6 W6_ HP; clear HS; have HS := Aside0.mk HP; clear HP)
   | ((with_reducible refine gate_dst (N := 10) rfl ?_); (with_reducible refine load_seg HS.out rfl rfl ag61 rfl (by first | exact at0 | exact at1 | exact at2 | exact at3 | exact at4 | exact at5 | exact at6) (by with_reducible first | exact tc_el _ _ (by omega) | exact cc_el _ _ (by omega) | exact whole _) (by with_reducible first | exact mc_size _ | exact tc_size _ | exact cc_size _ | exact dc_size _ | exact rc_size _ | exact sz1 | exact sz2 | exact sz3 | exact sz4) ?_))
   | ((with_reducible refine gate_dst (N := 18) rfl ?_); (with_reducible refine field_at rfl rfl rfl fo61_0 ?_); (try simp only [toNat_16, toNat_12, Int.toNat_natCast, Nat.zero_add, Nat.add_zero, Nat.mul_one]))
   | ((with_reducible refine gate_dst (N := 19) rfl ?_); (with_reducible refine load_one HS.out rfl rfl on3 rfl (by first | exact at0 | exact at1 | exact at2 | exact at3 | exact at4 | exact at5 | exact at6) (by with_reducible first | exact dc_get _ _ (by omega) | exact rc_get _ _ (by omega) | exact at0a | exact at1a | exact at2a | exact at3a) ?_))
   | ((with_reducible refine gate_dst (N := 33) rfl ?_); (with_reducible refine field_at rfl rfl rfl fo46_2 ?_); (try simp only [toNat_16, toNat_12, Int.toNat_natCast, Nat.zero_add, Nat.add_zero, Nat.mul_one]))
   | ((with_reducible refine gate_dst (N := 34) rfl ?_); (with_reducible refine load_one HS.out rfl rfl on23 rfl (by first | exact at0 | exact at1 | exact at2 | exact at3 | exact at4 | exact at5 | exact at6) (by with_reducible exact get_M _) ?_))
   | ((with_reducible refine gate_dst (N := 39) rfl ?_); (with_reducible refine field_at rfl rfl rfl fo46_2 ?_); (try simp only [toNat_16, toNat_12, Int.toNat_natCast, Nat.zero_add, Nat.add_zero, Nat.mul_one]))
   | ((with_reducible refine gate_store (t := 23) (p := 39) rfl ?_); (with_reducible refine store_one HS.out rfl rfl rfl on23 rfl (by first | exact eval_tmp rfl | exact eval_const) (by first | exact at0 | exact at1 | exact at2 | exact at3 | exact at4 | exact at5 | exact at6) (by with_reducible exact set_M _ _) (by simp only [mc_size, tc_size, cc_size, dc_size, rc_size, List.size_toArray, List.length_cons, List.length_nil]; omega) rfl rfl ?_); intro W_ HP; clear HS; have HS := Aside0.mk HP; clear HP; (try simp only [List.set_cons_zero, List.set_cons_succ] at HS))
   | ((with_reducible refine gate_dst (N := 62) rfl ?_); (with_reducible refine load_seg HS.out rfl rfl ag46 rfl (by first | exact at0 | exact at1 | exact at2 | exact at3 | exact at4 | exact at5 | exact at6) (by with_reducible first | exact tc_el _ _ (by omega) | exact cc_el _ _ (by omega) | exact whole _) (by with_reducible first | exact mc_size _ | exact tc_size _ | exact cc_size _ | exact dc_size _ | exact rc_size _ | exact sz1 | exact sz2 | exact sz3 | exact sz4) ?_))
   | ((with_reducible refine gate_store (t := 46) (p := 6) rfl ?_); (with_reducible refine store_seg HS.out rfl rfl rfl ag46 rfl (by first | exact eval_tmp rfl | exact eval_const) (by first | exact at0 | exact at1 | exact at2 | exact at3 | exact at4 | exact at5 | exact at6) (by with_reducible first | exact tc_put _ _ (by omega) _ _ | exact cc_put _ _ (by omega) _ _ _ | exact dc_put _ _ (by omega) _ | exact rc_put _ _ (by omega) _ | exact lay_mc _ _ | exact lay_tc _ _ | exact lay_cc _ _ | exact lay_dc _ _ | exact lay_rc _ _ | exact lay2_0 | exact lay2_1 | exact lay3_0 | exact lay3_1 | exact lay3_2 | exact lay2_w | exact lay3_w) (by with_reducible first | exact mc_size _ | exact tc_size _ | exact cc_size _ | exact dc_size _ | exact rc_size _ | exact sz1 | exact sz2 | exact sz3 | exact sz4) (by simp only [mc_size, tc_size, cc_size, dc_size, rc_size, List.size_toArray, List.length_cons, List.length_nil]; omega) (by first | (with_reducible first | exact mc_one _ | exact tc_one _ | exact cc_one _ | exact dc_one _ | exact rc_one _ | exact t2_one _ _ | exact t3_one _ _ _) | (simp [Value.oneCell']; done)) ?_); intro W_ HP; clear HS; have HS := Aside0.mk HP; clear HP; (try simp only [List.set_cons_zero, List.set_cons_succ] at HS)))); (try simp only [Act.put, List.setIfInBounds_toArray, List.set_cons_zero, List.set_cons_succ]))
   refine ret_agg HS.out (by rfl) (by rfl) (by rfl) (by first | exact at0 | exact at1 | exact at2 | exact at3 | exact at4 | exact at5 | exact at6) ag46 (by with_reducible first | exact mc_size _ | exact tc_size _ | exact cc_size _ | exact dc_size _ | exact rc_size _ | exact sz1 | exact sz2 | exact sz3 | exact sz4) ?_
   exact ⟨_, rfl, congrArg (fun y => Value.agg (mc { m with M := y })) (put64t m.M j wf.M.1 wf.M.2 (by omega)), HS.out.below⟩
 by_cases h4 : k = 4
 ·subst h4
  have hlt2 : (j : Int) < 16 := hlt (by decide)
  cases b
  ·go_enter Tryd.func47, Tryd.ntmps47
   go_wp2_with ((first | ((with_reducible refine gate_dst (N := 11) rfl ?_); refine call_ev2 HS.out rfl rfl Tryd.func46 (by kernel_rfl) rfl (by (try simp only [List.map_toArray, List.map_cons, List.map_nil]); first | done | rfl) (c_place _ _ _ _ (HT.out.below HS.out.below)) ?_; rintro v_ W_ rfl HP HB_; clear HS; have HS := Aside0.mk HP; clear HP; clear HB_) | (first
   | ((with_reducible refine gate_region (id := 2) ?_); refine region_lit HS.out (by kernel_rfl) (by kernel_rfl) ?_; intro W_ HP HB_; clear HS; have HS := Aside0.mk HP; clear HP; clear HB_; (repeat (first
     | ((with_reducible refine st_gate (N := 15) rfl ?_); refine st_call rfl rfl Tryd.func73 (by kernel_rfl) rfl (c_bit _ _) (by (try simp only [List.map_toArray, List.map_cons, List.map_nil]); first | done | rfl) ?_)
     | still_step)); refine wpStill_nil ?_)
   | ((with_reducible refine gate_dst (N := 3) rfl ?_); (with_reducible refine box_new HS.out rfl rfl (by first | exact eval_tmp rfl | exact eval_const) ?_); intro g3 W3_ HP; clear HS; have HS := Aside0.mk HP; clear HP)
   | ((with_reducible refine gate_dst (N := 4) rfl ?_); (with_reducible refine box_new HS.out rfl rfl (by first | exact eval_tmp rfl | exact eval_const) ?_); intro g4 W4_ HP; clear HS; have HS := Aside0.mk HP; clear HP)
   | ((with_reducible refine gate_dst (N := 6) rfl ?_); (with_reducible refine alloc_new HS.out rfl rfl ze46 ?_); intro g6 W6_ HP; clear HS; have HS := Aside0.mk HP; clear HP)
   | ((with_reducible refine gate_dst (N := 10) rfl ?_); (with_reducible refine load_seg HS.out rfl rfl ag61 rfl (by first | exact at0 | exact at1 | exact at2 | exact at3 | exact at4 | exact at5 | exact at6) (by with_reducible first | exact tc_el _ _ (by omega) | exact cc_el _ _ (by omega) | exact whole _) (by with_reducible first | exact mc_size _ | exact tc_size _ | exact cc_size _ | exact dc_size _ | exact rc_size _ | exact sz1 | exact sz2 | exact sz3 | exact sz4) ?_))
   | ((with_reducible refine gate_dst (N := 18) rfl ?_); (with_reducible refine field_at rfl rfl rfl fo61_0 ?_); (try simp only [toNat_16, toNat_12, Int.toNat_natCast, Nat.zero_add, Nat.add_zero, Nat.mul_one]))
   | ((with_reducible refine gate_dst (N := 19) rfl ?_); (with_reducible refine load_one HS.out rfl rfl on3 rfl (by first | exact at0 | exact at1 | exact at2 | exact at3 | exact at4 | exact at5 | exact at6) (by with_reducible first | exact dc_get _ _ (by omega) | exact rc_get _ _ (by omega) | exact at0a | exact at1a | exact at2a | exact at3a) ?_))
   | ((with_reducible refine gate_dst (N := 42) rfl ?_); (with_reducible refine field_at rfl rfl rfl fo46_3 ?_); (try simp only [toNat_16, toNat_12, Int.toNat_natCast, Nat.zero_add, Nat.add_zero, Nat.mul_one]))
   | ((with_reducible refine gate_dst (N := 43) rfl ?_); (with_reducible refine load_one HS.out rfl rfl on24 rfl (by first | exact at0 | exact at1 | exact at2 | exact at3 | exact at4 | exact at5 | exact at6) (by with_reducible exact get_S _) ?_))
   | ((with_reducible refine gate_dst (N := 50) rfl ?_); (with_reducible refine field_at rfl rfl rfl fo46_3 ?_); (try simp only [toNat_16, toNat_12, Int.toNat_natCast, Nat.zero_add, Nat.add_zero, Nat.mul_one]))
   | ((with_reducible refine gate_store (t := 24) (p := 50) rfl ?_); (with_reducible refine store_one HS.out rfl rfl rfl on24 rfl (by first | exact eval_tmp rfl | exact eval_const) (by first | exact at0 | exact at1 | exact at2 | exact at3 | exact at4 | exact at5 | exact at6) (by with_reducible exact set_S _ _) (by simp only [mc_size, tc_size, cc_size, dc_size, rc_size, List.size_toArray, List.length_cons, List.length_nil]; omega) rfl rfl ?_); intro W_ HP; clear HS; have HS := Aside0.mk HP; clear HP; (try simp only [List.set_cons_zero, List.set_cons_succ] at HS))
   | ((with_reducible refine gate_dst (N := 62) rfl ?_); (with_reducible refine load_seg HS.out rfl rfl ag46 rfl (by first | exact at0 | exact at1 | exact at2 | exact at3 | exact at4 | exact at5 | exact at6) (by with_reducible first | exact tc_el _ _ (by omega) | exact cc_el _ _ (by omega) | exact whole _) (by with_reducible first | exact mc_size _ | exact tc_size _ | exact cc_size _ | exact dc_size _ | exact rc_size _ | exact sz1 | exact sz2 | exact sz3 | exact sz4) ?_))
   | ((with_reducible refine gate_store (t := 46) (p := 6) rfl ?_); (with_reducible refine store_seg HS.out rfl rfl rfl ag46 rfl (by first | exact eval_tmp rfl | exact eval_const) (by first | exact at0 | exact at1 | exact at2 | exact at3 | exact at4 | exact at5 | exact at6) (by with_reducible first | exact tc_put _ _ (by omega) _ _ | exact cc_put _ _ (by omega) _ _ _ | exact dc_put _ _ (by omega) _ | exact rc_put _ _ (by omega) _ | exact lay_mc _ _ | exact lay_tc _ _ | exact lay_cc _ _ | exact lay_dc _ _ | exact lay_rc _ _ | exact lay2_0 | exact lay2_1 | exact lay3_0 | exact lay3_1 | exact lay3_2 | exact lay2_w | exact lay3_w) (by with_reducible first | exact mc_size _ | exact tc_size _ | exact cc_size _ | exact dc_size _ | exact rc_size _ | exact sz1 | exact sz2 | exact sz3 | exact sz4) (by simp only [mc_size, tc_size, cc_size, dc_size, rc_size, List.size_toArray, List.length_cons, List.length_nil]; omega) (by first | (with_reducible first | exact mc_one _ | exact tc_one _ | exact cc_one _ | exact dc_one _ | exact rc_one _ | exact t2_one _ _ | exact t3_one _ _ _) | (simp [Value.oneCell']; done)) ?_); intro W_ HP; clear HS; have HS := Aside0.mk HP; clear HP; (try simp only [List.set_cons_zero, List.set_cons_succ] at HS)))); (try simp only [Act.put, List.setIfInBounds_toArray, List.set_cons_zero, List.set_cons_succ]))
   refine ret_agg HS.out (by rfl) (by rfl) (by rfl) (by first | exact at0 | exact at1 | exact at2 | exact at3 | exact at4 | exact at5 | exact at6) ag46 (by with_reducible first | exact mc_size _ | exact tc_size _ | exact cc_size _ | exact dc_size _ | exact rc_size _ | exact sz1 | exact sz2 | exact sz3 | exact sz4) ?_
   exact ⟨_, rfl, congrArg (fun y => Value.agg (mc { m with S := y })) (put16f m.S j wf.S.1 wf.S.2 (by omega)), HS.out.below⟩
  ·go_enter Tryd.func47, Tryd.ntmps47
   go_wp2_with ((first | ((with_reducible refine gate_dst (N := 11) rfl ?_); refine call_ev2 HS.out rfl rfl Tryd.func46 (by kernel_rfl) rfl (by (try simp only [List.map_toArray, List.map_cons, List.map_nil]); first | done | rfl) (c_place _ _ _ _ (HT.out.below HS.out.below)) ?_; rintro v_ W_ rfl HP HB_; clear HS; have HS := Aside0.mk HP; clear HP; clear HB_) | (first
   | ((with_reducible refine gate_region (id := 2) ?_); refine region_lit HS.out (by kernel_rfl) (by kernel_rfl) ?_; intro W_ HP HB_; clear HS; have HS := Aside0.mk HP; clear HP; clear HB_; (repeat (first
     | ((with_reducible refine st_gate (N := 15) rfl ?_); refine st_call rfl rfl Tryd.func73 (by kernel_rfl) rfl (c_bit _ _) (by (try simp only [List.map_toArray, List.map_cons, List.map_nil]); first | done | rfl) ?_)
     | still_step)); refine wpStill_nil ?_)
   | ((with_reducible refine gate_dst (N := 3) rfl ?_); (with_reducible refine box_new HS.out rfl rfl (by first | exact eval_tmp rfl | exact eval_const) ?_); intro g3 W3_ HP; clear HS; have HS := Aside0.mk HP; clear HP)
   | ((with_reducible refine gate_dst (N := 4) rfl ?_); (with_reducible refine box_new HS.out rfl rfl (by first | exact eval_tmp rfl | exact eval_const) ?_); intro g4 W4_ HP; clear HS; have HS := Aside0.mk HP; clear HP)
   | ((with_reducible refine gate_dst (N := 6) rfl ?_); (with_reducible refine alloc_new HS.out rfl rfl ze46 ?_); intro g6 W6_ HP; clear HS; have HS := Aside0.mk HP; clear HP)
   | ((with_reducible refine gate_dst (N := 10) rfl ?_); (with_reducible refine load_seg HS.out rfl rfl ag61 rfl (by first | exact at0 | exact at1 | exact at2 | exact at3 | exact at4 | exact at5 | exact at6) (by with_reducible first | exact tc_el _ _ (by omega) | exact cc_el _ _ (by omega) | exact whole _) (by with_reducible first | exact mc_size _ | exact tc_size _ | exact cc_size _ | exact dc_size _ | exact rc_size _ | exact sz1 | exact sz2 | exact sz3 | exact sz4) ?_))
   | ((with_reducible refine gate_dst (N := 18) rfl ?_); (with_reducible refine field_at rfl rfl rfl fo61_0 ?_); (try simp only [toNat_16, toNat_12, Int.toNat_natCast, Nat.zero_add, Nat.add_zero, Nat.mul_one]))
   | ((with_reducible refine gate_dst (N := 19) rfl ?_); (with_reducible refine load_one HS.out rfl rfl on3 rfl (by first | exact at0 | exact at1 | exact at2 | exact at3 | exact at4 | exact at5 | exact at6) (by with_reducible first | exact dc_get _ _ (by omega) | exact rc_get _ _ (by omega) | exact at0a | exact at1a | exact at2a | exact at3a) ?_))
   | ((with_reducible refine gate_dst (N := 42) rfl ?_); (with_reducible refine field_at rfl rfl rfl fo46_3 ?_); (try simp only [toNat_16, toNat_12, Int.toNat_natCast, Nat.zero_add, Nat.add_zero, Nat.mul_one]))
   | ((with_reducible refine gate_dst (N := 43) rfl ?_); (with_reducible refine load_one HS.out rfl rfl on24 rfl (by first | exact at0 | exact at1 | exact at2 | exact at3 | exact at4 | exact at5 | exact at6) (by with_reducible exact get_S _) ?_))
   | ((with_reducible refine gate_dst (N := 50) rfl ?_); (with_reducible refine field_at rfl rfl rfl fo46_3 ?_); (try simp only [toNat_16, toNat_12, Int.toNat_natCast, Nat.zero_add, Nat.add_zero, Nat.mul_one]))
   | ((with_reducible refine gate_store (t := 24) (p := 50) rfl ?_); (with_reducible refine store_one HS.out rfl rfl rfl on24 rfl (by first | exact eval_tmp rfl | exact eval_const) (by first | exact at0 | exact at1 | exact at2 | exact at3 | exact at4 | exact at5 | exact at6) (by with_reducible exact set_S _ _) (by simp only [mc_size, tc_size, cc_size, dc_size, rc_size, List.size_toArray, List.length_cons, List.length_nil]; omega) rfl rfl ?_); intro W_ HP; clear HS; have HS := Aside0.mk HP; clear HP; (try simp only [List.set_cons_zero, List.set_cons_succ] at HS))
   | ((with_reducible refine gate_dst (N := 62) rfl ?_); (with_reducible refine load_seg HS.out rfl rfl ag46 rfl (by first | exact at0 | exact at1 | exact at2 | exact at3 | exact at4 | exact at5 | exact at6) (by with_reducible first | exact tc_el _ _ (by omega) | exact cc_el _ _ (by omega) | exact whole _) (by with_reducible first | exact mc_size _ | exact tc_size _ | exact cc_size _ | exact dc_size _ | exact rc_size _ | exact sz1 | exact sz2 | exact sz3 | exact sz4) ?_))
   | ((with_reducible refine gate_store (t := 46) (p := 6) rfl ?_); (with_reducible refine store_seg HS.out rfl rfl rfl ag46 rfl (by first | exact eval_tmp rfl | exact eval_const) (by first | exact at0 | exact at1 | exact at2 | exact at3 | exact at4 | exact at5 | exact at6) (by with_reducible first | exact tc_put _ _ (by omega) _ _ | exact cc_put _ _ (by omega) _ _ _ | exact dc_put _ _ (by omega) _ | exact rc_put _ _ (by omega) _ | exact lay_mc _ _ | exact lay_tc _ _ | exact lay_cc _ _ | exact lay_dc _ _ | exact lay_rc _ _ | exact lay2_0 | exact lay2_1 | exact lay3_0 | exact lay3_1 | exact lay3_2 | exact lay2_w | exact lay3_w) (by with_reducible first | exact mc_size _ | exact tc_size _ | exact cc_size _ | exact dc_size _ | exact rc_size _ | exact sz1 | exact sz2 | exact sz3 | exact sz4) (by simp only [mc_size, tc_size, cc_size, dc_size, rc_size, List.size_toArray, List.length_cons, List.length_nil]; omega) (by first | (with_reducible first | exact mc_one _ | exact tc_one _ | exact cc_one _ | exact dc_one _ | exact rc_one _ | exact t2_one _ _ | exact t3_one _ _ _) | (simp [Value.oneCell']; done)) ?_); intro W_ HP; clear HS; have HS := Aside0.mk HP; clear HP; (try simp only [List.set_cons_zero, List.set_cons_succ] at HS)))); (try simp only [Act.put, List.setIfInBounds_toArray, List.set_cons_zero, List.set_cons_succ]))
   refine ret_agg HS.out (by rfl) (by rfl) (by rfl) (by first | exact at0 | exact at1 | exact at2 | exact at3 | exact at4 | exact at5 | exact at6) ag46 (by with_reducible first | exact mc_size _ | exact tc_size _ | exact cc_size _ | exact dc_size _ | exact rc_size _ | exact sz1 | exact sz2 | exact sz3 | exact sz4) ?_
   exact ⟨_, rfl, congrArg (fun y => Value.agg (mc { m with S := y })) (put16t m.S j wf.S.1 wf.S.2 (by omega)), HS.out.below⟩
 by_cases h5 : k = 5
 ·subst h5
  have hlt2 : (j : Int) < 32 := hlt (by decide)
  cases b
  ·go_enter Tryd.func47, Tryd.ntmps47
   go_wp2_with ((first | ((with_reducible refine gate_dst (N := 11) rfl ?_); refine call_ev2 HS.out rfl rfl Tryd.func46 (by kernel_rfl) rfl (by (try simp only [List.map_toArray, List.map_cons, List.map_nil]); first | done | rfl) (c_place _ _ _ _ (HT.out.below HS.out.below)) ?_; rintro v_ W_ rfl HP HB_; clear HS; have HS := Aside0.mk HP; clear HP; clear HB_) | (first
   | ((with_reducible refine gate_region (id := 2) ?_); refine region_lit HS.out (by kernel_rfl) (by kernel_rfl) ?_; intro W_ HP HB_; clear HS; have HS := Aside0.mk HP; clear HP; clear HB_; (repeat (first
     | ((with_reducible refine st_gate (N := 15) rfl ?_); refine st_call rfl rfl Tryd.func73 (by kernel_rfl) rfl (c_bit _ _) (by (try simp only [List.map_toArray, List.map_cons, List.map_nil]); first | done | rfl) ?_)
     | still_step)); refine wpStill_nil ?_)
   | ((with_reducible refine gate_dst (N := 3) rfl ?_); (with_reducible refine box_new HS.out rfl rfl (by first | exact eval_tmp rfl | exact eval_const) ?_); intro g3 W3_ HP; clear HS; have HS := Aside0.mk HP; clear HP)
   | ((with_reducible refine gate_dst (N := 4) rfl ?_); (with_reducible refine box_new HS.out rfl rfl (by first | exact eval_tmp rfl | exact eval_const) ?_); intro g4 W4_ HP; clear HS; have HS := Aside0.mk HP; clear HP)
   | ((with_reducible refine gate_dst (N := 6) rfl ?_); (with_reducible refine alloc_new HS.out rfl rfl ze46 ?_); intro g6 W6_ HP; clear HS; have HS := Aside0.mk HP; clear HP)
   | ((with_reducible refine gate_dst (N := 10) rfl ?_); (with_reducible refine load_seg HS.out rfl rfl ag61 rfl (by first | exact at0 | exact at1 | exact at2 | exact at3 | exact at4 | exact at5 | exact at6) (by with_reducible first | exact tc_el _ _ (by omega) | exact cc_el _ _ (by omega) | exact whole _) (by with_reducible first | exact mc_size _ | exact tc_size _ | exact cc_size _ | exact dc_size _ | exact rc_size _ | exact sz1 | exact sz2 | exact sz3 | exact sz4) ?_))
   | ((with_reducible refine gate_dst (N := 18) rfl ?_); (with_reducible refine field_at rfl rfl rfl fo61_0 ?_); (try simp only [toNat_16, toNat_12, Int.toNat_natCast, Nat.zero_add, Nat.add_zero, Nat.mul_one]))
   | ((with_reducible refine gate_dst (N := 19) rfl ?_); (with_reducible refine load_one HS.out rfl rfl on3 rfl (by first | exact at0 | exact at1 | exact at2 | exact at3 | exact at4 | exact at5 | exact at6) (by with_reducible first | exact dc_get _ _ (by omega) | exact rc_get _ _ (by omega) | exact at0a | exact at1a | exact at2a | exact at3a) ?_))
   | ((with_reducible refine gate_dst (N := 53) rfl ?_); (with_reducible refine field_at rfl rfl rfl fo46_4 ?_); (try simp only [toNat_16, toNat_12, Int.toNat_natCast, Nat.zero_add, Nat.add_zero, Nat.mul_one]))
   | ((with_reducible refine gate_dst (N := 54) rfl ?_); (with_reducible refine load_one HS.out rfl rfl on22 rfl (by first | exact at0 | exact at1 | exact at2 | exact at3 | exact at4 | exact at5 | exact at6) (by with_reducible exact get_E _) ?_))
   | ((with_reducible refine gate_dst (N := 61) rfl ?_); (with_reducible refine field_at rfl rfl rfl fo46_4 ?_); (try simp only [toNat_16, toNat_12, Int.toNat_natCast, Nat.zero_add, Nat.add_zero, Nat.mul_one]))
   | ((with_reducible refine gate_store (t := 22) (p := 61) rfl ?_); (with_reducible refine store_one HS.out rfl rfl rfl on22 rfl (by first | exact eval_tmp rfl | exact eval_const) (by first | exact at0 | exact at1 | exact at2 | exact at3 | exact at4 | exact at5 | exact at6) (by with_reducible exact set_E _ _) (by simp only [mc_size, tc_size, cc_size, dc_size, rc_size, List.size_toArray, List.length_cons, List.length_nil]; omega) rfl rfl ?_); intro W_ HP; clear HS; have HS := Aside0.mk HP; clear HP; (try simp only [List.set_cons_zero, List.set_cons_succ] at HS))
   | ((with_reducible refine gate_dst (N := 62) rfl ?_); (with_reducible refine load_seg HS.out rfl rfl ag46 rfl (by first | exact at0 | exact at1 | exact at2 | exact at3 | exact at4 | exact at5 | exact at6) (by with_reducible first | exact tc_el _ _ (by omega) | exact cc_el _ _ (by omega) | exact whole _) (by with_reducible first | exact mc_size _ | exact tc_size _ | exact cc_size _ | exact dc_size _ | exact rc_size _ | exact sz1 | exact sz2 | exact sz3 | exact sz4) ?_))
   | ((with_reducible refine gate_store (t := 46) (p := 6) rfl ?_); (with_reducible refine store_seg HS.out rfl rfl rfl ag46 rfl (by first | exact eval_tmp rfl | exact eval_const) (by first | exact at0 | exact at1 | exact at2 | exact at3 | exact at4 | exact at5 | exact at6) (by with_reducible first | exact tc_put _ _ (by omega) _ _ | exact cc_put _ _ (by omega) _ _ _ | exact dc_put _ _ (by omega) _ | exact rc_put _ _ (by omega) _ | exact lay_mc _ _ | exact lay_tc _ _ | exact lay_cc _ _ | exact lay_dc _ _ | exact lay_rc _ _ | exact lay2_0 | exact lay2_1 | exact lay3_0 | exact lay3_1 | exact lay3_2 | exact lay2_w | exact lay3_w) (by with_reducible first | exact mc_size _ | exact tc_size _ | exact cc_size _ | exact dc_size _ | exact rc_size _ | exact sz1 | exact sz2 | exact sz3 | exact sz4) (by simp only [mc_size, tc_size, cc_size, dc_size, rc_size, List.size_toArray, List.length_cons, List.length_nil]; omega) (by first | (with_reducible first | exact mc_one _ | exact tc_one _ | exact cc_one _ | exact dc_one _ | exact rc_one _ | exact t2_one _ _ | exact t3_one _ _ _) | (simp [Value.oneCell']; done)) ?_); intro W_ HP; clear HS; have HS := Aside0.mk HP; clear HP; (try simp only [List.set_cons_zero, List.set_cons_succ] at HS)))); (try simp only [Act.put, List.setIfInBounds_toArray, List.set_cons_zero, List.set_cons_succ]))
   refine ret_agg HS.out (by rfl) (by rfl) (by rfl) (by first | exact at0 | exact at1 | exact at2 | exact at3 | exact at4 | exact at5 | exact at6) ag46 (by with_reducible first | exact mc_size _ | exact tc_size _ | exact cc_size _ | exact dc_size _ | exact rc_size _ | exact sz1 | exact sz2 | exact sz3 | exact sz4) ?_
   exact ⟨_, rfl, congrArg (fun y => Value.agg (mc { m with E := y })) (put32f m.E j wf.E.1 wf.E.2 (by omega)), HS.out.below⟩
  ·go_enter Tryd.func47, Tryd.ntmps47
   go_wp2_with ((first | ((with_reducible refine gate_dst (N := 11) rfl ?_); refine call_ev2 HS.out rfl rfl Tryd.func46 (by kernel_rfl) rfl (by (try simp only [List.map_toArray, List.map_cons, List.map_nil]); first | done | rfl) (c_place _ _ _ _ (HT.out.below HS.out.below)) ?_; rintro v_ W_ rfl HP HB_; clear HS; have HS := Aside0.mk HP; clear HP; clear HB_) | (first
   | ((with_reducible refine gate_region (id := 2) ?_); refine region_lit HS.out (by kernel_rfl) (by kernel_rfl) ?_; intro W_ HP HB_; clear HS; have HS := Aside0.mk HP; clear HP; clear HB_; (repeat (first
     | ((with_reducible refine st_gate (N := 15) rfl ?_); refine st_call rfl rfl Tryd.func73 (by kernel_rfl) rfl (c_bit _ _) (by (try simp only [List.map_toArray, List.map_cons, List.map_nil]); first | done | rfl) ?_)
     | still_step)); refine wpStill_nil ?_)
   | ((with_reducible refine gate_dst (N := 3) rfl ?_); (with_reducible refine box_new HS.out rfl rfl (by first | exact eval_tmp rfl | exact eval_const) ?_); intro g3 W3_ HP; clear HS; have HS := Aside0.mk HP; clear HP)
   | ((with_reducible refine gate_dst (N := 4) rfl ?_); (with_reducible refine box_new HS.out rfl rfl (by first | exact eval_tmp rfl | exact eval_const) ?_); intro g4 W4_ HP; clear HS; have HS := Aside0.mk HP; clear HP)
   | ((with_reducible refine gate_dst (N := 6) rfl ?_); (with_reducible refine alloc_new HS.out rfl rfl ze46 ?_); intro g6 W6_ HP; clear HS; have HS := Aside0.mk HP; clear HP)
   | ((with_reducible refine gate_dst (N := 10) rfl ?_); (with_reducible refine load_seg HS.out rfl rfl ag61 rfl (by first | exact at0 | exact at1 | exact at2 | exact at3 | exact at4 | exact at5 | exact at6) (by with_reducible first | exact tc_el _ _ (by omega) | exact cc_el _ _ (by omega) | exact whole _) (by with_reducible first | exact mc_size _ | exact tc_size _ | exact cc_size _ | exact dc_size _ | exact rc_size _ | exact sz1 | exact sz2 | exact sz3 | exact sz4) ?_))
   | ((with_reducible refine gate_dst (N := 18) rfl ?_); (with_reducible refine field_at rfl rfl rfl fo61_0 ?_); (try simp only [toNat_16, toNat_12, Int.toNat_natCast, Nat.zero_add, Nat.add_zero, Nat.mul_one]))
   | ((with_reducible refine gate_dst (N := 19) rfl ?_); (with_reducible refine load_one HS.out rfl rfl on3 rfl (by first | exact at0 | exact at1 | exact at2 | exact at3 | exact at4 | exact at5 | exact at6) (by with_reducible first | exact dc_get _ _ (by omega) | exact rc_get _ _ (by omega) | exact at0a | exact at1a | exact at2a | exact at3a) ?_))
   | ((with_reducible refine gate_dst (N := 53) rfl ?_); (with_reducible refine field_at rfl rfl rfl fo46_4 ?_); (try simp only [toNat_16, toNat_12, Int.toNat_natCast, Nat.zero_add, Nat.add_zero, Nat.mul_one]))
   | ((with_reducible refine gate_dst (N := 54) rfl ?_); (with_reducible refine load_one HS.out rfl rfl on22 rfl (by first | exact at0 | exact at1 | exact at2 | exact at3 | exact at4 | exact at5 | exact at6) (by with_reducible exact get_E _) ?_))
   | ((with_reducible refine gate_dst (N := 61) rfl ?_); (with_reducible refine field_at rfl rfl rfl fo46_4 ?_); (try simp only [toNat_16, toNat_12, Int.toNat_natCast, Nat.zero_add, Nat.add_zero, Nat.mul_one]))
   | ((with_reducible refine gate_store (t := 22) (p := 61) rfl ?_); (with_reducible refine store_one HS.out rfl rfl rfl on22 rfl (by first | exact eval_tmp rfl | exact eval_const) (by first | exact at0 | exact at1 | exact at2 | exact at3 | exact at4 | exact at5 | exact at6) (by with_reducible exact set_E _ _) (by simp only [mc_size, tc_size, cc_size, dc_size, rc_size, List.size_toArray, List.length_cons, List.length_nil]; omega) rfl rfl ?_); intro W_ HP; clear HS; have HS := Aside0.mk HP; clear HP; (try simp only [List.set_cons_zero, List.set_cons_succ] at HS))
   | ((with_reducible refine gate_dst (N := 62) rfl ?_); (with_reducible refine load_seg HS.out rfl rfl ag46 rfl (by first | exact at0 | exact at1 | exact at2 | exact at3 | exact at4 | exact at5 | exact at6) (by with_reducible first | exact tc_el _ _ (by omega) | exact cc_el _ _ (by omega) | exact whole _) (by with_reducible first | exact mc_size _ | exact tc_size _ | exact cc_size _ | exact dc_size _ | exact rc_size _ | exact sz1 | exact sz2 | exact sz3 | exact sz4) ?_))
   | ((with_reducible refine gate_store (t := 46) (p := 6) rfl ?_); (with_reducible refine store_seg HS.out rfl rfl rfl ag46 rfl (by first | exact eval_tmp rfl | exact eval_const) (by first | exact at0 | exact at1 | exact at2 | exact at3 | exact at4 | exact at5 | exact at6) (by with_reducible first | exact tc_put _ _ (by omega) _ _ | exact cc_put _ _ (by omega) _ _ _ | exact dc_put _ _ (by omega) _ | exact rc_put _ _ (by omega) _ | exact lay_mc _ _ | exact lay_tc _ _ | exact lay_cc _ _ | exact lay_dc _ _ | exact lay_rc _ _ | exact lay2_0 | exact lay2_1 | exact lay3_0 | exact lay3_1 | exact lay3_2 | exact lay2_w | exact lay3_w) (by with_reducible first | exact mc_size _ | exact tc_size _ | exact cc_size _ | exact dc_size _ | exact rc_size _ | exact sz1 | exact sz2 | exact sz3 | exact sz4) (by simp only [mc_size, tc_size, cc_size, dc_size, rc_size, List.size_toArray, List.length_cons, List.length_nil]; omega) (by first | (with_reducible first | exact mc_one _ | exact tc_one _ | exact cc_one _ | exact dc_one _ | exact rc_one _ | exact t2_one _ _ | exact t3_one _ _ _) | (simp [Value.oneCell']; done)) ?_); intro W_ HP; clear HS; have HS := Aside0.mk HP; clear HP; (try simp only [List.set_cons_zero, List.set_cons_succ] at HS)))); (try simp only [Act.put, List.setIfInBounds_toArray, List.set_cons_zero, List.set_cons_succ]))
   refine ret_agg HS.out (by rfl) (by rfl) (by rfl) (by first | exact at0 | exact at1 | exact at2 | exact at3 | exact at4 | exact at5 | exact at6) ag46 (by with_reducible first | exact mc_size _ | exact tc_size _ | exact cc_size _ | exact dc_size _ | exact rc_size _ | exact sz1 | exact sz2 | exact sz3 | exact sz4) ?_
   exact ⟨_, rfl, congrArg (fun y => Value.agg (mc { m with E := y })) (put32t m.E j wf.E.1 wf.E.2 (by omega)), HS.out.below⟩
 have n2 : (k == 2) = false := by simp; omega
 have n3 : (k == 3) = false := by simp; omega
 have n4 : (k == 4) = false := by simp; omega
 have n5 : (k == 5) = false := by simp; omega
 have e_ : memput m k j b = m := by unfold memput; simp only [h2, h3, h4, h5, if_false]
 rw [e_]
 clear h2 h3 h4 h5 e_
 cases b
 ·go_enter Tryd.func47, Tryd.ntmps47
  go_wp2_with ((first | ((with_reducible refine gate_dst (N := 11) rfl ?_); refine call_ev2 HS.out rfl rfl Tryd.func46 (by kernel_rfl) rfl (by (try simp only [List.map_toArray, List.map_cons, List.map_nil]); first | done | rfl) (c_place _ _ _ _ (HT.out.below HS.out.below)) ?_; rintro v_ W_ rfl HP HB_; clear HS; have HS := Aside0.mk HP; clear HP; clear HB_) | (first
   | ((with_reducible refine gate_region (id := 2) ?_); refine region_lit HS.out (by kernel_rfl) (by kernel_rfl) ?_; intro W_ HP HB_; clear HS; have HS := Aside0.mk HP; clear HP; clear HB_; (repeat (first
     | ((with_reducible refine st_gate (N := 15) rfl ?_); refine st_call rfl rfl Tryd.func73 (by kernel_rfl) rfl (c_bit _ _) (by (try simp only [List.map_toArray, List.map_cons, List.map_nil]); first | done | rfl) ?_)
     | still_step)); refine wpStill_nil ?_)
   | ((with_reducible refine gate_dst (N := 3) rfl ?_); (with_reducible refine box_new HS.out rfl rfl (by first | exact eval_tmp rfl | exact eval_const) ?_); intro g3 W3_ HP; clear HS; have HS := Aside0.mk HP; clear HP)
   | ((with_reducible refine gate_dst (N := 4) rfl ?_); (with_reducible refine box_new HS.out rfl rfl (by first | exact eval_tmp rfl | exact eval_const) ?_); intro g4 W4_ HP; clear HS; have HS := Aside0.mk HP; clear HP)
   | ((with_reducible refine gate_dst (N := 6) rfl ?_); (with_reducible refine alloc_new HS.out rfl rfl ze46 ?_); intro g6 W6_ HP; clear HS; have HS := Aside0.mk HP; clear HP)
   | ((with_reducible refine gate_dst (N := 10) rfl ?_); (with_reducible refine load_seg HS.out rfl rfl ag61 rfl (by first | exact at0 | exact at1 | exact at2 | exact at3 | exact at4 | exact at5 | exact at6) (by with_reducible first | exact tc_el _ _ (by omega) | exact cc_el _ _ (by omega) | exact whole _) (by with_reducible first | exact mc_size _ | exact tc_size _ | exact cc_size _ | exact dc_size _ | exact rc_size _ | exact sz1 | exact sz2 | exact sz3 | exact sz4) ?_))
   | ((with_reducible refine gate_dst (N := 18) rfl ?_); (with_reducible refine field_at rfl rfl rfl fo61_0 ?_); (try simp only [toNat_16, toNat_12, Int.toNat_natCast, Nat.zero_add, Nat.add_zero, Nat.mul_one]))
   | ((with_reducible refine gate_dst (N := 19) rfl ?_); (with_reducible refine load_one HS.out rfl rfl on3 rfl (by first | exact at0 | exact at1 | exact at2 | exact at3 | exact at4 | exact at5 | exact at6) (by with_reducible first | exact dc_get _ _ (by omega) | exact rc_get _ _ (by omega) | exact at0a | exact at1a | exact at2a | exact at3a) ?_))
   | ((with_reducible refine gate_dst (N := 62) rfl ?_); (with_reducible refine load_seg HS.out rfl rfl ag46 rfl (by first | exact at0 | exact at1 | exact at2 | exact at3 | exact at4 | exact at5 | exact at6) (by with_reducible first | exact tc_el _ _ (by omega) | exact cc_el _ _ (by omega) | exact whole _) (by with_reducible first | exact mc_size _ | exact tc_size _ | exact cc_size _ | exact dc_size _ | exact rc_size _ | exact sz1 | exact sz2 | exact sz3 | exact sz4) ?_))
   | ((with_reducible refine gate_store (t := 46) (p := 6) rfl ?_); (with_reducible refine store_seg HS.out rfl rfl rfl ag46 rfl (by first | exact eval_tmp rfl | exact eval_const) (by first | exact at0 | exact at1 | exact at2 | exact at3 | exact at4 | exact at5 | exact at6) (by with_reducible first | exact tc_put _ _ (by omega) _ _ | exact cc_put _ _ (by omega) _ _ _ | exact dc_put _ _ (by omega) _ | exact rc_put _ _ (by omega) _ | exact lay_mc _ _ | exact lay_tc _ _ | exact lay_cc _ _ | exact lay_dc _ _ | exact lay_rc _ _ | exact lay2_0 | exact lay2_1 | exact lay3_0 | exact lay3_1 | exact lay3_2 | exact lay2_w | exact lay3_w) (by with_reducible first | exact mc_size _ | exact tc_size _ | exact cc_size _ | exact dc_size _ | exact rc_size _ | exact sz1 | exact sz2 | exact sz3 | exact sz4) (by simp only [mc_size, tc_size, cc_size, dc_size, rc_size, List.size_toArray, List.length_cons, List.length_nil]; omega) (by first | (with_reducible first | exact mc_one _ | exact tc_one _ | exact cc_one _ | exact dc_one _ | exact rc_one _ | exact t2_one _ _ | exact t3_one _ _ _) | (simp [Value.oneCell']; done)) ?_); intro W_ HP; clear HS; have HS := Aside0.mk HP; clear HP; (try simp only [List.set_cons_zero, List.set_cons_succ] at HS)))); (try simp only [Act.put, List.setIfInBounds_toArray, List.set_cons_zero, List.set_cons_succ]))
  refine ret_agg HS.out (by rfl) (by rfl) (by rfl) (by first | exact at0 | exact at1 | exact at2 | exact at3 | exact at4 | exact at5 | exact at6) ag46 (by with_reducible first | exact mc_size _ | exact tc_size _ | exact cc_size _ | exact dc_size _ | exact rc_size _ | exact sz1 | exact sz2 | exact sz3 | exact sz4) ?_
  exact ⟨_, rfl, rfl, HS.out.below⟩
 ·go_enter Tryd.func47, Tryd.ntmps47
  go_wp2_with ((first | ((with_reducible refine gate_dst (N := 11) rfl ?_); refine call_ev2 HS.out rfl rfl Tryd.func46 (by kernel_rfl) rfl (by (try simp only [List.map_toArray, List.map_cons, List.map_nil]); first | done | rfl) (c_place _ _ _ _ (HT.out.below HS.out.below)) ?_; rintro v_ W_ rfl HP HB_; clear HS; have HS := Aside0.mk HP; clear HP; clear HB_) | (first
   | ((with_reducible refine gate_region (id := 2) ?_); refine region_lit HS.out (by kernel_rfl) (by kernel_rfl) ?_; intro W_ HP HB_; clear HS; have HS := Aside0.mk HP; clear HP; clear HB_; (repeat (first
     | ((with_reducible refine st_gate (N := 15) rfl ?_); refine st_call rfl rfl Tryd.func73 (by kernel_rfl) rfl (c_bit _ _) (by (try simp only [List.map_toArray, List.map_cons, List.map_nil]); first | done | rfl) ?_)
     | still_step)); refine wpStill_nil ?_)
   | ((with_reducible refine gate_dst (N := 3) rfl ?_); (with_reducible refine box_new HS.out rfl rfl (by first | exact eval_tmp rfl | exact eval_const) ?_); intro g3 W3_ HP; clear HS; have HS := Aside0.mk HP; clear HP)
   | ((with_reducible refine gate_dst (N := 4) rfl ?_); (with_reducible refine box_new HS.out rfl rfl (by first | exact eval_tmp rfl | exact eval_const) ?_); intro g4 W4_ HP; clear HS; have HS := Aside0.mk HP; clear HP)
   | ((with_reducible refine gate_dst (N := 6) rfl ?_); (with_reducible refine alloc_new HS.out rfl rfl ze46 ?_); intro g6 W6_ HP; clear HS; have HS := Aside0.mk HP; clear HP)
   | ((with_reducible refine gate_dst (N := 10) rfl ?_); (with_reducible refine load_seg HS.out rfl rfl ag61 rfl (by first | exact at0 | exact at1 | exact at2 | exact at3 | exact at4 | exact at5 | exact at6) (by with_reducible first | exact tc_el _ _ (by omega) | exact cc_el _ _ (by omega) | exact whole _) (by with_reducible first | exact mc_size _ | exact tc_size _ | exact cc_size _ | exact dc_size _ | exact rc_size _ | exact sz1 | exact sz2 | exact sz3 | exact sz4) ?_))
   | ((with_reducible refine gate_dst (N := 18) rfl ?_); (with_reducible refine field_at rfl rfl rfl fo61_0 ?_); (try simp only [toNat_16, toNat_12, Int.toNat_natCast, Nat.zero_add, Nat.add_zero, Nat.mul_one]))
   | ((with_reducible refine gate_dst (N := 19) rfl ?_); (with_reducible refine load_one HS.out rfl rfl on3 rfl (by first | exact at0 | exact at1 | exact at2 | exact at3 | exact at4 | exact at5 | exact at6) (by with_reducible first | exact dc_get _ _ (by omega) | exact rc_get _ _ (by omega) | exact at0a | exact at1a | exact at2a | exact at3a) ?_))
   | ((with_reducible refine gate_dst (N := 62) rfl ?_); (with_reducible refine load_seg HS.out rfl rfl ag46 rfl (by first | exact at0 | exact at1 | exact at2 | exact at3 | exact at4 | exact at5 | exact at6) (by with_reducible first | exact tc_el _ _ (by omega) | exact cc_el _ _ (by omega) | exact whole _) (by with_reducible first | exact mc_size _ | exact tc_size _ | exact cc_size _ | exact dc_size _ | exact rc_size _ | exact sz1 | exact sz2 | exact sz3 | exact sz4) ?_))
   | ((with_reducible refine gate_store (t := 46) (p := 6) rfl ?_); (with_reducible refine store_seg HS.out rfl rfl rfl ag46 rfl (by first | exact eval_tmp rfl | exact eval_const) (by first | exact at0 | exact at1 | exact at2 | exact at3 | exact at4 | exact at5 | exact at6) (by with_reducible first | exact tc_put _ _ (by omega) _ _ | exact cc_put _ _ (by omega) _ _ _ | exact dc_put _ _ (by omega) _ | exact rc_put _ _ (by omega) _ | exact lay_mc _ _ | exact lay_tc _ _ | exact lay_cc _ _ | exact lay_dc _ _ | exact lay_rc _ _ | exact lay2_0 | exact lay2_1 | exact lay3_0 | exact lay3_1 | exact lay3_2 | exact lay2_w | exact lay3_w) (by with_reducible first | exact mc_size _ | exact tc_size _ | exact cc_size _ | exact dc_size _ | exact rc_size _ | exact sz1 | exact sz2 | exact sz3 | exact sz4) (by simp only [mc_size, tc_size, cc_size, dc_size, rc_size, List.size_toArray, List.length_cons, List.length_nil]; omega) (by first | (with_reducible first | exact mc_one _ | exact tc_one _ | exact cc_one _ | exact dc_one _ | exact rc_one _ | exact t2_one _ _ | exact t3_one _ _ _) | (simp [Value.oneCell']; done)) ?_); intro W_ HP; clear HS; have HS := Aside0.mk HP; clear HP; (try simp only [List.set_cons_zero, List.set_cons_succ] at HS)))); (try simp only [Act.put, List.setIfInBounds_toArray, List.set_cons_zero, List.set_cons_succ]))
  refine ret_agg HS.out (by rfl) (by rfl) (by rfl) (by first | exact at0 | exact at1 | exact at2 | exact at3 | exact at4 | exact at5 | exact at6) ag46 (by with_reducible first | exact mc_size _ | exact tc_size _ | exact cc_size _ | exact dc_size _ | exact rc_size _ | exact sz1 | exact sz2 | exact sz3 | exact sz4) ?_
  exact ⟨_, rfl, rfl, HS.out.below⟩
theorem c_MemPut (m : Mm) (wf : m.wf) (k n p : Int) (b : Bool) (w : World) (ht : Tab w) : Calls Tryd.prog 47 #[.agg (mc m), .agg #[.int .i64 k, .int .i64 n, .int .i64 p], .bool b] w (Ret w (· = .agg (mc (memput m k (place k n).toNat b)))) := by
 have h := place_in k n
 exact c_MemPut0 m wf k n p b _ (by omega) (fun h2 => by have := h.2 h2; omega) w ht

end Go.Proofs.YtaegonmpjgdmgaaDoor.K
