/- Walks over the ladders' memory: what the functions of this seat answer. -/
import Derived.Test.YtdmjdcapkjnipaaProg
import Derived.Test.YtdmjdcapkjnipaaMW
import Derived.WalkKit
import Derived.Deep.LoopGhost
import Derived.Deep.DeepCutAuto
import Derived.BigFrame
import Derived.Deep.QuietTactic
import Derived.BigQuiet
import Derived.Test.YtdmjdcapkjnipaaOP
import Derived.Test.YtdmjdcapkjnipaaRW
import Derived.Test.YtdmjdcapkjnipaaQKept
import Derived.Outline
import Derived.Test.YtdmjdcapkjnipaaY1
namespace Go.Proofs.Ytdmjdcapkjnipaa.K
open Go Go.RowKit Go.Proofs.YtdmjdcapkjnipaaW Go.Proofs.YtdmjdcapkjnipaaW.PrintWords Go.Proofs.Ytdmjdcapkjnipaa.MW
set_option linter.unusedVariables false
set_option linter.unusedSimpArgs false
set_option maxRecDepth 100000

open QKept
def tB (T : Nat → Bool × Int) : Nat → List Int
  | 0 => []
  | k + 1 => tB T k ++ le 1 (flags (T k).1 false) ++ le 2 (T k).2
def cB (C : Nat → Bool × Bool × Int) : Nat → List Int
  | 0 => []
  | k + 1 => cB C k ++ le 1 (flags (C k).1 (C k).2.1) ++ le 2 (C k).2.2
def dB (D : Nat → Int) : Nat → List Int
  | 0 => []
  | k + 1 => dB D k ++ le 2 ((D (16 + k) + 65536) % 65536)
def hB (m : Mm) : List Int := le 4 (m.M / 4294967296) ++ le 2 m.S
def keptBytes (m : Mm) : List Int := hB m ++ tB m.T 16 ++ cB m.C 16 ++ dB m.D 16
theorem tB_length (T : Nat → Bool × Int) (k : Nat) : (tB T k).length = 3 * k := by induction k with | zero => rfl | succ k ih => simp [tB, ih, le_length]; omega
theorem cB_length (C : Nat → Bool × Bool × Int) (k : Nat) : (cB C k).length = 3 * k := by induction k with | zero => rfl | succ k ih => simp [cB, ih, le_length]; omega
theorem dB_length (D : Nat → Int) (k : Nat) : (dB D k).length = 2 * k := by induction k with | zero => rfl | succ k ih => simp [dB, ih, le_length]; omega
theorem hB_length (m : Mm) : (hB m).length = 6 := by simp [hB, le_length]
theorem keptBytes_length (m : Mm) : (keptBytes m).length = 134 := by simp [keptBytes, hB_length, tB_length, cB_length, dB_length]
theorem c_flags (a b : Bool) (w : World) : Calls Try.prog 23 #[.bool a, .bool b] w (Ret w (· = .int .u64 (flags a b))) := by
  refine Ret.of_eq ((F.spec_l19Flags.calls a b _ w (flags_eq a b)).mono ?_)
  rintro e w' ⟨he, m, rfl⟩
  exact ⟨he, pw_below_drewN (Below.refl _ _) m⟩
theorem c_flags0 (a b : Bool) (w : World) : Calls Try.prog 23 #[.bool a, .bool b] w (fun e w' => e = .returned (.int .u64 (flags a b)) ∧ w' = w) := by
  cases a <;> cases b <;> (go_enter Try.func23, Try.ntmps23; go_wp2; go_ret; exact ⟨rfl, rfl⟩)
section
variable {ops : Array Oper} {rest : List Oper} {o : Oper} {a : Act} {Q : Exit → Act → World → Prop} {w W : World} {L : List (Nat × Array Value)} {v : Value} {l : List Int} {x : Int} {n : Nat}
theorem ev_put {ars : Array Operand} {ts : Array TypeId} {m : Int} (HS : Priv w W L) (HO : Row w W L v l) (hgd : o.guard = none) (ho : o.op = .call { callee := .value (.func 22), args := ars, argTypes := ts }) (hargs : ars.map a.eval = #[v, .int .u64 x, .int .i64 m]) (n : Nat) (hm : m = n) (hn : n ≤ 1000) (h0 : 0 ≤ x) (h1 : x < 18446744073709551616) (hl : l.length ≤ 1000000)
    (h : ∀ v' W', Priv w W' L → Row w W' L v' (l ++ le n x) → wpList Try.prog ops Q rest (a.put o.dst v') W') : wpList Try.prog ops Q (o :: rest) a W := by
  subst hm
  obtain ⟨k, hk⟩ := put_ev l x n hn h0 h1 hl
  refine PrintLast.goesL_ (N := o.dst) rfl hgd Try.func22 (by kernel_rfl) rfl _ ho hargs ?_
  refine (F.spec_l19Put.calls k (Away L) v l x n _ w W HS.below HO hk).mono ?_
  rintro e W' ⟨v', rfl, hr, hb, hkept⟩
  exact ⟨v', rfl, h v' W' (HS.kept hb hkept) (Row.again HS hr)⟩
end

set_option maxHeartbeats 4000000 in
set_option maxRecDepth 100000 in
theorem c_specKeptMake (m : Mm) (wf : m.wf) (w : World) : Calls Try.prog 7 #[.agg (mc m)] w fun e w' => ∃ v, e = .returned v ∧ (Kd.int .u8).R 5 w' w.heap.size (fun _ => True) v (keptBytes m) ∧ Below w.heap.size w w' := by
  have HS := Aside0.mk (Priv.nil w)
  obtain ⟨_, _, ⟨m0, m1⟩, ⟨s0, s1⟩, _, hT, hC, hD, _, _⟩ := wf
  have HT := Aside0.mk hT; have HC := Aside0.mk hC; have HD := Aside0.mk hD
  clear hT hC hD
  go_enter Try.func7, Try.ntmps7
  go_wp2_with ((first
      | ((with_reducible refine gate_dst (N := 10) rfl ?_); refine ev_put HS.out (Row.nil _ _ _) rfl rfl (by (try simp only [List.map_toArray, List.map_cons, List.map_nil]); first | done | rfl) 4 (by rfl) (by decide) (by omega) (by omega) (by simp) ?_; intro v_ W_ HP HO_; clear HS; have HS := Aside0.mk HP; clear HP; have HO := Aside0.mk HO_; clear HO_)
      | ((with_reducible refine gate_dst (N := 15) rfl ?_); refine ev_put HS.out HO.out rfl rfl (by (try simp only [List.map_toArray, List.map_cons, List.map_nil]); first | done | rfl) 2 (by rfl) (by decide) (by omega) (by omega) (by simp [le_length]) ?_; intro v_ W_ HP HO_; clear HS; have HS := Aside0.mk HP; clear HP; clear HO; have HO := Aside0.mk HO_; clear HO_)
      | ((with_reducible refine gate_region (id := 11) ?_); refine region_tail HS.out 11 (by kernel_rfl) (by kernel_rfl) ?_; intro W_ HP HB_; clear HS; have HS := Aside0.mk HP; clear HP; have HO_ := Row.below HO.out HB_; clear HO HB_; have HO := Aside0.mk HO_; clear HO_; simp only [List.take_succ_cons, List.take_zero, List.drop_succ_cons, List.drop_zero]; (repeat (first
          | ((with_reducible refine st_gate (N := 42) rfl ?_); (with_reducible refine st_field_at rfl rfl rfl fo44_6 ?_); (try simp only [toNat_16, toNat_12, Int.toNat_natCast, Nat.zero_add, Nat.add_zero, Nat.mul_one]))
          | ((with_reducible refine st_gate (N := 43) rfl ?_); (with_reducible refine st_index_at rfl rfl rfl rfl ar42 (by omega) (by omega) ?_); (try simp only [toNat_16, toNat_12, Int.toNat_natCast, Nat.zero_add, Nat.add_zero, Nat.mul_one]))
          | ((with_reducible refine st_gate (N := 44) rfl ?_); (with_reducible refine st_field_at rfl rfl rfl fo41_0 ?_); (try simp only [toNat_16, toNat_12, Int.toNat_natCast, Nat.zero_add, Nat.add_zero, Nat.mul_one]))
          | ((with_reducible refine st_gate (N := 45) rfl ?_); (with_reducible refine st_load_one HS.out rfl rfl on4 rfl (by first | exact at0 | exact at1 | exact at2 | exact at3 | exact at4 | exact at5 | exact at6) (by with_reducible first | exact get_X _ | exact get_Y _ | exact get_M _ | exact get_S _ | exact get_E _ | exact get_Time _ | exact get_Ran _ | exact get_Fault _ | exact el_T0 _ _ (by omega) | exact el_T1 _ _ (by omega) | exact el_C0 _ _ (by omega) | exact el_C1 _ _ (by omega) | exact el_C2 _ _ (by omega) | exact el_D _ _ (by omega) | exact el_R _ _ (by omega) | exact dc_get _ _ (by omega) | exact rc_get _ _ (by omega) | exact at0a | exact at1a | exact at2a | exact at3a) ?_))
          | ((with_reducible refine st_gate (N := 47) rfl ?_); (with_reducible refine st_field_at rfl rfl rfl fo44_6 ?_); (try simp only [toNat_16, toNat_12, Int.toNat_natCast, Nat.zero_add, Nat.add_zero, Nat.mul_one]))
          | ((with_reducible refine st_gate (N := 48) rfl ?_); (with_reducible refine st_index_at rfl rfl rfl rfl ar42 (by omega) (by omega) ?_); (try simp only [toNat_16, toNat_12, Int.toNat_natCast, Nat.zero_add, Nat.add_zero, Nat.mul_one]))
          | ((with_reducible refine st_gate (N := 49) rfl ?_); (with_reducible refine st_field_at rfl rfl rfl fo41_1 ?_); (try simp only [toNat_16, toNat_12, Int.toNat_natCast, Nat.zero_add, Nat.add_zero, Nat.mul_one]))
          | ((with_reducible refine st_gate (N := 50) rfl ?_); (with_reducible refine st_load_one HS.out rfl rfl on4 rfl (by first | exact at0 | exact at1 | exact at2 | exact at3 | exact at4 | exact at5 | exact at6) (by with_reducible first | exact get_X _ | exact get_Y _ | exact get_M _ | exact get_S _ | exact get_E _ | exact get_Time _ | exact get_Ran _ | exact get_Fault _ | exact el_T0 _ _ (by omega) | exact el_T1 _ _ (by omega) | exact el_C0 _ _ (by omega) | exact el_C1 _ _ (by omega) | exact el_C2 _ _ (by omega) | exact el_D _ _ (by omega) | exact el_R _ _ (by omega) | exact dc_get _ _ (by omega) | exact rc_get _ _ (by omega) | exact at0a | exact at1a | exact at2a | exact at3a) ?_))
          | still_step)); refine wpStill_nil ?_)
      | ((with_reducible refine gate_dst (N := 1) rfl ?_); (with_reducible refine box_new HS.out rfl rfl (by first | exact eval_tmp rfl | exact eval_const) ?_); intro g1 W1_ HP; clear HS; have HS := Aside0.mk HP; clear HP)
      | ((with_reducible refine gate_dst (N := 7) rfl ?_); (with_reducible refine field_at rfl rfl rfl fo44_2 ?_); (try simp only [toNat_16, toNat_12, Int.toNat_natCast, Nat.zero_add, Nat.add_zero, Nat.mul_one]))
      | ((with_reducible refine gate_dst (N := 8) rfl ?_); (with_reducible refine load_one HS.out rfl rfl on23 rfl (by first | exact at0 | exact at1 | exact at2 | exact at3 | exact at4 | exact at5 | exact at6) (by with_reducible exact get_M _) ?_))
      | ((with_reducible refine gate_dst (N := 12) rfl ?_); (with_reducible refine field_at rfl rfl rfl fo44_3 ?_); (try simp only [toNat_16, toNat_12, Int.toNat_natCast, Nat.zero_add, Nat.add_zero, Nat.mul_one]))
      | ((with_reducible refine gate_dst (N := 13) rfl ?_); (with_reducible refine load_one HS.out rfl rfl on24 rfl (by first | exact at0 | exact at1 | exact at2 | exact at3 | exact at4 | exact at5 | exact at6) (by with_reducible exact get_S _) ?_))); (try simp only [Act.put, List.setIfInBounds_toArray, List.set_cons_zero, List.set_cons_succ]))
  go_loopw [3, 4] (fun v3 v4 W => ∃ (k : Nat) (v : Value), v3 = v ∧ v4 = .int .i64 k ∧ k ≤ 16 ∧ Aside0 (Row w W [(g1, mc m)] v (hB m ++ tB m.T k)) ∧ Aside0 (Priv w W [(g1, mc m)])) (fun _ v4 _ => 16 - (intOf v4).toNat)
  case atStart => exact ⟨0, _, rfl, rfl, by omega, ⟨by have h_ := HO.out; simpa [hB, tB] using h_⟩, HS⟩
  case round =>
    clear HS HO
    obtain ⟨k, v, rfl, rfl, hk, HO, HS⟩ := hrel
    by_cases hlt : k < 16
    · obtain ⟨t0, t1⟩ := HT.out k hlt
      go_wp2_with ((first
      | ((with_reducible refine gate_dst (N := 26) rfl ?_); refine call_ev HS.out rfl rfl Try.func23 (by kernel_rfl) rfl (c_flags _ _ _) (by (try simp only [List.map_toArray, List.map_cons, List.map_nil]); first | done | rfl) ?_; rintro v_ W_ rfl HP HB_; clear HS; have HS := Aside0.mk HP; clear HP; have HO_ := Row.below HO.out HB_; clear HB_; clear HO; have HO := Aside0.mk HO_; clear HO_)
      | ((with_reducible refine gate_dst (N := 27) rfl ?_); refine ev_put HS.out HO.out rfl rfl (by (try simp only [List.map_toArray, List.map_cons, List.map_nil]); first | done | rfl) 1 (by rfl) (by decide) (flags_range _ _).1 (by have := flags_range (m.T k).1 false; omega) (by simp only [List.length_append, hB_length, tB_length, cB_length, dB_length, le_length, List.length_nil]; omega) ?_; intro v_ W_ HP HO_; clear HS; have HS := Aside0.mk HP; clear HP; clear HO; have HO := Aside0.mk HO_; clear HO_)
      | ((with_reducible refine gate_dst (N := 35) rfl ?_); refine ev_put HS.out HO.out rfl rfl (by (try simp only [List.map_toArray, List.map_cons, List.map_nil]); first | done | rfl) 2 (by rfl) (by decide) t0 (by omega) (by simp only [List.length_append, hB_length, tB_length, cB_length, dB_length, le_length, List.length_nil]; omega) ?_; intro v_ W_ HP HO_; clear HS; have HS := Aside0.mk HP; clear HP; clear HO; have HO := Aside0.mk HO_; clear HO_)
      | ((with_reducible refine gate_region (id := 11) ?_); refine region_tail HS.out 11 (by kernel_rfl) (by kernel_rfl) ?_; intro W_ HP HB_; clear HS; have HS := Aside0.mk HP; clear HP; have HO_ := Row.below HO.out HB_; clear HO HB_; have HO := Aside0.mk HO_; clear HO_; simp only [List.take_succ_cons, List.take_zero, List.drop_succ_cons, List.drop_zero]; (repeat (first
          | ((with_reducible refine st_gate (N := 42) rfl ?_); (with_reducible refine st_field_at rfl rfl rfl fo44_6 ?_); (try simp only [toNat_16, toNat_12, Int.toNat_natCast, Nat.zero_add, Nat.add_zero, Nat.mul_one]))
          | ((with_reducible refine st_gate (N := 43) rfl ?_); (with_reducible refine st_index_at rfl rfl rfl rfl ar42 (Int.natCast_nonneg _) (by omega) ?_); (try simp only [toNat_16, toNat_12, Int.toNat_natCast, Nat.zero_add, Nat.add_zero, Nat.mul_one]))
          | ((with_reducible refine st_gate (N := 44) rfl ?_); (with_reducible refine st_field_at rfl rfl rfl fo41_0 ?_); (try simp only [toNat_16, toNat_12, Int.toNat_natCast, Nat.zero_add, Nat.add_zero, Nat.mul_one]))
          | ((with_reducible refine st_gate (N := 45) rfl ?_); (with_reducible refine st_load_one HS.out rfl rfl on4 rfl (by first | exact at0 | exact at1 | exact at2 | exact at3 | exact at4 | exact at5 | exact at6) (by with_reducible first | exact get_X _ | exact get_Y _ | exact get_M _ | exact get_S _ | exact get_E _ | exact get_Time _ | exact get_Ran _ | exact get_Fault _ | exact el_T0 _ _ (by omega) | exact el_T1 _ _ (by omega) | exact el_C0 _ _ (by omega) | exact el_C1 _ _ (by omega) | exact el_C2 _ _ (by omega) | exact el_D _ _ (by omega) | exact el_R _ _ (by omega) | exact dc_get _ _ (by omega) | exact rc_get _ _ (by omega) | exact at0a | exact at1a | exact at2a | exact at3a) ?_))
          | ((with_reducible refine st_gate (N := 47) rfl ?_); (with_reducible refine st_field_at rfl rfl rfl fo44_6 ?_); (try simp only [toNat_16, toNat_12, Int.toNat_natCast, Nat.zero_add, Nat.add_zero, Nat.mul_one]))
          | ((with_reducible refine st_gate (N := 48) rfl ?_); (with_reducible refine st_index_at rfl rfl rfl rfl ar42 (Int.natCast_nonneg _) (by omega) ?_); (try simp only [toNat_16, toNat_12, Int.toNat_natCast, Nat.zero_add, Nat.add_zero, Nat.mul_one]))
          | ((with_reducible refine st_gate (N := 49) rfl ?_); (with_reducible refine st_field_at rfl rfl rfl fo41_1 ?_); (try simp only [toNat_16, toNat_12, Int.toNat_natCast, Nat.zero_add, Nat.add_zero, Nat.mul_one]))
          | ((with_reducible refine st_gate (N := 50) rfl ?_); (with_reducible refine st_load_one HS.out rfl rfl on4 rfl (by first | exact at0 | exact at1 | exact at2 | exact at3 | exact at4 | exact at5 | exact at6) (by with_reducible first | exact get_X _ | exact get_Y _ | exact get_M _ | exact get_S _ | exact get_E _ | exact get_Time _ | exact get_Ran _ | exact get_Fault _ | exact el_T0 _ _ (by omega) | exact el_T1 _ _ (by omega) | exact el_C0 _ _ (by omega) | exact el_C1 _ _ (by omega) | exact el_C2 _ _ (by omega) | exact el_D _ _ (by omega) | exact el_R _ _ (by omega) | exact dc_get _ _ (by omega) | exact rc_get _ _ (by omega) | exact at0a | exact at1a | exact at2a | exact at3a) ?_))
          | still_step)); refine wpStill_nil ?_)
      | ((with_reducible refine gate_dst (N := 1) rfl ?_); (with_reducible refine box_new HS.out rfl rfl (by first | exact eval_tmp rfl | exact eval_const) ?_); intro g1 W1_ HP; clear HS; have HS := Aside0.mk HP; clear HP)
      | ((with_reducible refine gate_dst (N := 7) rfl ?_); (with_reducible refine field_at rfl rfl rfl fo44_2 ?_); (try simp only [toNat_16, toNat_12, Int.toNat_natCast, Nat.zero_add, Nat.add_zero, Nat.mul_one]))
      | ((with_reducible refine gate_dst (N := 8) rfl ?_); (with_reducible refine load_one HS.out rfl rfl on23 rfl (by first | exact at0 | exact at1 | exact at2 | exact at3 | exact at4 | exact at5 | exact at6) (by with_reducible exact get_M _) ?_))
      | ((with_reducible refine gate_dst (N := 12) rfl ?_); (with_reducible refine field_at rfl rfl rfl fo44_3 ?_); (try simp only [toNat_16, toNat_12, Int.toNat_natCast, Nat.zero_add, Nat.add_zero, Nat.mul_one]))
      | ((with_reducible refine gate_dst (N := 13) rfl ?_); (with_reducible refine load_one HS.out rfl rfl on24 rfl (by first | exact at0 | exact at1 | exact at2 | exact at3 | exact at4 | exact at5 | exact at6) (by with_reducible exact get_S _) ?_))
      | ((with_reducible refine gate_dst (N := 22) rfl ?_); (with_reducible refine field_at rfl rfl rfl fo44_5 ?_); (try simp only [toNat_16, toNat_12, Int.toNat_natCast, Nat.zero_add, Nat.add_zero, Nat.mul_one]))
      | ((with_reducible refine gate_dst (N := 23) rfl ?_); (with_reducible refine index_at rfl rfl rfl rfl ar40 (Int.natCast_nonneg _) (by omega) ?_); (try simp only [toNat_16, toNat_12, Int.toNat_natCast, Nat.zero_add, Nat.add_zero, Nat.mul_one]))
      | ((with_reducible refine gate_dst (N := 24) rfl ?_); (with_reducible refine field_at rfl rfl rfl fo39_0 ?_); (try simp only [toNat_16, toNat_12, Int.toNat_natCast, Nat.zero_add, Nat.add_zero, Nat.mul_one]))
      | ((with_reducible refine gate_dst (N := 25) rfl ?_); (with_reducible refine load_one HS.out rfl rfl on4 rfl (by first | exact at0 | exact at1 | exact at2 | exact at3 | exact at4 | exact at5 | exact at6) (by with_reducible first | exact el_T0 _ _ (by omega) | exact el_T1 _ _ (by omega)) ?_))
      | ((with_reducible refine gate_dst (N := 30) rfl ?_); (with_reducible refine field_at rfl rfl rfl fo44_5 ?_); (try simp only [toNat_16, toNat_12, Int.toNat_natCast, Nat.zero_add, Nat.add_zero, Nat.mul_one]))
      | ((with_reducible refine gate_dst (N := 31) rfl ?_); (with_reducible refine index_at rfl rfl rfl rfl ar40 (Int.natCast_nonneg _) (by omega) ?_); (try simp only [toNat_16, toNat_12, Int.toNat_natCast, Nat.zero_add, Nat.add_zero, Nat.mul_one]))
      | ((with_reducible refine gate_dst (N := 32) rfl ?_); (with_reducible refine field_at rfl rfl rfl fo39_1 ?_); (try simp only [toNat_16, toNat_12, Int.toNat_natCast, Nat.zero_add, Nat.add_zero, Nat.mul_one]))
      | ((with_reducible refine gate_dst (N := 33) rfl ?_); (with_reducible refine load_one HS.out rfl rfl on24 rfl (by first | exact at0 | exact at1 | exact at2 | exact at3 | exact at4 | exact at5 | exact at6) (by with_reducible first | exact el_T0 _ _ (by omega) | exact el_T1 _ _ (by omega)) ?_))
      | ((with_reducible refine gate_dst (N := 42) rfl ?_); (with_reducible refine field_at rfl rfl rfl fo44_6 ?_); (try simp only [toNat_16, toNat_12, Int.toNat_natCast, Nat.zero_add, Nat.add_zero, Nat.mul_one]))
      | ((with_reducible refine gate_dst (N := 43) rfl ?_); (with_reducible refine index_at rfl rfl rfl rfl ar42 (Int.natCast_nonneg _) (by omega) ?_); (try simp only [toNat_16, toNat_12, Int.toNat_natCast, Nat.zero_add, Nat.add_zero, Nat.mul_one]))
      | ((with_reducible refine gate_dst (N := 44) rfl ?_); (with_reducible refine field_at rfl rfl rfl fo41_0 ?_); (try simp only [toNat_16, toNat_12, Int.toNat_natCast, Nat.zero_add, Nat.add_zero, Nat.mul_one]))
      | ((with_reducible refine gate_dst (N := 45) rfl ?_); (with_reducible refine load_one HS.out rfl rfl on4 rfl (by first | exact at0 | exact at1 | exact at2 | exact at3 | exact at4 | exact at5 | exact at6) (by with_reducible first | exact el_C0 _ _ (by omega) | exact el_C1 _ _ (by omega) | exact el_C2 _ _ (by omega)) ?_))
      | ((with_reducible refine gate_dst (N := 47) rfl ?_); (with_reducible refine field_at rfl rfl rfl fo44_6 ?_); (try simp only [toNat_16, toNat_12, Int.toNat_natCast, Nat.zero_add, Nat.add_zero, Nat.mul_one]))
      | ((with_reducible refine gate_dst (N := 48) rfl ?_); (with_reducible refine index_at rfl rfl rfl rfl ar42 (Int.natCast_nonneg _) (by omega) ?_); (try simp only [toNat_16, toNat_12, Int.toNat_natCast, Nat.zero_add, Nat.add_zero, Nat.mul_one]))
      | ((with_reducible refine gate_dst (N := 49) rfl ?_); (with_reducible refine field_at rfl rfl rfl fo41_1 ?_); (try simp only [toNat_16, toNat_12, Int.toNat_natCast, Nat.zero_add, Nat.add_zero, Nat.mul_one]))
      | ((with_reducible refine gate_dst (N := 50) rfl ?_); (with_reducible refine load_one HS.out rfl rfl on4 rfl (by first | exact at0 | exact at1 | exact at2 | exact at3 | exact at4 | exact at5 | exact at6) (by with_reducible first | exact el_C0 _ _ (by omega) | exact el_C1 _ _ (by omega) | exact el_C2 _ _ (by omega)) ?_))
      | ((with_reducible refine gate_dst (N := 55) rfl ?_); (with_reducible refine field_at rfl rfl rfl fo44_6 ?_); (try simp only [toNat_16, toNat_12, Int.toNat_natCast, Nat.zero_add, Nat.add_zero, Nat.mul_one]))
      | ((with_reducible refine gate_dst (N := 56) rfl ?_); (with_reducible refine index_at rfl rfl rfl rfl ar42 (Int.natCast_nonneg _) (by omega) ?_); (try simp only [toNat_16, toNat_12, Int.toNat_natCast, Nat.zero_add, Nat.add_zero, Nat.mul_one]))
      | ((with_reducible refine gate_dst (N := 57) rfl ?_); (with_reducible refine field_at rfl rfl rfl fo41_2 ?_); (try simp only [toNat_16, toNat_12, Int.toNat_natCast, Nat.zero_add, Nat.add_zero, Nat.mul_one]))
      | ((with_reducible refine gate_dst (N := 58) rfl ?_); (with_reducible refine load_one HS.out rfl rfl on24 rfl (by first | exact at0 | exact at1 | exact at2 | exact at3 | exact at4 | exact at5 | exact at6) (by with_reducible first | exact el_C0 _ _ (by omega) | exact el_C1 _ _ (by omega) | exact el_C2 _ _ (by omega)) ?_))
      | ((with_reducible refine gate_dst (N := 68) rfl ?_); (with_reducible refine field_at rfl rfl rfl fo44_7 ?_); (try simp only [toNat_16, toNat_12, Int.toNat_natCast, Nat.zero_add, Nat.add_zero, Nat.mul_one]))
      | ((with_reducible refine gate_dst (N := 69) rfl ?_); (with_reducible refine index_at rfl rfl rfl rfl ar32 (Int.natCast_nonneg _) (by omega) ?_); (try simp only [toNat_16, toNat_12, Int.toNat_natCast, Nat.zero_add, Nat.add_zero, Nat.mul_one]))
      | ((with_reducible refine gate_dst (N := 70) rfl ?_); (with_reducible refine load_one HS.out rfl rfl on31 rfl (by first | exact at0 | exact at1 | exact at2 | exact at3 | exact at4 | exact at5 | exact at6) (by with_reducible exact el_D _ _ (by omega)) ?_))); (try simp only [Act.put, List.setIfInBounds_toArray, List.set_cons_zero, List.set_cons_succ]))
      go_roundw
      case rel => exact ⟨k + 1, _, rfl, by go_num, by omega, ⟨by have h_ := HO.out; simpa [tB, List.append_assoc] using h_⟩, HS⟩
      case measure => simp [intOf]; omega
    · have e_ : k = 16 := by omega
      have HO_ := HO.out
      rw [e_] at HO_
      clear HO e_
      have HO := Aside0.mk HO_
      clear HO_
      go_wp2_with fail
      go_loopw [3, 5] (fun v3 v5 W => ∃ (k : Nat) (v : Value), v3 = v ∧ v5 = .int .i64 k ∧ k ≤ 16 ∧ Aside0 (Row w W [(g1, mc m)] v (hB m ++ tB m.T 16 ++ cB m.C k)) ∧ Aside0 (Priv w W [(g1, mc m)])) (fun _ v5 _ => 16 - (intOf v5).toNat)
      case atStart => exact ⟨0, _, rfl, rfl, by omega, ⟨by have h_ := HO.out; simpa [cB] using h_⟩, HS⟩
      case round =>
        clear HS HO
        obtain ⟨k, v, rfl, rfl, hk, HO, HS⟩ := hrel
        by_cases hlt : k < 16
        · obtain ⟨t0, t1⟩ := HC.out k hlt
          go_wp2_with ((first
      | ((with_reducible refine gate_dst (N := 52) rfl ?_); refine ev_put HS.out HO.out rfl rfl (by (try simp only [List.map_toArray, List.map_cons, List.map_nil]); first | done | rfl) 1 (by rfl) (by decide) (flags_range _ _).1 (by have := flags_range (m.C k).1 (m.C k).2.1; omega) (by simp only [List.length_append, hB_length, tB_length, cB_length, dB_length, le_length, List.length_nil]; omega) ?_; intro v_ W_ HP HO_; clear HS; have HS := Aside0.mk HP; clear HP; clear HO; have HO := Aside0.mk HO_; clear HO_)
      | ((with_reducible refine gate_dst (N := 60) rfl ?_); refine ev_put HS.out HO.out rfl rfl (by (try simp only [List.map_toArray, List.map_cons, List.map_nil]); first | done | rfl) 2 (by rfl) (by decide) t0 (by omega) (by simp only [List.length_append, hB_length, tB_length, cB_length, dB_length, le_length, List.length_nil]; omega) ?_; intro v_ W_ HP HO_; clear HS; have HS := Aside0.mk HP; clear HP; clear HO; have HO := Aside0.mk HO_; clear HO_)
      | ((with_reducible refine gate_region (id := 11) ?_); refine region_tail HS.out 12 (by kernel_rfl) (by kernel_rfl) ?_; intro W_ HP HB_; clear HS; have HS := Aside0.mk HP; clear HP; have HO_ := Row.below HO.out HB_; clear HO HB_; have HO := Aside0.mk HO_; clear HO_; simp only [List.take_succ_cons, List.take_zero, List.drop_succ_cons, List.drop_zero]; (repeat (first
          | ((with_reducible refine st_gate (N := 42) rfl ?_); (with_reducible refine st_field_at rfl rfl rfl fo44_6 ?_); (try simp only [toNat_16, toNat_12, Int.toNat_natCast, Nat.zero_add, Nat.add_zero, Nat.mul_one]))
          | ((with_reducible refine st_gate (N := 43) rfl ?_); (with_reducible refine st_index_at rfl rfl rfl rfl ar42 (Int.natCast_nonneg _) (by omega) ?_); (try simp only [toNat_16, toNat_12, Int.toNat_natCast, Nat.zero_add, Nat.add_zero, Nat.mul_one]))
          | ((with_reducible refine st_gate (N := 44) rfl ?_); (with_reducible refine st_field_at rfl rfl rfl fo41_0 ?_); (try simp only [toNat_16, toNat_12, Int.toNat_natCast, Nat.zero_add, Nat.add_zero, Nat.mul_one]))
          | ((with_reducible refine st_gate (N := 45) rfl ?_); (with_reducible refine st_load_one HS.out rfl rfl on4 rfl (by first | exact at0 | exact at1 | exact at2 | exact at3 | exact at4 | exact at5 | exact at6) (by with_reducible first | exact get_X _ | exact get_Y _ | exact get_M _ | exact get_S _ | exact get_E _ | exact get_Time _ | exact get_Ran _ | exact get_Fault _ | exact el_T0 _ _ (by omega) | exact el_T1 _ _ (by omega) | exact el_C0 _ _ (by omega) | exact el_C1 _ _ (by omega) | exact el_C2 _ _ (by omega) | exact el_D _ _ (by omega) | exact el_R _ _ (by omega) | exact dc_get _ _ (by omega) | exact rc_get _ _ (by omega) | exact at0a | exact at1a | exact at2a | exact at3a) ?_))
          | ((with_reducible refine st_gate (N := 47) rfl ?_); (with_reducible refine st_field_at rfl rfl rfl fo44_6 ?_); (try simp only [toNat_16, toNat_12, Int.toNat_natCast, Nat.zero_add, Nat.add_zero, Nat.mul_one]))
          | ((with_reducible refine st_gate (N := 48) rfl ?_); (with_reducible refine st_index_at rfl rfl rfl rfl ar42 (Int.natCast_nonneg _) (by omega) ?_); (try simp only [toNat_16, toNat_12, Int.toNat_natCast, Nat.zero_add, Nat.add_zero, Nat.mul_one]))
          | ((with_reducible refine st_gate (N := 49) rfl ?_); (with_reducible refine st_field_at rfl rfl rfl fo41_1 ?_); (try simp only [toNat_16, toNat_12, Int.toNat_natCast, Nat.zero_add, Nat.add_zero, Nat.mul_one]))
          | ((with_reducible refine st_gate (N := 50) rfl ?_); (with_reducible refine st_load_one HS.out rfl rfl on4 rfl (by first | exact at0 | exact at1 | exact at2 | exact at3 | exact at4 | exact at5 | exact at6) (by with_reducible first | exact get_X _ | exact get_Y _ | exact get_M _ | exact get_S _ | exact get_E _ | exact get_Time _ | exact get_Ran _ | exact get_Fault _ | exact el_T0 _ _ (by omega) | exact el_T1 _ _ (by omega) | exact el_C0 _ _ (by omega) | exact el_C1 _ _ (by omega) | exact el_C2 _ _ (by omega) | exact el_D _ _ (by omega) | exact el_R _ _ (by omega) | exact dc_get _ _ (by omega) | exact rc_get _ _ (by omega) | exact at0a | exact at1a | exact at2a | exact at3a) ?_))
          | ((with_reducible refine st_gate (N := 51) rfl ?_); refine st_call rfl rfl Try.func23 (by kernel_rfl) rfl (c_flags0 _ _ _) (by (try simp only [List.map_toArray, List.map_cons, List.map_nil]); first | done | rfl) ?_)
          | still_step)); refine wpStill_nil ?_)
      | ((with_reducible refine gate_dst (N := 1) rfl ?_); (with_reducible refine box_new HS.out rfl rfl (by first | exact eval_tmp rfl | exact eval_const) ?_); intro g1 W1_ HP; clear HS; have HS := Aside0.mk HP; clear HP)
      | ((with_reducible refine gate_dst (N := 7) rfl ?_); (with_reducible refine field_at rfl rfl rfl fo44_2 ?_); (try simp only [toNat_16, toNat_12, Int.toNat_natCast, Nat.zero_add, Nat.add_zero, Nat.mul_one]))
      | ((with_reducible refine gate_dst (N := 8) rfl ?_); (with_reducible refine load_one HS.out rfl rfl on23 rfl (by first | exact at0 | exact at1 | exact at2 | exact at3 | exact at4 | exact at5 | exact at6) (by with_reducible exact get_M _) ?_))
      | ((with_reducible refine gate_dst (N := 12) rfl ?_); (with_reducible refine field_at rfl rfl rfl fo44_3 ?_); (try simp only [toNat_16, toNat_12, Int.toNat_natCast, Nat.zero_add, Nat.add_zero, Nat.mul_one]))
      | ((with_reducible refine gate_dst (N := 13) rfl ?_); (with_reducible refine load_one HS.out rfl rfl on24 rfl (by first | exact at0 | exact at1 | exact at2 | exact at3 | exact at4 | exact at5 | exact at6) (by with_reducible exact get_S _) ?_))
      | ((with_reducible refine gate_dst (N := 22) rfl ?_); (with_reducible refine field_at rfl rfl rfl fo44_5 ?_); (try simp only [toNat_16, toNat_12, Int.toNat_natCast, Nat.zero_add, Nat.add_zero, Nat.mul_one]))
      | ((with_reducible refine gate_dst (N := 23) rfl ?_); (with_reducible refine index_at rfl rfl rfl rfl ar40 (Int.natCast_nonneg _) (by omega) ?_); (try simp only [toNat_16, toNat_12, Int.toNat_natCast, Nat.zero_add, Nat.add_zero, Nat.mul_one]))
      | ((with_reducible refine gate_dst (N := 24) rfl ?_); (with_reducible refine field_at rfl rfl rfl fo39_0 ?_); (try simp only [toNat_16, toNat_12, Int.toNat_natCast, Nat.zero_add, Nat.add_zero, Nat.mul_one]))
      | ((with_reducible refine gate_dst (N := 25) rfl ?_); (with_reducible refine load_one HS.out rfl rfl on4 rfl (by first | exact at0 | exact at1 | exact at2 | exact at3 | exact at4 | exact at5 | exact at6) (by with_reducible first | exact el_T0 _ _ (by omega) | exact el_T1 _ _ (by omega)) ?_))
      | ((with_reducible refine gate_dst (N := 30) rfl ?_); (with_reducible refine field_at rfl rfl rfl fo44_5 ?_); (try simp only [toNat_16, toNat_12, Int.toNat_natCast, Nat.zero_add, Nat.add_zero, Nat.mul_one]))
      | ((with_reducible refine gate_dst (N := 31) rfl ?_); (with_reducible refine index_at rfl rfl rfl rfl ar40 (Int.natCast_nonneg _) (by omega) ?_); (try simp only [toNat_16, toNat_12, Int.toNat_natCast, Nat.zero_add, Nat.add_zero, Nat.mul_one]))
      | ((with_reducible refine gate_dst (N := 32) rfl ?_); (with_reducible refine field_at rfl rfl rfl fo39_1 ?_); (try simp only [toNat_16, toNat_12, Int.toNat_natCast, Nat.zero_add, Nat.add_zero, Nat.mul_one]))
      | ((with_reducible refine gate_dst (N := 33) rfl ?_); (with_reducible refine load_one HS.out rfl rfl on24 rfl (by first | exact at0 | exact at1 | exact at2 | exact at3 | exact at4 | exact at5 | exact at6) (by with_reducible first | exact el_T0 _ _ (by omega) | exact el_T1 _ _ (by omega)) ?_))
      | ((with_reducible refine gate_dst (N := 42) rfl ?_); (with_reducible refine field_at rfl rfl rfl fo44_6 ?_); (try simp only [toNat_16, toNat_12, Int.toNat_natCast, Nat.zero_add, Nat.add_zero, Nat.mul_one]))
      | ((with_reducible refine gate_dst (N := 43) rfl ?_); (with_reducible refine index_at rfl rfl rfl rfl ar42 (Int.natCast_nonneg _) (by omega) ?_); (try simp only [toNat_16, toNat_12, Int.toNat_natCast, Nat.zero_add, Nat.add_zero, Nat.mul_one]))
      | ((with_reducible refine gate_dst (N := 44) rfl ?_); (with_reducible refine field_at rfl rfl rfl fo41_0 ?_); (try simp only [toNat_16, toNat_12, Int.toNat_natCast, Nat.zero_add, Nat.add_zero, Nat.mul_one]))
      | ((with_reducible refine gate_dst (N := 45) rfl ?_); (with_reducible refine load_one HS.out rfl rfl on4 rfl (by first | exact at0 | exact at1 | exact at2 | exact at3 | exact at4 | exact at5 | exact at6) (by with_reducible first | exact el_C0 _ _ (by omega) | exact el_C1 _ _ (by omega) | exact el_C2 _ _ (by omega)) ?_))
      | ((with_reducible refine gate_dst (N := 47) rfl ?_); (with_reducible refine field_at rfl rfl rfl fo44_6 ?_); (try simp only [toNat_16, toNat_12, Int.toNat_natCast, Nat.zero_add, Nat.add_zero, Nat.mul_one]))
      | ((with_reducible refine gate_dst (N := 48) rfl ?_); (with_reducible refine index_at rfl rfl rfl rfl ar42 (Int.natCast_nonneg _) (by omega) ?_); (try simp only [toNat_16, toNat_12, Int.toNat_natCast, Nat.zero_add, Nat.add_zero, Nat.mul_one]))
      | ((with_reducible refine gate_dst (N := 49) rfl ?_); (with_reducible refine field_at rfl rfl rfl fo41_1 ?_); (try simp only [toNat_16, toNat_12, Int.toNat_natCast, Nat.zero_add, Nat.add_zero, Nat.mul_one]))
      | ((with_reducible refine gate_dst (N := 50) rfl ?_); (with_reducible refine load_one HS.out rfl rfl on4 rfl (by first | exact at0 | exact at1 | exact at2 | exact at3 | exact at4 | exact at5 | exact at6) (by with_reducible first | exact el_C0 _ _ (by omega) | exact el_C1 _ _ (by omega) | exact el_C2 _ _ (by omega)) ?_))
      | ((with_reducible refine gate_dst (N := 55) rfl ?_); (with_reducible refine field_at rfl rfl rfl fo44_6 ?_); (try simp only [toNat_16, toNat_12, Int.toNat_natCast, Nat.zero_add, Nat.add_zero, Nat.mul_one]))
      | ((with_reducible refine gate_dst (N := 56) rfl ?_); (with_reducible refine index_at rfl rfl rfl rfl ar42 (Int.natCast_nonneg _) (by omega) ?_); (try simp only [toNat_16, toNat_12, Int.toNat_natCast, Nat.zero_add, Nat.add_zero, Nat.mul_one]))
      | ((with_reducible refine gate_dst (N := 57) rfl ?_); (with_reducible refine field_at rfl rfl rfl fo41_2 ?_); (try simp only [toNat_16, toNat_12, Int.toNat_natCast, Nat.zero_add, Nat.add_zero, Nat.mul_one]))
      | ((with_reducible refine gate_dst (N := 58) rfl ?_); (with_reducible refine load_one HS.out rfl rfl on24 rfl (by first | exact at0 | exact at1 | exact at2 | exact at3 | exact at4 | exact at5 | exact at6) (by with_reducible first | exact el_C0 _ _ (by omega) | exact el_C1 _ _ (by omega) | exact el_C2 _ _ (by omega)) ?_))
      | ((with_reducible refine gate_dst (N := 68) rfl ?_); (with_reducible refine field_at rfl rfl rfl fo44_7 ?_); (try simp only [toNat_16, toNat_12, Int.toNat_natCast, Nat.zero_add, Nat.add_zero, Nat.mul_one]))
      | ((with_reducible refine gate_dst (N := 69) rfl ?_); (with_reducible refine index_at rfl rfl rfl rfl ar32 (Int.natCast_nonneg _) (by omega) ?_); (try simp only [toNat_16, toNat_12, Int.toNat_natCast, Nat.zero_add, Nat.add_zero, Nat.mul_one]))
      | ((with_reducible refine gate_dst (N := 70) rfl ?_); (with_reducible refine load_one HS.out rfl rfl on31 rfl (by first | exact at0 | exact at1 | exact at2 | exact at3 | exact at4 | exact at5 | exact at6) (by with_reducible exact el_D _ _ (by omega)) ?_))); (try simp only [Act.put, List.setIfInBounds_toArray, List.set_cons_zero, List.set_cons_succ]))
          go_roundw
          case rel => exact ⟨k + 1, _, rfl, by go_num, by omega, ⟨by have h_ := HO.out; simpa [cB, List.append_assoc] using h_⟩, HS⟩
          case measure => simp [intOf]; omega
        · have e_ : k = 16 := by omega
          have HO_ := HO.out
          rw [e_] at HO_
          clear HO e_
          have HO := Aside0.mk HO_
          clear HO_
          go_wp2_with fail
          go_loopw [3, 6] (fun v3 v6 W => ∃ (k : Nat) (v : Value), v3 = v ∧ v6 = .int .i64 k ∧ k ≤ 16 ∧ Aside0 (Row w W [(g1, mc m)] v (hB m ++ tB m.T 16 ++ cB m.C 16 ++ dB m.D k)) ∧ Aside0 (Priv w W [(g1, mc m)])) (fun _ v6 _ => 16 - (intOf v6).toNat)
          case atStart => exact ⟨0, _, rfl, rfl, by omega, ⟨by have h_ := HO.out; simpa [dB] using h_⟩, HS⟩
          case round =>
            clear HS HO
            obtain ⟨k, v, rfl, rfl, hk, HO, HS⟩ := hrel
            by_cases hlt : k < 16
            · obtain ⟨t0, t1⟩ := HD.out (16 + k) (by omega)
              go_wp2_with ((first
      | ((with_reducible refine gate_dst (N := 75) rfl ?_); refine ev_put HS.out HO.out rfl rfl (by (try simp only [List.map_toArray, List.map_cons, List.map_nil]); first | done | rfl) 2 (by rfl) (by decide) (by omega) (by omega) (by simp only [List.length_append, hB_length, tB_length, cB_length, dB_length, le_length, List.length_nil]; omega) ?_; intro v_ W_ HP HO_; clear HS; have HS := Aside0.mk HP; clear HP; clear HO; have HO := Aside0.mk HO_; clear HO_)
      | ((with_reducible refine gate_region (id := 11) ?_); refine region_tail HS.out 11 (by kernel_rfl) (by kernel_rfl) ?_; intro W_ HP HB_; clear HS; have HS := Aside0.mk HP; clear HP; have HO_ := Row.below HO.out HB_; clear HO HB_; have HO := Aside0.mk HO_; clear HO_; simp only [List.take_succ_cons, List.take_zero, List.drop_succ_cons, List.drop_zero]; (repeat (first
          | ((with_reducible refine st_gate (N := 42) rfl ?_); (with_reducible refine st_field_at rfl rfl rfl fo44_6 ?_); (try simp only [toNat_16, toNat_12, Int.toNat_natCast, Nat.zero_add, Nat.add_zero, Nat.mul_one]))
          | ((with_reducible refine st_gate (N := 43) rfl ?_); (with_reducible refine st_index_at rfl rfl rfl rfl ar42 (by omega) (by omega) ?_); (try simp only [toNat_16, toNat_12, Int.toNat_natCast, Nat.zero_add, Nat.add_zero, Nat.mul_one]))
          | ((with_reducible refine st_gate (N := 44) rfl ?_); (with_reducible refine st_field_at rfl rfl rfl fo41_0 ?_); (try simp only [toNat_16, toNat_12, Int.toNat_natCast, Nat.zero_add, Nat.add_zero, Nat.mul_one]))
          | ((with_reducible refine st_gate (N := 45) rfl ?_); (with_reducible refine st_load_one HS.out rfl rfl on4 rfl (by first | exact at0 | exact at1 | exact at2 | exact at3 | exact at4 | exact at5 | exact at6) (by with_reducible first | exact get_X _ | exact get_Y _ | exact get_M _ | exact get_S _ | exact get_E _ | exact get_Time _ | exact get_Ran _ | exact get_Fault _ | exact el_T0 _ _ (by omega) | exact el_T1 _ _ (by omega) | exact el_C0 _ _ (by omega) | exact el_C1 _ _ (by omega) | exact el_C2 _ _ (by omega) | exact el_D _ _ (by omega) | exact el_R _ _ (by omega) | exact dc_get _ _ (by omega) | exact rc_get _ _ (by omega) | exact at0a | exact at1a | exact at2a | exact at3a) ?_))
          | ((with_reducible refine st_gate (N := 47) rfl ?_); (with_reducible refine st_field_at rfl rfl rfl fo44_6 ?_); (try simp only [toNat_16, toNat_12, Int.toNat_natCast, Nat.zero_add, Nat.add_zero, Nat.mul_one]))
          | ((with_reducible refine st_gate (N := 48) rfl ?_); (with_reducible refine st_index_at rfl rfl rfl rfl ar42 (by omega) (by omega) ?_); (try simp only [toNat_16, toNat_12, Int.toNat_natCast, Nat.zero_add, Nat.add_zero, Nat.mul_one]))
          | ((with_reducible refine st_gate (N := 49) rfl ?_); (with_reducible refine st_field_at rfl rfl rfl fo41_1 ?_); (try simp only [toNat_16, toNat_12, Int.toNat_natCast, Nat.zero_add, Nat.add_zero, Nat.mul_one]))
          | ((with_reducible refine st_gate (N := 50) rfl ?_); (with_reducible refine st_load_one HS.out rfl rfl on4 rfl (by first | exact at0 | exact at1 | exact at2 | exact at3 | exact at4 | exact at5 | exact at6) (by with_reducible first | exact get_X _ | exact get_Y _ | exact get_M _ | exact get_S _ | exact get_E _ | exact get_Time _ | exact get_Ran _ | exact get_Fault _ | exact el_T0 _ _ (by omega) | exact el_T1 _ _ (by omega) | exact el_C0 _ _ (by omega) | exact el_C1 _ _ (by omega) | exact el_C2 _ _ (by omega) | exact el_D _ _ (by omega) | exact el_R _ _ (by omega) | exact dc_get _ _ (by omega) | exact rc_get _ _ (by omega) | exact at0a | exact at1a | exact at2a | exact at3a) ?_))
          | still_step)); refine wpStill_nil ?_)
      | ((with_reducible refine gate_dst (N := 1) rfl ?_); (with_reducible refine box_new HS.out rfl rfl (by first | exact eval_tmp rfl | exact eval_const) ?_); intro g1 W1_ HP; clear HS; have HS := Aside0.mk HP; clear HP)
      | ((with_reducible refine gate_dst (N := 7) rfl ?_); (with_reducible refine field_at rfl rfl rfl fo44_2 ?_); (try simp only [toNat_16, toNat_12, Int.toNat_natCast, Nat.zero_add, Nat.add_zero, Nat.mul_one]))
      | ((with_reducible refine gate_dst (N := 8) rfl ?_); (with_reducible refine load_one HS.out rfl rfl on23 rfl (by first | exact at0 | exact at1 | exact at2 | exact at3 | exact at4 | exact at5 | exact at6) (by with_reducible exact get_M _) ?_))
      | ((with_reducible refine gate_dst (N := 12) rfl ?_); (with_reducible refine field_at rfl rfl rfl fo44_3 ?_); (try simp only [toNat_16, toNat_12, Int.toNat_natCast, Nat.zero_add, Nat.add_zero, Nat.mul_one]))
      | ((with_reducible refine gate_dst (N := 13) rfl ?_); (with_reducible refine load_one HS.out rfl rfl on24 rfl (by first | exact at0 | exact at1 | exact at2 | exact at3 | exact at4 | exact at5 | exact at6) (by with_reducible exact get_S _) ?_))
      | ((with_reducible refine gate_dst (N := 22) rfl ?_); (with_reducible refine field_at rfl rfl rfl fo44_5 ?_); (try simp only [toNat_16, toNat_12, Int.toNat_natCast, Nat.zero_add, Nat.add_zero, Nat.mul_one]))
      | ((with_reducible refine gate_dst (N := 23) rfl ?_); (with_reducible refine index_at rfl rfl rfl rfl ar40 (by omega) (by omega) ?_); (try simp only [toNat_16, toNat_12, Int.toNat_natCast, Nat.zero_add, Nat.add_zero, Nat.mul_one]))
      | ((with_reducible refine gate_dst (N := 24) rfl ?_); (with_reducible refine field_at rfl rfl rfl fo39_0 ?_); (try simp only [toNat_16, toNat_12, Int.toNat_natCast, Nat.zero_add, Nat.add_zero, Nat.mul_one]))
      | ((with_reducible refine gate_dst (N := 25) rfl ?_); (with_reducible refine load_one HS.out rfl rfl on4 rfl (by first | exact at0 | exact at1 | exact at2 | exact at3 | exact at4 | exact at5 | exact at6) (by with_reducible first | exact el_T0 _ _ (by omega) | exact el_T1 _ _ (by omega)) ?_))
      | ((with_reducible refine gate_dst (N := 30) rfl ?_); (with_reducible refine field_at rfl rfl rfl fo44_5 ?_); (try simp only [toNat_16, toNat_12, Int.toNat_natCast, Nat.zero_add, Nat.add_zero, Nat.mul_one]))
      | ((with_reducible refine gate_dst (N := 31) rfl ?_); (with_reducible refine index_at rfl rfl rfl rfl ar40 (by omega) (by omega) ?_); (try simp only [toNat_16, toNat_12, Int.toNat_natCast, Nat.zero_add, Nat.add_zero, Nat.mul_one]))
      | ((with_reducible refine gate_dst (N := 32) rfl ?_); (with_reducible refine field_at rfl rfl rfl fo39_1 ?_); (try simp only [toNat_16, toNat_12, Int.toNat_natCast, Nat.zero_add, Nat.add_zero, Nat.mul_one]))
      | ((with_reducible refine gate_dst (N := 33) rfl ?_); (with_reducible refine load_one HS.out rfl rfl on24 rfl (by first | exact at0 | exact at1 | exact at2 | exact at3 | exact at4 | exact at5 | exact at6) (by with_reducible first | exact el_T0 _ _ (by omega) | exact el_T1 _ _ (by omega)) ?_))
      | ((with_reducible refine gate_dst (N := 42) rfl ?_); (with_reducible refine field_at rfl rfl rfl fo44_6 ?_); (try simp only [toNat_16, toNat_12, Int.toNat_natCast, Nat.zero_add, Nat.add_zero, Nat.mul_one]))
      | ((with_reducible refine gate_dst (N := 43) rfl ?_); (with_reducible refine index_at rfl rfl rfl rfl ar42 (by omega) (by omega) ?_); (try simp only [toNat_16, toNat_12, Int.toNat_natCast, Nat.zero_add, Nat.add_zero, Nat.mul_one]))
      | ((with_reducible refine gate_dst (N := 44) rfl ?_); (with_reducible refine field_at rfl rfl rfl fo41_0 ?_); (try simp only [toNat_16, toNat_12, Int.toNat_natCast, Nat.zero_add, Nat.add_zero, Nat.mul_one]))
      | ((with_reducible refine gate_dst (N := 45) rfl ?_); (with_reducible refine load_one HS.out rfl rfl on4 rfl (by first | exact at0 | exact at1 | exact at2 | exact at3 | exact at4 | exact at5 | exact at6) (by with_reducible first | exact el_C0 _ _ (by omega) | exact el_C1 _ _ (by omega) | exact el_C2 _ _ (by omega)) ?_))
      | ((with_reducible refine gate_dst (N := 47) rfl ?_); (with_reducible refine field_at rfl rfl rfl fo44_6 ?_); (try simp only [toNat_16, toNat_12, Int.toNat_natCast, Nat.zero_add, Nat.add_zero, Nat.mul_one]))
      | ((with_reducible refine gate_dst (N := 48) rfl ?_); (with_reducible refine index_at rfl rfl rfl rfl ar42 (by omega) (by omega) ?_); (try simp only [toNat_16, toNat_12, Int.toNat_natCast, Nat.zero_add, Nat.add_zero, Nat.mul_one]))
      | ((with_reducible refine gate_dst (N := 49) rfl ?_); (with_reducible refine field_at rfl rfl rfl fo41_1 ?_); (try simp only [toNat_16, toNat_12, Int.toNat_natCast, Nat.zero_add, Nat.add_zero, Nat.mul_one]))
      | ((with_reducible refine gate_dst (N := 50) rfl ?_); (with_reducible refine load_one HS.out rfl rfl on4 rfl (by first | exact at0 | exact at1 | exact at2 | exact at3 | exact at4 | exact at5 | exact at6) (by with_reducible first | exact el_C0 _ _ (by omega) | exact el_C1 _ _ (by omega) | exact el_C2 _ _ (by omega)) ?_))
      | ((with_reducible refine gate_dst (N := 55) rfl ?_); (with_reducible refine field_at rfl rfl rfl fo44_6 ?_); (try simp only [toNat_16, toNat_12, Int.toNat_natCast, Nat.zero_add, Nat.add_zero, Nat.mul_one]))
      | ((with_reducible refine gate_dst (N := 56) rfl ?_); (with_reducible refine index_at rfl rfl rfl rfl ar42 (by omega) (by omega) ?_); (try simp only [toNat_16, toNat_12, Int.toNat_natCast, Nat.zero_add, Nat.add_zero, Nat.mul_one]))
      | ((with_reducible refine gate_dst (N := 57) rfl ?_); (with_reducible refine field_at rfl rfl rfl fo41_2 ?_); (try simp only [toNat_16, toNat_12, Int.toNat_natCast, Nat.zero_add, Nat.add_zero, Nat.mul_one]))
      | ((with_reducible refine gate_dst (N := 58) rfl ?_); (with_reducible refine load_one HS.out rfl rfl on24 rfl (by first | exact at0 | exact at1 | exact at2 | exact at3 | exact at4 | exact at5 | exact at6) (by with_reducible first | exact el_C0 _ _ (by omega) | exact el_C1 _ _ (by omega) | exact el_C2 _ _ (by omega)) ?_))
      | ((with_reducible refine gate_dst (N := 68) rfl ?_); (with_reducible refine field_at rfl rfl rfl fo44_7 ?_); (try simp only [toNat_16, toNat_12, Int.toNat_natCast, Nat.zero_add, Nat.add_zero, Nat.mul_one]))
      | ((with_reducible refine gate_dst (N := 69) rfl ?_); (with_reducible refine index_at rfl rfl rfl rfl ar32 (by omega) (by omega) ?_); (try simp only [toNat_16, toNat_12, Int.toNat_natCast, Nat.zero_add, Nat.add_zero, Nat.mul_one]))
      | ((with_reducible refine gate_dst (N := 70) rfl ?_); (with_reducible refine load_one HS.out rfl rfl on31 rfl (by first | exact at0 | exact at1 | exact at2 | exact at3 | exact at4 | exact at5 | exact at6) (by with_reducible exact el_D _ _ (by omega)) ?_))); (try simp only [Act.put, List.setIfInBounds_toArray, List.set_cons_zero, List.set_cons_succ]))
              go_roundw
              case rel => exact ⟨k + 1, _, rfl, by go_num, by omega, ⟨by have h_ := HO.out; simpa [dB, List.append_assoc] using h_⟩, HS⟩
              case measure => simp [intOf]; omega
            · have e_ : k = 16 := by omega
              have HO_ := HO.out
              rw [e_] at HO_
              clear HO e_
              have HO := Aside0.mk HO_
              clear HO_
              go_wp2_with fail
              go_ret
              exact ⟨_, rfl, Kd.R_mono HO.out (fun _ _ => trivial), HS.out.below⟩


end Go.Proofs.Ytdmjdcapkjnipaa.K
