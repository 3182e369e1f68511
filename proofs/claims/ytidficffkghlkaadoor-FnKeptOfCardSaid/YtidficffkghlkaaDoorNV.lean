/- Walks over the ladders' memory: what the functions of this seat answer. -/
import Derived.Test.YtidficffkghlkaaDoorProg
import Derived.Test.YtidficffkghlkaaDoorMW
import Derived.WalkKit
import Derived.Deep.LoopGhost
import Derived.Deep.DeepCutAuto
import Derived.BigFrame
import Derived.Deep.QuietTactic
import Derived.BigQuiet
import Derived.Test.YtidficffkghlkaaDoorKS
import Derived.Test.YtidficffkghlkaaDoorRC
import Derived.Test.YtidficffkghlkaaDoorQDraw
namespace Go.Proofs.YtidficffkghlkaaDoor.K
open Go Go.RowKit Go.Proofs.YtidficffkghlkaaDoorW Go.Proofs.YtidficffkghlkaaDoorW.PrintWords Go.Proofs.YtidficffkghlkaaDoor.MW
set_option linter.unusedVariables false
set_option linter.unusedSimpArgs false
set_option maxRecDepth 100000

open QDraw
theorem PrR_back {w W W' : World} {L : List (Nat × Array Value)} {g : Nat} {b : List Int} {q : Int} (H0 : Priv w W L) (H : PrR w W W' [] g b q) (hne : ∀ x ∈ L, x.1 ≠ g) : Priv w W' L :=
  ⟨H.pr.below, H0.ge, fun x hx => by
    obtain ⟨t, h⟩ := H0.blk x hx
    exact ⟨t, (H.kp.2 x.1 (H0.lt hx) (hne x hx) (by simp)).trans h⟩, H0.nd⟩
theorem c_open {w W : World} {L : List (Nat × Array Value)} (HS : Priv w W L) (hz : ∀ x ∈ L, x.2.size ≠ 2) {A0 : Option Addr} {c0 : Nat} {l : List Int} (hC : (Kd.int .u8).C w A0 l.length l) (hc : l.length ≤ c0) (hb : Tell.Bytes l) (hl : l.length ≤ 1048576) : Calls Tryd.prog 37 #[.slice A0 l.length c0] W (fun e W' => ∃ v, e = .returned v ∧ ((∃ (g : Nat) (b : List Int), v = .pointer (some ⟨g, 0, none⟩) ∧ Tell.Bytes b ∧ b.length ≤ 2000 ∧ PrR w W' W' [] g b 0 ∧ ∀ x ∈ L, x.1 ≠ g) ∧ Priv w W' L)) := by
  obtain ⟨b, hf, hbb, hbl⟩ := open_tells l hb hl
  refine (F.spec_l26Open.calls A0 c0 l b 0 w W HS.below hC hc hf).mono ?_
  rintro e W' ⟨g, rfl, hI, hB, hB2⟩
  have HS' := HS.call hB2
  refine ⟨_, rfl, ⟨g, b, rfl, hbb, hbl, PrR.begin (by omega) (by omega) hI hB, fun x hx he => ?_⟩, HS'⟩
  obtain ⟨t, h⟩ := HS'.blk x hx
  obtain ⟨A1, c1, hb1, _, _⟩ := hI
  rw [he, hb1] at h
  have h2 := Option.some.inj h
  have h3 : (#[.slice A1 b.length c1, .int .i64 0] : Array Value) = x.2 := by injection h2
  exact hz x hx (by rw [← h3]; rfl)

set_option maxHeartbeats 4000000 in
set_option maxRecDepth 100000 in
theorem c_DrawKeptOf (l : List Int) (A0 : Option Addr) (c0 : Nat) (w : World) (hC : (Kd.int .u8).C w A0 l.length l) (hc : l.length ≤ c0) (hb : Tell.Bytes l) (hl : l.length ≤ 1048576) : Calls Tryd.prog 10 #[.slice A0 l.length c0] w (Ret w (fun v => ∃ m : Mm, v = .agg (mc m) ∧ m.wf)) := by
  have HS := Aside0.mk (Priv.nil w)
  have HC := Aside0.mk hC
  clear hC
  go_enter Tryd.func10, Tryd.ntmps10
  go_wp2_with (first
      | ((with_reducible refine gate_dst (N := 2) rfl ?_); (with_reducible refine alloc_new HS.out rfl rfl ze37 ?_); intro g2 W2_ HP; clear HS; have HS := Aside0.mk HP; clear HP; (try simp only [Act.put, List.setIfInBounds_toArray, List.set_cons_zero, List.set_cons_succ])))
  go_at_call 37
  refine (c_open HS.out (by intro x hx; rw [List.mem_singleton] at hx; subst hx; rw [mc_size]; decide) HC.out hc hb hl).mono ?_
  rintro e_ W_ ⟨v_, rfl, ⟨g, b, rfl, hbb, hbl, HR, hne⟩, HP⟩
  clear HS; have HS := Aside0.mk HP; clear HP
  go_wp2_with (first | (go_at_call 36; refine (c_l5Draw HR hbb hbl (by decide)).mono ?_; rintro e_ W2_ ⟨v_, rfl, ⟨m, rfl, wf⟩, HR2⟩; have HP := PrR_back HS.out HR2 hne; clear HS; have HS := Aside0.mk HP; clear HP) | (first
      | ((with_reducible refine gate_dst (N := 2) rfl ?_); (with_reducible refine alloc_new HS.out rfl rfl ze37 ?_); intro g2 W2_ HP; clear HS; have HS := Aside0.mk HP; clear HP; (try simp only [Act.put, List.setIfInBounds_toArray, List.set_cons_zero, List.set_cons_succ]))
      | ((with_reducible refine gate_store (t := 37) (p := 2) rfl ?_); (with_reducible refine store_seg HS.out rfl rfl rfl ag37 rfl (by first | exact eval_tmp rfl | exact eval_const) (by first | exact at0 | exact at1 | exact at2 | exact at3 | exact at4 | exact at5 | exact at6) (by with_reducible first | exact tc_put _ _ (by omega) _ _ | exact cc_put _ _ (by omega) _ _ _ | exact dc_put _ _ (by omega) _ | exact rc_put _ _ (by omega) _ | exact lay_mc _ _ | exact lay_tc _ _ | exact lay_cc _ _ | exact lay_dc _ _ | exact lay_rc _ _ | exact lay2_0 | exact lay2_1 | exact lay3_0 | exact lay3_1 | exact lay3_2 | exact lay2_w | exact lay3_w) (by with_reducible first | exact mc_size _ | exact tc_size _ | exact cc_size _ | exact dc_size _ | exact rc_size _ | exact sz1 | exact sz2 | exact sz3 | exact sz4) (by simp only [mc_size, tc_size, cc_size, dc_size, rc_size, List.size_toArray, List.length_cons, List.length_nil]; omega) (by first | (with_reducible first | exact mc_one _ | exact tc_one _ | exact cc_one _ | exact dc_one _ | exact rc_one _ | exact t2_one _ _ | exact t3_one _ _ _) | (simp [Value.oneCell']; done)) ?_); intro W_ HP; clear HS; have HS := Aside0.mk HP; clear HP; (try simp only [List.set_cons_zero, List.set_cons_succ] at HS))))
  refine ret_agg HS.out (by rfl) (by rfl) (by rfl) (by first | exact at0 | exact at1 | exact at2 | exact at3 | exact at4 | exact at5 | exact at6) ag37 (by with_reducible first | exact mc_size _ | exact tc_size _ | exact cc_size _ | exact dc_size _ | exact rc_size _ | exact sz1 | exact sz2 | exact sz3 | exact sz4) ?_
  exact ⟨_, rfl, ⟨_, rfl, wf⟩, HS.out.below⟩

section
variable {P : Program} {ops : Array Oper} {rest : List Oper} {o : Oper} {a : Act} {Q : Exit → Act → World → Prop} {W : World} {x y : Operand} {xs : Array Value} {t tr : TypeId}
theorem eql_aggT (hgd : o.guard = none) (ho : o.op = .binOp .eql t x y tr) (hm : P.eqGuardType P.depth t = false) (hx : a.eval x = .agg xs) (hy : a.eval y = .agg xs) (he : (Op.equalIn 10000 t (.agg xs) (.agg xs)).run P W = .ok true W) (h : wpList P ops Q rest (a.put o.dst (.bool true)) W) : wpList P ops Q (o :: rest) a W := by
  refine ev_value hgd ?_ h
  have hg : ∀ x y, (eqGuard .eql t x y (.agg xs) (.agg xs)).run P W = .ok () W := fun x y => run_eqGuard_agg W .eql t x y _ _ hm
  have hb : (binOp .eql t (.agg xs) (.agg xs)).run P W = .ok (.bool true) W := by rw [run_eql_struct, he]; rfl
  unfold execOp
  simp [ho, hx, hy, hg, hb]
theorem run_load_segG {w : World} {L : List (Nat × Array Value)} {g off n : Nat} {cs seg : Array Value} {ty : TypeId} {p : Operand} (HS : Priv w W L) {i : Nat} (ho : o.op = .load ty p) (hz : aggSize P ty = some n) (hp : a.eval p = .pointer (some ⟨g, off, none⟩)) (hi : L[i]? = some (g, cs)) (hs : ∀ j, j < seg.size → cs[off + j]? = seg[j]?) (hn : seg.size = n)
    : (execOp a.eval o).run P W = .ok (.value (.agg seg)) W := by
  unfold execOp
  simp [ho, hp, Instr.loadAt, Instr.sureAddr, run_loadVar_seg (HS.at_ hi) (hn ▸ hz) hs]
end
set_option maxHeartbeats 4000000 in
set_option maxRecDepth 100000 in
theorem c_MemWholeD (m : Mm) (n p : Int) (j : Nat) (hj : place 9 n = j) (hlt : j < 32) (w : World) (ht : Tab w) : Calls Tryd.prog 15 #[.agg (mc m), .agg #[.int .i64 9, .int .i64 n, .int .i64 p]] w (Ret w (· = .int .i16 (m.D j))) := by
  have HS := Aside0.mk (Priv.nil w)
  have HT := Aside0.mk ht
  clear ht
  go_enter Tryd.func15, Tryd.ntmps15
  go_wp2_with ((first | ((with_reducible refine gate_dst (N := 7) rfl ?_); refine call_ev2 HS.out rfl rfl Tryd.func39 (by kernel_rfl) rfl (by (try simp only [List.map_toArray, List.map_cons, List.map_nil]); first | done | rfl) (c_placeE _ _ _ _ hj _ (HT.out.below HS.out.below)) ?_; rintro v_ W_ rfl HP HB_; clear HS; have HS := Aside0.mk HP; clear HP; clear HB_) | (first
      | ((with_reducible refine gate_dst (N := 2) rfl ?_); (with_reducible refine box_new HS.out rfl rfl (by first | exact eval_tmp rfl | exact eval_const) ?_); intro g2 W2_ HP; clear HS; have HS := Aside0.mk HP; clear HP)
      | ((with_reducible refine gate_dst (N := 3) rfl ?_); (with_reducible refine box_new HS.out rfl rfl (by first | exact eval_tmp rfl | exact eval_const) ?_); intro g3 W3_ HP; clear HS; have HS := Aside0.mk HP; clear HP)
      | ((with_reducible refine gate_dst (N := 6) rfl ?_); (with_reducible refine load_seg HS.out rfl rfl ag42 rfl (by first | exact at0 | exact at1 | exact at2 | exact at3 | exact at4 | exact at5 | exact at6) (by with_reducible first | exact tc_el _ _ (by omega) | exact cc_el _ _ (by omega) | exact whole _) (by with_reducible first | exact mc_size _ | exact tc_size _ | exact cc_size _ | exact dc_size _ | exact rc_size _ | exact sz1 | exact sz2 | exact sz3 | exact sz4) ?_))
      | ((with_reducible refine gate_dst (N := 8) rfl ?_); (with_reducible refine field_at rfl rfl rfl fo42_0 ?_); (try simp only [toNat_16, toNat_12, Int.toNat_natCast, Nat.zero_add, Nat.add_zero, Nat.mul_one]))
      | ((with_reducible refine gate_dst (N := 9) rfl ?_); (with_reducible refine load_one HS.out rfl rfl on3 rfl (by first | exact at0 | exact at1 | exact at2 | exact at3 | exact at4 | exact at5 | exact at6) (by with_reducible first | exact dc_get _ _ (by omega) | exact rc_get _ _ (by omega) | exact at0a | exact at1a | exact at2a | exact at3a) ?_))
      | ((with_reducible refine gate_dst (N := 31) rfl ?_); (with_reducible refine field_at rfl rfl rfl fo37_7 ?_); (try simp only [toNat_16, toNat_12, Int.toNat_natCast, Nat.zero_add, Nat.add_zero, Nat.mul_one]))
      | ((with_reducible refine gate_dst (N := 32) rfl ?_); (with_reducible refine index_at rfl rfl rfl rfl ar33 (by omega) (by omega) ?_); (try simp only [toNat_16, toNat_12, Int.toNat_natCast, Nat.zero_add, Nat.add_zero, Nat.mul_one]))
      | ((with_reducible refine gate_dst (N := 33) rfl ?_); (with_reducible refine load_one HS.out rfl rfl on32 rfl (by first | exact at0 | exact at1 | exact at2 | exact at3 | exact at4 | exact at5 | exact at6) (by with_reducible exact el_D _ _ (by omega)) ?_)))); (try simp only [Act.put, List.setIfInBounds_toArray, List.set_cons_zero, List.set_cons_succ]))
  go_ret
  exact ⟨_, rfl, by first | rfl | (simp only [Int.toNat_natCast]; rfl), HS.out.below⟩
theorem c_MemWholeDE (m : Mm) (n : Int) (j : Nat) (hn : n = j) (hlt : j < 32) (r : Int) (hr : m.D j = r) (w : World) (ht : Tab w) : Calls Tryd.prog 15 #[.agg (mc m), .agg #[.int .i64 9, .int .i64 n, .int .i64 0]] w (Ret w (· = .int .i16 r)) := by
  subst hr hn
  exact c_MemWholeD m j 0 j (place_self 9 j (by omega) (by show (j : Int) < 32; omega)) hlt w ht
theorem c_MemBitE (m : Mm) (wf : m.wf) (k n : Int) (j : Nat) (hn : n = j) (hlt : (j : Int) < devN k) (b : Bool) (hb : membit m k j = b) (w : World) (ht : Tab w) : Calls Tryd.prog 14 #[.agg (mc m), .agg #[.int .i64 k, .int .i64 n, .int .i64 0]] w (Ret w (· = .bool b)) := by
  subst hb hn
  exact c_MemBit0 m wf k j 0 j (place_self k j (by omega) hlt) (fun _ => hlt) w ht
theorem keptOf_wf (m : Mm) (wf : m.wf) : (keptOf m).wf where
  X := by show (0 : Int) ≤ 0 ∧ (0 : Int) < 4294967296; decide
  Y := by show (0 : Int) ≤ 0 ∧ (0 : Int) < 4294967296; decide
  M := by have := wf.M; show 0 ≤ m.M - m.M % 4294967296 ∧ m.M - m.M % 4294967296 < 18446744073709551616; omega
  S := wf.S
  E := by show (0 : Int) ≤ 0 ∧ (0 : Int) < 4294967296; decide
  T := wf.T
  C := wf.C
  D := fun i hi => by
    show -32768 ≤ (if 16 ≤ i then m.D i else 0) ∧ (if 16 ≤ i then m.D i else 0) < 32768
    split
    · exact wf.D i hi
    · omega
  R := zm_wf.R
  Time := by show (0 : Int) ≤ 0 ∧ (0 : Int) < 4294967296; decide
theorem kept_twice (m : Mm) (wf : m.wf) : keptOf (keptOf m) = keptOf m := by
  have hM : (m.M - m.M % 4294967296) - (m.M - m.M % 4294967296) % 4294967296 = m.M - m.M % 4294967296 := by omega
  have hD : (fun i : Nat => if 16 ≤ i then (if 16 ≤ i then m.D i else 0) else 0) = fun i : Nat => if 16 ≤ i then m.D i else 0 := by
    funext i
    by_cases h : 16 ≤ i
    · rw [if_pos h, if_pos h]
    · rw [if_neg h, if_neg h]
  show Mm.mk _ _ _ _ _ _ _ _ _ _ _ _ = Mm.mk _ _ _ _ _ _ _ _ _ _ _ _
  have e1 : (keptOf (keptOf m)).M = (keptOf m).M := hM
  have e2 : (keptOf (keptOf m)).D = (keptOf m).D := hD
  unfold keptOf at e1 e2 ⊢
  simp only [Mm.mk.injEq]
  first | exact ⟨e1, e2⟩ | exact ⟨trivial, trivial, e1, trivial, trivial, trivial, trivial, e2, trivial, trivial, trivial, trivial⟩
theorem kept_bit (m : Mm) (wf : m.wf) (i : Nat) (hi : i < 64) : membit (keptOf m) 3 i = (decide (32 ≤ i) && membit m 3 i) := by
  show testb (m.M - m.M % 4294967296) i = (decide (32 ≤ i) && testb m.M i)
  obtain ⟨x, hx⟩ := Int.eq_ofNat_of_zero_le wf.M.1
  rw [hx]
  rw [testb_nat _ _ (by omega), testb_nat _ _ (by omega)]
  have e : ((x : Int) - (x : Int) % 4294967296).toNat = (x / 2 ^ 32) * 2 ^ 32 := by omega
  rw [e, Int.toNat_natCast, ← Nat.shiftRight_eq_div_pow, ← Nat.shiftLeft_eq, Nat.testBit_shiftLeft, Nat.testBit_shiftRight]
  by_cases h : 32 ≤ i
  · rw [decide_eq_true h, show 32 + (i - 32) = i by omega]
  · rw [decide_eq_false (by omega)]; rfl
theorem c_MemSameE (m m' : Mm) (h : m' = m) (w : World) : Calls Tryd.prog 12 #[.agg (mc m), .agg (mc m')] w (Ret w (· = .bool true)) := by
  subst h
  exact c_MemSame m' w

end Go.Proofs.YtidficffkghlkaaDoor.K
