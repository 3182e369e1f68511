/- Walks over the ladders' memory: what the functions of this seat answer. -/
import Derived.Test.YtaegonmpjgdmgaaDoorProg
import Derived.Test.YtaegonmpjgdmgaaDoorMW
import Derived.WalkKit
import Derived.Deep.LoopGhost
import Derived.Deep.DeepCutAuto
import Derived.BigFrame
import Derived.Deep.QuietTactic
import Derived.BigQuiet
import Derived.Test.YtaegonmpjgdmgaaDoorOC
import Derived.Test.YtaegonmpjgdmgaaDoorOF
import Derived.Test.YtaegonmpjgdmgaaDoorRC
import Derived.Test.YtaegonmpjgdmgaaDoorRE
import Derived.Test.YtaegonmpjgdmgaaDoorFx4
import Derived.Test.YtaegonmpjgdmgaaDoorFx6
import Derived.Laws.Externs
namespace Go.Proofs.YtaegonmpjgdmgaaDoor.K
open Go Go.RowKit Go.Proofs.YtaegonmpjgdmgaaDoorW Go.Proofs.YtaegonmpjgdmgaaDoorW.PrintWords Go.Proofs.YtaegonmpjgdmgaaDoor.MW
set_option linter.unusedVariables false
set_option linter.unusedSimpArgs false
set_option maxRecDepth 100000
theorem fo61_2 : fieldOff Tryd.prog 61 2 = some 2 := by kernel_rfl
open BActT
theorem tab_of {w : World} (h : TB.Tab w) : Tab w := by
 obtain ⟨⟨b, off, cap, h1, h2, h3, h4⟩, _⟩ := h
 exact ⟨b, off, cap, h1, h2, h3, h4⟩
theorem iK (a b c : Int) (l : List Int) (r : Bool) (hr : (dok a b c && decide (a ∈ l)) = r) (hl : l.length ≤ 1048576) (B : Option Addr) (m cp : Nat) (hm : m = l.length) (w : World) (ht : TB.Tab w) {base : Nat} {ok : Nat → Prop} (hR : Kd.R (Kd.int .i64) 3 w base ok (.slice B m cp) l) : Calls Tryd.prog 82 #[.agg #[.int .i64 a, .int .i64 b, .int .i64 c], .slice B m cp] w (Ret w (· = .bool r)) := by
 subst hm
 obtain ⟨n, hn⟩ := kindIs_ev a b c l hl
 have hn := hn n (Nat.le_refl _)
 rw [hr] at hn
 exact Ret.of_eq (F.impl_DevArg_kindIs.calls n _ _ _ _ _ _ _ w ht (Kd.R_reads' hR).2.2 (Kd.R_reads' hR).2.1 hn)
theorem sK (a b c : Int) (r : Bool) (hr : dok a b c = r) (w : World) : Calls Tryd.prog 80 #[.agg #[.int .i64 a, .int .i64 b, .int .i64 c]] w (Ret w (· = .bool r)) := by
 obtain ⟨n, hn⟩ := spec_dok_ev a b c
 have hn := hn n (Nat.le_refl _)
 rw [hr] at hn
 exact Ret.of_eq (F.spec_DevOk.calls n _ _ _ _ w hn)
section
variable {P : Program} {ops : Array Oper} {rest : List Oper} {o : Oper} {a : Act} {Q : Exit → Act → World → Prop} {w W : World} {L : List (Nat × Array Value)} {x y : Operand} {t1 t2 : TypeId} {u v : Nat}
theorem ev_quo (HS : Priv w W L) (hgd : o.guard = none) (ho : o.op = .binOp .quo t1 x y t2) (hx : a.eval x = .float .f64 u) (hy : a.eval y = .float .f64 v)
  (h : ∀ r W', r < 18446744073709551616 → fq u v r → Priv w W' L → wpList P ops Q rest (a.put o.dst (.float .f64 r)) W') : wpList P ops Q (o :: rest) a W := by
 obtain ⟨r, m, h1, h2, h3⟩ := run_quo P t1 u v W
 refine ev_value hgd ?_ (h r _ h1 h2 (HS.drewN m))
 unfold execOp
 simp [ho, hx, hy, eqGuard, h3]
theorem call_ret {f : FuncId} {ars : Array Operand} {ts : Array TypeId} {fn : Func} {args : Array Value} {R : Value → Prop} (HS : Priv w W L) (hgd : o.guard = none) (ho : o.op = .call { callee := .value (.func f), args := ars, argTypes := ts })
  (hf : P.funcs[f]? = some fn) (hname : (fn.name == "runtime.NumGoroutine") = false) (hb : fn.body.isSome = true) (hargs : ars.map a.eval = args) (hc : Calls P f args W (Ret W R))
  (h : ∀ v W', R v → Priv w W' L → wpList P ops Q rest (a.put o.dst v) W') : wpList P ops Q (o :: rest) a W := call_ev HS hgd ho hf hname hb hc hargs (fun v W' hr hp _ => h v W' hr hp)
end
def pw (i : Nat) : Int := if i = 0 then 1 else if i = 1 then 10 else if i = 2 then 100 else if i = 3 then 1000 else if i = 4 then 10000 else if i = 5 then 100000 else 1000000
/-- What an operand that is no device is as a real number: a quotient, a word, or 0. -/
def Ra (k n p : Int) (x : Nat) : Prop :=
 if dok k n p = true ∧ k = 12 then fq (floatOfInt .f64 n) (floatOfInt .f64 (pw p.toNat)) x
 else if dok k n p = true ∧ k = 13 then (if n = 0 then ord x x = none else if n = 1 then x = 9218868437227405312 else if n = 2 then x = 18442240474082181120 else x = 9223372036854775808) else x = 0
theorem Ra.same {k n p : Int} {x y : Nat} (h : Ra k n p x) (h2 : Ra k n p y) : fsame x y := by
 unfold Ra at h h2
 split at h
 ·rename_i c; rw [if_pos c] at h2; exact h.same h2
 ·rename_i c; rw [if_neg c] at h2
  split at h
  ·rename_i c2; rw [if_pos c2] at h2
   split at h
   ·rename_i c3; rw [if_pos c3] at h2; exact .inr ⟨h, h2⟩
   ·rename_i c3; rw [if_neg c3] at h2
    split at h
    ·rename_i c4; rw [if_pos c4] at h2; exact .inl (h.trans h2.symm)
    ·rename_i c4; rw [if_neg c4] at h2
     split at h
     ·rename_i c5; rw [if_pos c5] at h2; exact .inl (h.trans h2.symm)
     ·rename_i c5; rw [if_neg c5] at h2; exact .inl (h.trans h2.symm)
  ·rename_i c2; rw [if_neg c2] at h2; exact .inl (h.trans h2.symm)
theorem pw_succ (i : Nat) (h : i < 6) : wrap64 (pw i * 10) = pw (i + 1) := by
 have e : i = 0 ∨ i = 1 ∨ i = 2 ∨ i = 3 ∨ i = 4 ∨ i = 5 := by omega
 rcases e with rfl | rfl | rfl | rfl | rfl | rfl <;> simp [pw, wrap64]
theorem dok12 {n p : Int} (h : dok 12 n p = true) : 1 ≤ p ∧ p ≤ 6 := by
 unfold dok at h
 rw [if_neg (by decide), if_pos rfl] at h
 have := of_decide_eq_true h
 omega
theorem dok13 {n p : Int} (h : dok 13 n p = true) : n = 0 ∨ n = 1 ∨ n = 2 ∨ n = 3 := by
 unfold dok at h
 rw [if_neg (by decide), if_neg (by decide), if_pos rfl] at h
 have := of_decide_eq_true h
 omega
theorem run_frombits (x : Int) (w : World) : (callFunc 98 #[.int .u64 x]).run Tryd.prog w = .ok (.value (.float .f64 x.toNat)) w := by
 rw [run_callFunc_extern (e := Extern.MathFloatBits.float64frombits) Tryd.func98 (by kernel_rfl) (by kernel_rfl) (by kernel_rfl) (by kernel_rfl)]
 rfl
theorem run_bits (x : Nat) (w : World) : (callFunc 99 #[.float .f64 x]).run Tryd.prog w = .ok (.value (.int .u64 x)) w := by
 rw [run_callFunc_extern (e := Extern.MathFloatBits.float64bits) Tryd.func99 (by kernel_rfl) (by kernel_rfl) (by kernel_rfl) (by kernel_rfl)]
 rfl
set_option maxHeartbeats 4000000 in
set_option maxRecDepth 100000 in
theorem c_mNaN (w : World) : Calls Tryd.prog 83 #[] w (Ret w (· = .float .f64 9221120237041090561)) := by
 have h := run_frombits 9221120237041090561
 go_enter Tryd.func83, Tryd.ntmps83
 go_wp2
 go_ret
 exact ⟨_, rfl, rfl, Below.refl _ _⟩
set_option maxHeartbeats 4000000 in
set_option maxRecDepth 100000 in
theorem c_mInf (w : World) : Calls Tryd.prog 84 #[.int .i64 1] w (Ret w (· = .float .f64 9218868437227405312)) := by
 have h := run_frombits 9218868437227405312
 go_enter Tryd.func84, Tryd.ntmps84
 go_wp2
 go_ret
 exact ⟨_, rfl, rfl, Below.refl _ _⟩
set_option maxHeartbeats 4000000 in
set_option maxRecDepth 100000 in
theorem c_mInf2 (w : World) : Calls Tryd.prog 84 #[.int .i64 (-1)] w (Ret w (· = .float .f64 18442240474082181120)) := by
 have h := run_frombits 18442240474082181120
 go_enter Tryd.func84, Tryd.ntmps84
 go_wp2
 go_ret
 exact ⟨_, rfl, rfl, Below.refl _ _⟩
set_option maxHeartbeats 4000000 in
set_option maxRecDepth 100000 in
theorem c_mCopy (w : World) : Calls Tryd.prog 85 #[.float .f64 0, .float .f64 13830554455654793216] w (Ret w (· = .float .f64 9223372036854775808)) := by
 have h1 := run_bits 0
 have h2 := run_bits 13830554455654793216
 have e_ : (bits .or .u64 (bits .andNot .u64 0 9223372036854775808) (bits .and .u64 13830554455654793216 9223372036854775808)).toNat = 9223372036854775808 := by kernel_rfl
 have h : ∀ W : World, (callFunc 98 #[.int .u64 (bits .or .u64 (bits .andNot .u64 0 9223372036854775808) (bits .and .u64 13830554455654793216 9223372036854775808))]).run Tryd.prog W = .ok (.value (.float .f64 9223372036854775808)) W := fun W => by rw [run_frombits, e_]
 clear e_
 go_enter Tryd.func85, Tryd.ntmps85
 go_wp2
 go_ret
 exact ⟨_, rfl, rfl, Below.refl _ _⟩

theorem nan_go : ord 9221120237041090561 9221120237041090561 = none := by decide
set_option maxHeartbeats 4000000 in
set_option maxRecDepth 100000 in
theorem c_RealArg (k n p : Int) (w : World) (ht : TB.Tab w) : Calls Tryd.prog 61 #[.agg #[.int .i64 k, .int .i64 n, .int .i64 p]] w (Ret w (fun v => ∃ x : Nat, v = .float .f64 x ∧ Ra k n p x)) := by
 have HS := Aside0.mk (Priv.nil w)
 have HT := Aside0.mk ht
 clear ht
 by_cases c12 : dok k n p = true ∧ k = 12
 ·obtain ⟨hd, rfl⟩ := c12
  have hp := dok12 hd
  have hR : ∀ x, fq (floatOfInt .f64 n) (floatOfInt .f64 (pw p.toNat)) x → Ra 12 n p x := fun x h => by unfold Ra; rw [if_pos ⟨hd, rfl⟩]; exact h
  have h12 : (dok 12 n p && decide ((12 : Int) ∈ ([12] : List Int))) = true := by rw [hd]; rfl
  clear hd
  have HR := Aside0.mk hR
  clear hR
  go_enter Tryd.func61, Tryd.ntmps61
  go_wp2_with ((first | ((with_reducible refine gate_dst (N := 6) rfl ?_); refine Kd.R_lit (Kd.int .i64) _ 3 ?hg (N := 6) ?hd (xs := ([12] : List Int)) (inner := [.int .i64 12]) (ok := fun _ => True) (okp := fun _ => True) ?hr ?hp (fun _ hk => hk) trivial (Below.refl _ _) (Nat.le_refl _) (by simp) ?_; (case hd => rfl); (case hg => rfl); (case hr => first | (go_simp; done) | (go_simp; rfl)); (case hp => exact (Reps.one (show Kd.M (Kd.int .i64) _ _ _ 12 [.int .i64 12] from rfl) (Reps.none _ _))); intro v_ W_ hoR hb hg_ hnew_; clear hg_ hnew_; have HP := HS.out.call hb; clear HS; have HS := Aside0.mk HP; clear HP; have HO := Aside0.mk hoR; clear hb hoR; obtain ⟨AL_, cL_, eL_⟩ := Kd.R_slice HO.out; (try simp only [List.length_cons, List.length_nil, Nat.zero_add, Nat.reduceAdd] at eL_); subst eL_) | ((with_reducible refine gate_dst (N := 7) rfl ?_); refine call_ev HS.out rfl rfl Tryd.func82 (by kernel_rfl) rfl (iK _ _ _ [12] _ h12 (by decide) _ _ _ rfl _ (HT.out.below HS.out.below) HO.out) (by (try simp only [List.map_toArray, List.map_cons, List.map_nil]); first | done | rfl) ?_; rintro v_ W_ rfl HP HB_; clear HS; have HS := Aside0.mk HP; clear HP; clear HB_) | ((with_reducible refine gate_dst (N := 1) rfl ?_); (with_reducible refine box_new HS.out rfl rfl (by first | exact eval_tmp rfl | exact eval_const) ?_); intro g1 W1_ HP; clear HS; have HS := Aside0.mk HP; clear HP) | ((with_reducible refine gate_dst (N := 5) rfl ?_); (with_reducible refine load_seg HS.out rfl rfl ag61 rfl (by first | exact at0 | exact at1 | exact at2 | exact at3 | exact at4 | exact at5 | exact at6) (by with_reducible first | exact tc_el _ _ (by omega) | exact cc_el _ _ (by omega) | exact whole _) (by with_reducible first | exact mc_size _ | exact tc_size _ | exact cc_size _ | exact dc_size _ | exact rc_size _ | exact sz1 | exact sz2 | exact sz3 | exact sz4) ?_)) | ((with_reducible refine gate_dst (N := 8) rfl ?_); (with_reducible refine field_at rfl rfl rfl fo61_2 ?_); (try simp only [toNat_16, toNat_12, Int.toNat_natCast, Nat.zero_add, Nat.add_zero, Nat.mul_one])) | ((with_reducible refine gate_dst (N := 9) rfl ?_); (with_reducible refine load_one HS.out rfl rfl on3 rfl (by first | exact at0 | exact at1 | exact at2 | exact at3 | exact at4 | exact at5 | exact at6) (by with_reducible first | exact dc_get _ _ (by omega) | exact rc_get _ _ (by omega) | exact at0a | exact at1a | exact at2a | exact at3a) ?_))); (try simp only [Act.put, List.setIfInBounds_toArray, List.set_cons_zero, List.set_cons_succ]))
  go_loopw [3, 10] (fun v3 v10 W => ∃ i : Nat, v3 = .int .i64 (pw i) ∧ v10 = .int .i64 i ∧ (i : Int) ≤ p ∧ Aside0 (Priv w W [(g1, #[.int .i64 12, .int .i64 n, .int .i64 p])])) (fun _ v10 _ => (p - intOf v10).toNat)
  case atStart => exact ⟨0, rfl, rfl, by omega, HS⟩
  case round =>
   clear HS
   obtain ⟨i, rfl, rfl, hi, HS⟩ := hrel
   by_cases hlt : (i : Int) < p
   ·have hw := pw_succ i (by omega)
    go_wp2_with ((first | ((with_reducible refine gate_dst (N := 8) rfl ?_); (with_reducible refine field_at rfl rfl rfl fo61_2 ?_); (try simp only [toNat_16, toNat_12, Int.toNat_natCast, Nat.zero_add, Nat.add_zero, Nat.mul_one]))); (try simp only [Act.put, List.setIfInBounds_toArray, List.set_cons_zero, List.set_cons_succ]))
    go_roundw
    case rel => exact ⟨i + 1, by first | rw [hw] | rfl, by go_num, by omega, HS⟩
    case measure => simp [intOf]; omega
   ·have hpi : p.toNat = i := by omega
    have hge : decide ((i : Int) < p) = false := decide_eq_false hlt
    go_wp2_with ((first | ((with_reducible refine gate_dst (N := 20) rfl ?_); refine ev_quo HS.out rfl rfl rfl rfl ?_; intro r20 W_ hlt20 hq20 HP; clear HS; have HS := Aside0.mk HP; clear HP) | ((with_reducible refine gate_dst (N := 15) rfl ?_); (with_reducible refine field_at rfl rfl rfl fo61_1 ?_); (try simp only [toNat_16, toNat_12, Int.toNat_natCast, Nat.zero_add, Nat.add_zero, Nat.mul_one])) | ((with_reducible refine gate_dst (N := 16) rfl ?_); (with_reducible refine load_one HS.out rfl rfl on3 rfl (by first | exact at0 | exact at1 | exact at2 | exact at3 | exact at4 | exact at5 | exact at6) (by with_reducible first | exact dc_get _ _ (by omega) | exact rc_get _ _ (by omega) | exact at0a | exact at1a | exact at2a | exact at3a) ?_))); (try simp only [Act.put, List.setIfInBounds_toArray, List.set_cons_zero, List.set_cons_succ]))
    go_ret
    exact ⟨_, rfl, ⟨_, rfl, HR.out _ (by rw [hpi]; exact hq20)⟩, HS.out.below⟩
 by_cases c13 : dok k n p = true ∧ k = 13
 ·obtain ⟨hd, rfl⟩ := c13
  have hn := dok13 hd
  have hR : ∀ x, (if n = 0 then ord x x = none else if n = 1 then x = 9218868437227405312 else if n = 2 then x = 18442240474082181120 else x = 9223372036854775808) → Ra 13 n p x := fun x h => by unfold Ra; rw [if_neg c12, if_pos ⟨hd, rfl⟩]; exact h
  have h12 : (dok 13 n p && decide ((13 : Int) ∈ ([12] : List Int))) = false := by rw [hd]; rfl
  have h13 : (dok 13 n p && decide ((13 : Int) ∈ ([13] : List Int))) = true := by rw [hd]; rfl
  clear hd c12
  rcases hn with rfl | rfl | rfl | rfl
  ·have hR0 : Ra 13 0 p 9221120237041090561 := hR _ (by first | exact nan_go | decide)
   clear hR
   go_enter Tryd.func61, Tryd.ntmps61
   go_wp2_with ((first | ((with_reducible refine gate_dst (N := 6) rfl ?_); refine Kd.R_lit (Kd.int .i64) _ 3 ?hg (N := 6) ?hd (xs := ([12] : List Int)) (inner := [.int .i64 12]) (ok := fun _ => True) (okp := fun _ => True) ?hr ?hp (fun _ hk => hk) trivial (Below.refl _ _) (Nat.le_refl _) (by simp) ?_; (case hd => rfl); (case hg => rfl); (case hr => first | (go_simp; done) | (go_simp; rfl)); (case hp => exact (Reps.one (show Kd.M (Kd.int .i64) _ _ _ 12 [.int .i64 12] from rfl) (Reps.none _ _))); intro v_ W_ hoR hb hg_ hnew_; clear hg_ hnew_; have HP := HS.out.call hb; clear HS; have HS := Aside0.mk HP; clear HP; have HO := Aside0.mk hoR; clear hb hoR; obtain ⟨AL_, cL_, eL_⟩ := Kd.R_slice HO.out; (try simp only [List.length_cons, List.length_nil, Nat.zero_add, Nat.reduceAdd] at eL_); subst eL_) | ((with_reducible refine gate_dst (N := 7) rfl ?_); refine call_ev HS.out rfl rfl Tryd.func82 (by kernel_rfl) rfl (iK _ _ _ [12] _ h12 (by decide) _ _ _ rfl _ (HT.out.below HS.out.below) HO.out) (by (try simp only [List.map_toArray, List.map_cons, List.map_nil]); first | done | rfl) ?_; rintro v_ W_ rfl HP HB_; clear HS; have HS := Aside0.mk HP; clear HP; clear HB_) | ((with_reducible refine gate_dst (N := 23) rfl ?_); refine Kd.R_lit (Kd.int .i64) _ 3 ?hg (N := 23) ?hd (xs := ([13] : List Int)) (inner := [.int .i64 13]) (ok := fun _ => True) (okp := fun _ => True) ?hr ?hp (fun _ hk => hk) trivial (Below.refl _ _) (Nat.le_refl _) (by simp) ?_; (case hd => rfl); (case hg => rfl); (case hr => first | (go_simp; done) | (go_simp; rfl)); (case hp => exact (Reps.one (show Kd.M (Kd.int .i64) _ _ _ 13 [.int .i64 13] from rfl) (Reps.none _ _))); intro v_ W_ hoR hb hg_ hnew_; clear hg_ hnew_; have HP := HS.out.call hb; clear HS; have HS := Aside0.mk HP; clear HP; have HO := Aside0.mk hoR; clear hb hoR; obtain ⟨AL_, cL_, eL_⟩ := Kd.R_slice HO.out; (try simp only [List.length_cons, List.length_nil, Nat.zero_add, Nat.reduceAdd] at eL_); subst eL_) | ((with_reducible refine gate_dst (N := 24) rfl ?_); refine call_ev HS.out rfl rfl Tryd.func82 (by kernel_rfl) rfl (iK _ _ _ [13] _ h13 (by decide) _ _ _ rfl _ (HT.out.below HS.out.below) HO.out) (by (try simp only [List.map_toArray, List.map_cons, List.map_nil]); first | done | rfl) ?_; rintro v_ W_ rfl HP HB_; clear HS; have HS := Aside0.mk HP; clear HP; clear HB_) | ((with_reducible refine gate_dst (N := 1) rfl ?_); (with_reducible refine box_new HS.out rfl rfl (by first | exact eval_tmp rfl | exact eval_const) ?_); intro g1 W1_ HP; clear HS; have HS := Aside0.mk HP; clear HP) | ((with_reducible refine gate_dst (N := 5) rfl ?_); (with_reducible refine load_seg HS.out rfl rfl ag61 rfl (by first | exact at0 | exact at1 | exact at2 | exact at3 | exact at4 | exact at5 | exact at6) (by with_reducible first | exact tc_el _ _ (by omega) | exact cc_el _ _ (by omega) | exact whole _) (by with_reducible first | exact mc_size _ | exact tc_size _ | exact cc_size _ | exact dc_size _ | exact rc_size _ | exact sz1 | exact sz2 | exact sz3 | exact sz4) ?_)) | ((with_reducible refine gate_dst (N := 22) rfl ?_); (with_reducible refine load_seg HS.out rfl rfl ag61 rfl (by first | exact at0 | exact at1 | exact at2 | exact at3 | exact at4 | exact at5 | exact at6) (by with_reducible first | exact tc_el _ _ (by omega) | exact cc_el _ _ (by omega) | exact whole _) (by with_reducible first | exact mc_size _ | exact tc_size _ | exact cc_size _ | exact dc_size _ | exact rc_size _ | exact sz1 | exact sz2 | exact sz3 | exact sz4) ?_))); (try simp only [Act.put, List.setIfInBounds_toArray, List.set_cons_zero, List.set_cons_succ]))
   refine start_R (LS := _) (n := 10) #[false, false, false, false, false, false, false, false, false, false] HS.out (by kernel_rfl) rfl rfl (fun W_ HSS => HSS) ?_
   intro W_ HP hHeld; clear HS; have HS := Aside0.mk HP; clear HP
   refine PrintLast.pure_ (i := 5) (oi := { dst := some 30, op := Go.Op.fieldAddr 61 (Go.Operand.tmp 1) 1, type := 0, pos := "l3_real.go:127", after := #[], guard := none }) (N := some 30) (v := ?_) (a' := ?_) #[false, false, false, false, false, true, false, false, false, false] rfl rfl (by kernel_rfl) (fun _ _ _ h => h) (Or.inl ⟨by rfl, ?_⟩) ?_ ?_
   rotate_left
   ·intro w'
    refine Eq.trans (run_field_at rfl rfl rfl fo61_1) ?_
    with_reducible rfl
   rotate_left
   ·simp only [PrintLast.putAll, Act.put, List.setIfInBounds_toArray, List.set_cons_zero, List.set_cons_succ, Nat.zero_add, Nat.add_zero, Nat.mul_one, Int.toNat_natCast]
    rfl
   refine PrintLast.take_ (i := 6) (oi := { dst := some 31, op := Go.Op.load 3 (Go.Operand.tmp 30), type := 3, pos := "l3_real.go:127", after := #[{ on := 5, ground := Go.Ground.data }], guard := none }) (N := some 31) (v := ?_) (a' := ?_) #[false, false, false, false, false, true, true, false, false, false] rfl rfl (by kernel_rfl) (fun _ _ _ h => h) (Or.inl ⟨by rfl, ?_⟩) hHeld ?_ ?_
   rotate_left
   ·intro w' hS
    refine Eq.trans (run_load_one hS rfl rfl on3 rfl (by first | exact at0 | exact at1 | exact at2 | exact at3 | exact at4 | exact at5 | exact at6) (by with_reducible first | exact get_X _ | exact get_Y _ | exact get_M _ | exact get_S _ | exact get_E _ | exact get_Time _ | exact get_Ran _ | exact get_Fault _ | exact el_T0 _ _ (by omega) | exact el_T1 _ _ (by omega) | exact el_C0 _ _ (by omega) | exact el_C1 _ _ (by omega) | exact el_C2 _ _ (by omega) | exact el_D _ _ (by omega) | exact el_R _ _ (by omega) | exact dc_get _ _ (by omega) | exact rc_get _ _ (by omega) | exact at0a | exact at1a | exact at2a | exact at3a)) ?_
    with_reducible rfl
   rotate_left
   ·simp only [PrintLast.putAll, Act.put, List.setIfInBounds_toArray, List.set_cons_zero, List.set_cons_succ, Nat.zero_add, Nat.add_zero, Nat.mul_one, Int.toNat_natCast]
    rfl
   refine PrintLast.one_ (i := 0) (oi := { dst := some 25, op := Go.Op.call { callee := Go.Callee.value (Go.Operand.func 83), args := #[], argTypes := #[] }, type := 33, pos := "l3_real.go:127", after := #[], guard := none }) (N := some 25) #[true, false, false, false, false, true, true, false, false, false] rfl rfl (by kernel_rfl) (by decide) ?_
   intro K hK
   refine step_callr (wanted_of rfl) HS.out rfl rfl Tryd.func83 (by kernel_rfl) rfl (by (try simp only [List.map_toArray, List.map_cons, List.map_nil]); first | done | rfl) (c_mNaN _) ?_
   intro W_ HP; clear hHeld; clear HS; have HS := Aside0.mk HP; clear HP
   refine hK.out _ _ (HS.out) (fun hHeld => ?_)
   clear hK K
   refine PrintLast.norm_ (a' := ?_) ?_ ?_
   rotate_left
   ·show Act.put _ (some 25) _ = _
    simp only [PrintLast.putAll, Act.put, List.setIfInBounds_toArray, List.set_cons_zero, List.set_cons_succ, Nat.zero_add, Nat.add_zero, Nat.mul_one, Int.toNat_natCast]
    rfl
   refine PrintLast.one_ (i := 1) (oi := { dst := some 26, op := Go.Op.call { callee := Go.Callee.value (Go.Operand.func 84), args := #[Go.Operand.const (Go.Value.int Go.IntKind.i64 1)], argTypes := #[3] }, type := 33, pos := "l3_real.go:127", after := #[{ on := 0, ground := Go.Ground.chain }], guard := none }) (N := some 26) #[true, true, false, false, false, true, true, false, false, false] rfl rfl (by kernel_rfl) (by decide) ?_
   intro K hK
   refine step_callr (wanted_of rfl) HS.out rfl rfl Tryd.func84 (by kernel_rfl) rfl (by (try simp only [List.map_toArray, List.map_cons, List.map_nil]); first | done | rfl) (c_mInf _) ?_
   intro W_ HP; clear hHeld; clear HS; have HS := Aside0.mk HP; clear HP
   refine hK.out _ _ (HS.out) (fun hHeld => ?_)
   clear hK K
   refine PrintLast.norm_ (a' := ?_) ?_ ?_
   rotate_left
   ·show Act.put _ (some 26) _ = _
    simp only [PrintLast.putAll, Act.put, List.setIfInBounds_toArray, List.set_cons_zero, List.set_cons_succ, Nat.zero_add, Nat.add_zero, Nat.mul_one, Int.toNat_natCast]
    rfl
   refine PrintLast.one_ (i := 2) (oi := { dst := some 27, op := Go.Op.call { callee := Go.Callee.value (Go.Operand.func 84), args := #[Go.Operand.const (Go.Value.int Go.IntKind.i64 (-1))], argTypes := #[3] }, type := 33, pos := "l3_real.go:127", after := #[{ on := 1, ground := Go.Ground.chain }], guard := none }) (N := some 27) #[true, true, true, false, false, true, true, false, false, false] rfl rfl (by kernel_rfl) (by decide) ?_
   intro K hK
   refine step_callr (wanted_of rfl) HS.out rfl rfl Tryd.func84 (by kernel_rfl) rfl (by (try simp only [List.map_toArray, List.map_cons, List.map_nil]); first | done | rfl) (c_mInf2 _) ?_
   intro W_ HP; clear hHeld; clear HS; have HS := Aside0.mk HP; clear HP
   refine hK.out _ _ (HS.out) (fun hHeld => ?_)
   clear hK K
   refine PrintLast.norm_ (a' := ?_) ?_ ?_
   rotate_left
   ·show Act.put _ (some 27) _ = _
    simp only [PrintLast.putAll, Act.put, List.setIfInBounds_toArray, List.set_cons_zero, List.set_cons_succ, Nat.zero_add, Nat.add_zero, Nat.mul_one, Int.toNat_natCast]
    rfl
   refine PrintLast.one_ (i := 3) (oi := { dst := some 28, op := Go.Op.call { callee := Go.Callee.value (Go.Operand.func 85), args := #[Go.Operand.const (Go.Value.float Go.FloatKind.f64 0), Go.Operand.const (Go.Value.float Go.FloatKind.f64 13830554455654793216)], argTypes := #[33, 33] }, type := 33, pos := "l3_real.go:127", after := #[{ on := 2, ground := Go.Ground.chain }], guard := none }) (N := some 28) #[true, true, true, true, false, true, true, false, false, false] rfl rfl (by kernel_rfl) (by decide) ?_
   intro K hK
   refine step_callr (wanted_of rfl) HS.out rfl rfl Tryd.func85 (by kernel_rfl) rfl (by (try simp only [List.map_toArray, List.map_cons, List.map_nil]); first | done | rfl) (c_mCopy _) ?_
   intro W_ HP; clear hHeld; clear HS; have HS := Aside0.mk HP; clear HP
   refine hK.out _ _ (HS.out) (fun hHeld => ?_)
   clear hK K
   refine PrintLast.norm_ (a' := ?_) ?_ ?_
   rotate_left
   ·show Act.put _ (some 28) _ = _
    simp only [PrintLast.putAll, Act.put, List.setIfInBounds_toArray, List.set_cons_zero, List.set_cons_succ, Nat.zero_add, Nat.add_zero, Nat.mul_one, Int.toNat_natCast]
    rfl
   refine PrintLast.one_ (i := 4) (oi := { dst := some 29, op := Go.Op.buildSlice 115 4 #[(0, Go.Operand.tmp 25), (1, Go.Operand.tmp 26), (2, Go.Operand.tmp 27), (3, Go.Operand.tmp 28)], type := 115, pos := "l3_real.go:127", after := #[{ on := 0, ground := Go.Ground.data }, { on := 1, ground := Go.Ground.data }, { on := 2, ground := Go.Ground.data }, { on := 3, ground := Go.Ground.data }], guard := none }) (N := some 29) #[true, true, true, true, true, true, true, false, false, false] rfl rfl (by kernel_rfl) (by decide) ?_
   intro K hK
   refine step_val (v := .slice (some ⟨W_.heap.size, 0, none⟩) 4 4) (W1 := W_.alloc (.cells #[.float .f64 9221120237041090561, .float .f64 9218868437227405312, .float .f64 18442240474082181120, .float .f64 9223372036854775808] 33)) (wanted_of rfl) rfl (by first | (go_simp; done) | (go_simp; rfl)) ?_
   have HP := HS.out.alloc #[.float .f64 9221120237041090561, .float .f64 9218868437227405312, .float .f64 18442240474082181120, .float .f64 9223372036854775808] 33; clear hHeld; clear HS; have HS := Aside0.mk HP; clear HP
   refine hK.out _ _ (HS.out.drop1) (fun hHeld => ?_)
   clear hK K
   refine PrintLast.norm_ (a' := ?_) ?_ ?_
   rotate_left
   ·show Act.put _ (some 29) _ = _
    simp only [PrintLast.putAll, Act.put, List.setIfInBounds_toArray, List.set_cons_zero, List.set_cons_succ, Nat.zero_add, Nat.add_zero, Nat.mul_one, Int.toNat_natCast]
    rfl
   refine PrintLast.pure_ (i := 7) (oi := { dst := some 32, op := Go.Op.indexAddr 115 (Go.Operand.tmp 29) (Go.Operand.tmp 31), type := 0, pos := "l3_real.go:127", after := #[{ on := 4, ground := Go.Ground.data }, { on := 6, ground := Go.Ground.data }], guard := none }) (N := some 32) (v := ?_) (a' := ?_) #[true, true, true, true, true, true, true, true, false, false] rfl rfl (by kernel_rfl) (fun _ _ _ h => h) (Or.inl ⟨by rfl, ?_⟩) ?_ ?_
   rotate_left
   ·intro w'
    go_simp
    with_reducible rfl
   rotate_left
   ·simp only [PrintLast.putAll, Act.put, List.setIfInBounds_toArray, List.set_cons_zero, List.set_cons_succ, Nat.zero_add, Nat.add_zero, Nat.mul_one, Int.toNat_natCast]
    rfl
   refine PrintLast.one_ (i := 8) (oi := { dst := some 33, op := Go.Op.load 33 (Go.Operand.tmp 32), type := 33, pos := "l3_real.go:127", after := #[{ on := 7, ground := Go.Ground.data }], guard := none }) (N := some 33) #[true, true, true, true, true, true, true, true, true, false] rfl rfl (by kernel_rfl) (by decide) ?_
   intro K hK
   refine step_val (wanted_of rfl) rfl (run_load_one HS.out rfl rfl on33 rfl (by first | exact at0 | exact at1 | exact at2 | exact at3 | exact at4 | exact at5 | exact at6) (by with_reducible first | exact get_X _ | exact get_Y _ | exact get_M _ | exact get_S _ | exact get_E _ | exact get_Time _ | exact get_Ran _ | exact get_Fault _ | exact el_T0 _ _ (by omega) | exact el_T1 _ _ (by omega) | exact el_C0 _ _ (by omega) | exact el_C1 _ _ (by omega) | exact el_C2 _ _ (by omega) | exact el_D _ _ (by omega) | exact el_R _ _ (by omega) | exact dc_get _ _ (by omega) | exact rc_get _ _ (by omega) | exact at0a | exact at1a | exact at2a | exact at3a)) ?_
   refine hK.out _ _ (HS.out.drop1) (fun hHeld => ?_)
   clear hK K
   refine PrintLast.norm_ (a' := ?_) ?_ ?_
   rotate_left
   ·show Act.put _ (some 33) _ = _
    simp only [PrintLast.putAll, Act.put, List.setIfInBounds_toArray, List.set_cons_zero, List.set_cons_succ, Nat.zero_add, Nat.add_zero, Nat.mul_one, Int.toNat_natCast]
    rfl
   refine PrintLast.pure_ (i := 9) (oi := { dst := some 2, op := Go.Op.assign (Go.Operand.tmp 33), type := 33, pos := "l3_real.go:127", after := #[{ on := 8, ground := Go.Ground.data }, { on := 3, ground := Go.Ground.chain }, { on := 0, ground := Go.Ground.phase }, { on := 1, ground := Go.Ground.phase }, { on := 2, ground := Go.Ground.phase }, { on := 3, ground := Go.Ground.phase }, { on := 4, ground := Go.Ground.phase }, { on := 5, ground := Go.Ground.phase }, { on := 6, ground := Go.Ground.phase }, { on := 7, ground := Go.Ground.phase }, { on := 8, ground := Go.Ground.phase }], guard := none }) (N := some 2) (v := ?_) (a' := ?_) #[true, true, true, true, true, true, true, true, true, true] rfl rfl (by kernel_rfl) (fun _ _ _ h => h) (Or.inl ⟨by rfl, ?_⟩) ?_ ?_
   rotate_left
   ·intro w'
    go_simp
    with_reducible rfl
   rotate_left
   ·simp only [PrintLast.putAll, Act.put, List.setIfInBounds_toArray, List.set_cons_zero, List.set_cons_succ, Nat.zero_add, Nat.add_zero, Nat.mul_one, Int.toNat_natCast]
    rfl
   refine PrintLast.done_ (by kernel_rfl) ?_
   clear hHeld
   go_wp2
   go_ret
   exact ⟨_, rfl, ⟨_, rfl, hR0⟩, HS.out.below⟩
  ·have hR1 : Ra 13 1 p 9218868437227405312 := hR _ (by first | exact nan_go | decide)
   clear hR
   go_enter Tryd.func61, Tryd.ntmps61
   go_wp2_with ((first | ((with_reducible refine gate_dst (N := 6) rfl ?_); refine Kd.R_lit (Kd.int .i64) _ 3 ?hg (N := 6) ?hd (xs := ([12] : List Int)) (inner := [.int .i64 12]) (ok := fun _ => True) (okp := fun _ => True) ?hr ?hp (fun _ hk => hk) trivial (Below.refl _ _) (Nat.le_refl _) (by simp) ?_; (case hd => rfl); (case hg => rfl); (case hr => first | (go_simp; done) | (go_simp; rfl)); (case hp => exact (Reps.one (show Kd.M (Kd.int .i64) _ _ _ 12 [.int .i64 12] from rfl) (Reps.none _ _))); intro v_ W_ hoR hb hg_ hnew_; clear hg_ hnew_; have HP := HS.out.call hb; clear HS; have HS := Aside0.mk HP; clear HP; have HO := Aside0.mk hoR; clear hb hoR; obtain ⟨AL_, cL_, eL_⟩ := Kd.R_slice HO.out; (try simp only [List.length_cons, List.length_nil, Nat.zero_add, Nat.reduceAdd] at eL_); subst eL_) | ((with_reducible refine gate_dst (N := 7) rfl ?_); refine call_ev HS.out rfl rfl Tryd.func82 (by kernel_rfl) rfl (iK _ _ _ [12] _ h12 (by decide) _ _ _ rfl _ (HT.out.below HS.out.below) HO.out) (by (try simp only [List.map_toArray, List.map_cons, List.map_nil]); first | done | rfl) ?_; rintro v_ W_ rfl HP HB_; clear HS; have HS := Aside0.mk HP; clear HP; clear HB_) | ((with_reducible refine gate_dst (N := 23) rfl ?_); refine Kd.R_lit (Kd.int .i64) _ 3 ?hg (N := 23) ?hd (xs := ([13] : List Int)) (inner := [.int .i64 13]) (ok := fun _ => True) (okp := fun _ => True) ?hr ?hp (fun _ hk => hk) trivial (Below.refl _ _) (Nat.le_refl _) (by simp) ?_; (case hd => rfl); (case hg => rfl); (case hr => first | (go_simp; done) | (go_simp; rfl)); (case hp => exact (Reps.one (show Kd.M (Kd.int .i64) _ _ _ 13 [.int .i64 13] from rfl) (Reps.none _ _))); intro v_ W_ hoR hb hg_ hnew_; clear hg_ hnew_; have HP := HS.out.call hb; clear HS; have HS := Aside0.mk HP; clear HP; have HO := Aside0.mk hoR; clear hb hoR; obtain ⟨AL_, cL_, eL_⟩ := Kd.R_slice HO.out; (try simp only [List.length_cons, List.length_nil, Nat.zero_add, Nat.reduceAdd] at eL_); subst eL_) | ((with_reducible refine gate_dst (N := 24) rfl ?_); refine call_ev HS.out rfl rfl Tryd.func82 (by kernel_rfl) rfl (iK _ _ _ [13] _ h13 (by decide) _ _ _ rfl _ (HT.out.below HS.out.below) HO.out) (by (try simp only [List.map_toArray, List.map_cons, List.map_nil]); first | done | rfl) ?_; rintro v_ W_ rfl HP HB_; clear HS; have HS := Aside0.mk HP; clear HP; clear HB_) | ((with_reducible refine gate_dst (N := 1) rfl ?_); (with_reducible refine box_new HS.out rfl rfl (by first | exact eval_tmp rfl | exact eval_const) ?_); intro g1 W1_ HP; clear HS; have HS := Aside0.mk HP; clear HP) | ((with_reducible refine gate_dst (N := 5) rfl ?_); (with_reducible refine load_seg HS.out rfl rfl ag61 rfl (by first | exact at0 | exact at1 | exact at2 | exact at3 | exact at4 | exact at5 | exact at6) (by with_reducible first | exact tc_el _ _ (by omega) | exact cc_el _ _ (by omega) | exact whole _) (by with_reducible first | exact mc_size _ | exact tc_size _ | exact cc_size _ | exact dc_size _ | exact rc_size _ | exact sz1 | exact sz2 | exact sz3 | exact sz4) ?_)) | ((with_reducible refine gate_dst (N := 22) rfl ?_); (with_reducible refine load_seg HS.out rfl rfl ag61 rfl (by first | exact at0 | exact at1 | exact at2 | exact at3 | exact at4 | exact at5 | exact at6) (by with_reducible first | exact tc_el _ _ (by omega) | exact cc_el _ _ (by omega) | exact whole _) (by with_reducible first | exact mc_size _ | exact tc_size _ | exact cc_size _ | exact dc_size _ | exact rc_size _ | exact sz1 | exact sz2 | exact sz3 | exact sz4) ?_))); (try simp only [Act.put, List.setIfInBounds_toArray, List.set_cons_zero, List.set_cons_succ]))
   refine start_R (LS := _) (n := 10) #[false, false, false, false, false, false, false, false, false, false] HS.out (by kernel_rfl) rfl rfl (fun W_ HSS => HSS) ?_
   intro W_ HP hHeld; clear HS; have HS := Aside0.mk HP; clear HP
   refine PrintLast.pure_ (i := 5) (oi := { dst := some 30, op := Go.Op.fieldAddr 61 (Go.Operand.tmp 1) 1, type := 0, pos := "l3_real.go:127", after := #[], guard := none }) (N := some 30) (v := ?_) (a' := ?_) #[false, false, false, false, false, true, false, false, false, false] rfl rfl (by kernel_rfl) (fun _ _ _ h => h) (Or.inl ⟨by rfl, ?_⟩) ?_ ?_
   rotate_left
   ·intro w'
    refine Eq.trans (run_field_at rfl rfl rfl fo61_1) ?_
    with_reducible rfl
   rotate_left
   ·simp only [PrintLast.putAll, Act.put, List.setIfInBounds_toArray, List.set_cons_zero, List.set_cons_succ, Nat.zero_add, Nat.add_zero, Nat.mul_one, Int.toNat_natCast]
    rfl
   refine PrintLast.take_ (i := 6) (oi := { dst := some 31, op := Go.Op.load 3 (Go.Operand.tmp 30), type := 3, pos := "l3_real.go:127", after := #[{ on := 5, ground := Go.Ground.data }], guard := none }) (N := some 31) (v := ?_) (a' := ?_) #[false, false, false, false, false, true, true, false, false, false] rfl rfl (by kernel_rfl) (fun _ _ _ h => h) (Or.inl ⟨by rfl, ?_⟩) hHeld ?_ ?_
   rotate_left
   ·intro w' hS
    refine Eq.trans (run_load_one hS rfl rfl on3 rfl (by first | exact at0 | exact at1 | exact at2 | exact at3 | exact at4 | exact at5 | exact at6) (by with_reducible first | exact get_X _ | exact get_Y _ | exact get_M _ | exact get_S _ | exact get_E _ | exact get_Time _ | exact get_Ran _ | exact get_Fault _ | exact el_T0 _ _ (by omega) | exact el_T1 _ _ (by omega) | exact el_C0 _ _ (by omega) | exact el_C1 _ _ (by omega) | exact el_C2 _ _ (by omega) | exact el_D _ _ (by omega) | exact el_R _ _ (by omega) | exact dc_get _ _ (by omega) | exact rc_get _ _ (by omega) | exact at0a | exact at1a | exact at2a | exact at3a)) ?_
    with_reducible rfl
   rotate_left
   ·simp only [PrintLast.putAll, Act.put, List.setIfInBounds_toArray, List.set_cons_zero, List.set_cons_succ, Nat.zero_add, Nat.add_zero, Nat.mul_one, Int.toNat_natCast]
    rfl
   refine PrintLast.one_ (i := 0) (oi := { dst := some 25, op := Go.Op.call { callee := Go.Callee.value (Go.Operand.func 83), args := #[], argTypes := #[] }, type := 33, pos := "l3_real.go:127", after := #[], guard := none }) (N := some 25) #[true, false, false, false, false, true, true, false, false, false] rfl rfl (by kernel_rfl) (by decide) ?_
   intro K hK
   refine step_callr (wanted_of rfl) HS.out rfl rfl Tryd.func83 (by kernel_rfl) rfl (by (try simp only [List.map_toArray, List.map_cons, List.map_nil]); first | done | rfl) (c_mNaN _) ?_
   intro W_ HP; clear hHeld; clear HS; have HS := Aside0.mk HP; clear HP
   refine hK.out _ _ (HS.out) (fun hHeld => ?_)
   clear hK K
   refine PrintLast.norm_ (a' := ?_) ?_ ?_
   rotate_left
   ·show Act.put _ (some 25) _ = _
    simp only [PrintLast.putAll, Act.put, List.setIfInBounds_toArray, List.set_cons_zero, List.set_cons_succ, Nat.zero_add, Nat.add_zero, Nat.mul_one, Int.toNat_natCast]
    rfl
   refine PrintLast.one_ (i := 1) (oi := { dst := some 26, op := Go.Op.call { callee := Go.Callee.value (Go.Operand.func 84), args := #[Go.Operand.const (Go.Value.int Go.IntKind.i64 1)], argTypes := #[3] }, type := 33, pos := "l3_real.go:127", after := #[{ on := 0, ground := Go.Ground.chain }], guard := none }) (N := some 26) #[true, true, false, false, false, true, true, false, false, false] rfl rfl (by kernel_rfl) (by decide) ?_
   intro K hK
   refine step_callr (wanted_of rfl) HS.out rfl rfl Tryd.func84 (by kernel_rfl) rfl (by (try simp only [List.map_toArray, List.map_cons, List.map_nil]); first | done | rfl) (c_mInf _) ?_
   intro W_ HP; clear hHeld; clear HS; have HS := Aside0.mk HP; clear HP
   refine hK.out _ _ (HS.out) (fun hHeld => ?_)
   clear hK K
   refine PrintLast.norm_ (a' := ?_) ?_ ?_
   rotate_left
   ·show Act.put _ (some 26) _ = _
    simp only [PrintLast.putAll, Act.put, List.setIfInBounds_toArray, List.set_cons_zero, List.set_cons_succ, Nat.zero_add, Nat.add_zero, Nat.mul_one, Int.toNat_natCast]
    rfl
   refine PrintLast.one_ (i := 2) (oi := { dst := some 27, op := Go.Op.call { callee := Go.Callee.value (Go.Operand.func 84), args := #[Go.Operand.const (Go.Value.int Go.IntKind.i64 (-1))], argTypes := #[3] }, type := 33, pos := "l3_real.go:127", after := #[{ on := 1, ground := Go.Ground.chain }], guard := none }) (N := some 27) #[true, true, true, false, false, true, true, false, false, false] rfl rfl (by kernel_rfl) (by decide) ?_
   intro K hK
   refine step_callr (wanted_of rfl) HS.out rfl rfl Tryd.func84 (by kernel_rfl) rfl (by (try simp only [List.map_toArray, List.map_cons, List.map_nil]); first | done | rfl) (c_mInf2 _) ?_
   intro W_ HP; clear hHeld; clear HS; have HS := Aside0.mk HP; clear HP
   refine hK.out _ _ (HS.out) (fun hHeld => ?_)
   clear hK K
   refine PrintLast.norm_ (a' := ?_) ?_ ?_
   rotate_left
   ·show Act.put _ (some 27) _ = _
    simp only [PrintLast.putAll, Act.put, List.setIfInBounds_toArray, List.set_cons_zero, List.set_cons_succ, Nat.zero_add, Nat.add_zero, Nat.mul_one, Int.toNat_natCast]
    rfl
   refine PrintLast.one_ (i := 3) (oi := { dst := some 28, op := Go.Op.call { callee := Go.Callee.value (Go.Operand.func 85), args := #[Go.Operand.const (Go.Value.float Go.FloatKind.f64 0), Go.Operand.const (Go.Value.float Go.FloatKind.f64 13830554455654793216)], argTypes := #[33, 33] }, type := 33, pos := "l3_real.go:127", after := #[{ on := 2, ground := Go.Ground.chain }], guard := none }) (N := some 28) #[true, true, true, true, false, true, true, false, false, false] rfl rfl (by kernel_rfl) (by decide) ?_
   intro K hK
   refine step_callr (wanted_of rfl) HS.out rfl rfl Tryd.func85 (by kernel_rfl) rfl (by (try simp only [List.map_toArray, List.map_cons, List.map_nil]); first | done | rfl) (c_mCopy _) ?_
   intro W_ HP; clear hHeld; clear HS; have HS := Aside0.mk HP; clear HP
   refine hK.out _ _ (HS.out) (fun hHeld => ?_)
   clear hK K
   refine PrintLast.norm_ (a' := ?_) ?_ ?_
   rotate_left
   ·show Act.put _ (some 28) _ = _
    simp only [PrintLast.putAll, Act.put, List.setIfInBounds_toArray, List.set_cons_zero, List.set_cons_succ, Nat.zero_add, Nat.add_zero, Nat.mul_one, Int.toNat_natCast]
    rfl
   refine PrintLast.one_ (i := 4) (oi := { dst := some 29, op := Go.Op.buildSlice 115 4 #[(0, Go.Operand.tmp 25), (1, Go.Operand.tmp 26), (2, Go.Operand.tmp 27), (3, Go.Operand.tmp 28)], type := 115, pos := "l3_real.go:127", after := #[{ on := 0, ground := Go.Ground.data }, { on := 1, ground := Go.Ground.data }, { on := 2, ground := Go.Ground.data }, { on := 3, ground := Go.Ground.data }], guard := none }) (N := some 29) #[true, true, true, true, true, true, true, false, false, false] rfl rfl (by kernel_rfl) (by decide) ?_
   intro K hK
   refine step_val (v := .slice (some ⟨W_.heap.size, 0, none⟩) 4 4) (W1 := W_.alloc (.cells #[.float .f64 9221120237041090561, .float .f64 9218868437227405312, .float .f64 18442240474082181120, .float .f64 9223372036854775808] 33)) (wanted_of rfl) rfl (by first | (go_simp; done) | (go_simp; rfl)) ?_
   have HP := HS.out.alloc #[.float .f64 9221120237041090561, .float .f64 9218868437227405312, .float .f64 18442240474082181120, .float .f64 9223372036854775808] 33; clear hHeld; clear HS; have HS := Aside0.mk HP; clear HP
   refine hK.out _ _ (HS.out.drop1) (fun hHeld => ?_)
   clear hK K
   refine PrintLast.norm_ (a' := ?_) ?_ ?_
   rotate_left
   ·show Act.put _ (some 29) _ = _
    simp only [PrintLast.putAll, Act.put, List.setIfInBounds_toArray, List.set_cons_zero, List.set_cons_succ, Nat.zero_add, Nat.add_zero, Nat.mul_one, Int.toNat_natCast]
    rfl
   refine PrintLast.pure_ (i := 7) (oi := { dst := some 32, op := Go.Op.indexAddr 115 (Go.Operand.tmp 29) (Go.Operand.tmp 31), type := 0, pos := "l3_real.go:127", after := #[{ on := 4, ground := Go.Ground.data }, { on := 6, ground := Go.Ground.data }], guard := none }) (N := some 32) (v := ?_) (a' := ?_) #[true, true, true, true, true, true, true, true, false, false] rfl rfl (by kernel_rfl) (fun _ _ _ h => h) (Or.inl ⟨by rfl, ?_⟩) ?_ ?_
   rotate_left
   ·intro w'
    go_simp
    with_reducible rfl
   rotate_left
   ·simp only [PrintLast.putAll, Act.put, List.setIfInBounds_toArray, List.set_cons_zero, List.set_cons_succ, Nat.zero_add, Nat.add_zero, Nat.mul_one, Int.toNat_natCast]
    rfl
   refine PrintLast.one_ (i := 8) (oi := { dst := some 33, op := Go.Op.load 33 (Go.Operand.tmp 32), type := 33, pos := "l3_real.go:127", after := #[{ on := 7, ground := Go.Ground.data }], guard := none }) (N := some 33) #[true, true, true, true, true, true, true, true, true, false] rfl rfl (by kernel_rfl) (by decide) ?_
   intro K hK
   refine step_val (wanted_of rfl) rfl (run_load_one HS.out rfl rfl on33 rfl (by first | exact at0 | exact at1 | exact at2 | exact at3 | exact at4 | exact at5 | exact at6) (by with_reducible first | exact get_X _ | exact get_Y _ | exact get_M _ | exact get_S _ | exact get_E _ | exact get_Time _ | exact get_Ran _ | exact get_Fault _ | exact el_T0 _ _ (by omega) | exact el_T1 _ _ (by omega) | exact el_C0 _ _ (by omega) | exact el_C1 _ _ (by omega) | exact el_C2 _ _ (by omega) | exact el_D _ _ (by omega) | exact el_R _ _ (by omega) | exact dc_get _ _ (by omega) | exact rc_get _ _ (by omega) | exact at0a | exact at1a | exact at2a | exact at3a)) ?_
   refine hK.out _ _ (HS.out.drop1) (fun hHeld => ?_)
   clear hK K
   refine PrintLast.norm_ (a' := ?_) ?_ ?_
   rotate_left
   ·show Act.put _ (some 33) _ = _
    simp only [PrintLast.putAll, Act.put, List.setIfInBounds_toArray, List.set_cons_zero, List.set_cons_succ, Nat.zero_add, Nat.add_zero, Nat.mul_one, Int.toNat_natCast]
    rfl
   refine PrintLast.pure_ (i := 9) (oi := { dst := some 2, op := Go.Op.assign (Go.Operand.tmp 33), type := 33, pos := "l3_real.go:127", after := #[{ on := 8, ground := Go.Ground.data }, { on := 3, ground := Go.Ground.chain }, { on := 0, ground := Go.Ground.phase }, { on := 1, ground := Go.Ground.phase }, { on := 2, ground := Go.Ground.phase }, { on := 3, ground := Go.Ground.phase }, { on := 4, ground := Go.Ground.phase }, { on := 5, ground := Go.Ground.phase }, { on := 6, ground := Go.Ground.phase }, { on := 7, ground := Go.Ground.phase }, { on := 8, ground := Go.Ground.phase }], guard := none }) (N := some 2) (v := ?_) (a' := ?_) #[true, true, true, true, true, true, true, true, true, true] rfl rfl (by kernel_rfl) (fun _ _ _ h => h) (Or.inl ⟨by rfl, ?_⟩) ?_ ?_
   rotate_left
   ·intro w'
    go_simp
    with_reducible rfl
   rotate_left
   ·simp only [PrintLast.putAll, Act.put, List.setIfInBounds_toArray, List.set_cons_zero, List.set_cons_succ, Nat.zero_add, Nat.add_zero, Nat.mul_one, Int.toNat_natCast]
    rfl
   refine PrintLast.done_ (by kernel_rfl) ?_
   clear hHeld
   go_wp2
   go_ret
   exact ⟨_, rfl, ⟨_, rfl, hR1⟩, HS.out.below⟩
  ·have hR2 : Ra 13 2 p 18442240474082181120 := hR _ (by first | exact nan_go | decide)
   clear hR
   go_enter Tryd.func61, Tryd.ntmps61
   go_wp2_with ((first | ((with_reducible refine gate_dst (N := 6) rfl ?_); refine Kd.R_lit (Kd.int .i64) _ 3 ?hg (N := 6) ?hd (xs := ([12] : List Int)) (inner := [.int .i64 12]) (ok := fun _ => True) (okp := fun _ => True) ?hr ?hp (fun _ hk => hk) trivial (Below.refl _ _) (Nat.le_refl _) (by simp) ?_; (case hd => rfl); (case hg => rfl); (case hr => first | (go_simp; done) | (go_simp; rfl)); (case hp => exact (Reps.one (show Kd.M (Kd.int .i64) _ _ _ 12 [.int .i64 12] from rfl) (Reps.none _ _))); intro v_ W_ hoR hb hg_ hnew_; clear hg_ hnew_; have HP := HS.out.call hb; clear HS; have HS := Aside0.mk HP; clear HP; have HO := Aside0.mk hoR; clear hb hoR; obtain ⟨AL_, cL_, eL_⟩ := Kd.R_slice HO.out; (try simp only [List.length_cons, List.length_nil, Nat.zero_add, Nat.reduceAdd] at eL_); subst eL_) | ((with_reducible refine gate_dst (N := 7) rfl ?_); refine call_ev HS.out rfl rfl Tryd.func82 (by kernel_rfl) rfl (iK _ _ _ [12] _ h12 (by decide) _ _ _ rfl _ (HT.out.below HS.out.below) HO.out) (by (try simp only [List.map_toArray, List.map_cons, List.map_nil]); first | done | rfl) ?_; rintro v_ W_ rfl HP HB_; clear HS; have HS := Aside0.mk HP; clear HP; clear HB_) | ((with_reducible refine gate_dst (N := 23) rfl ?_); refine Kd.R_lit (Kd.int .i64) _ 3 ?hg (N := 23) ?hd (xs := ([13] : List Int)) (inner := [.int .i64 13]) (ok := fun _ => True) (okp := fun _ => True) ?hr ?hp (fun _ hk => hk) trivial (Below.refl _ _) (Nat.le_refl _) (by simp) ?_; (case hd => rfl); (case hg => rfl); (case hr => first | (go_simp; done) | (go_simp; rfl)); (case hp => exact (Reps.one (show Kd.M (Kd.int .i64) _ _ _ 13 [.int .i64 13] from rfl) (Reps.none _ _))); intro v_ W_ hoR hb hg_ hnew_; clear hg_ hnew_; have HP := HS.out.call hb; clear HS; have HS := Aside0.mk HP; clear HP; have HO := Aside0.mk hoR; clear hb hoR; obtain ⟨AL_, cL_, eL_⟩ := Kd.R_slice HO.out; (try simp only [List.length_cons, List.length_nil, Nat.zero_add, Nat.reduceAdd] at eL_); subst eL_) | ((with_reducible refine gate_dst (N := 24) rfl ?_); refine call_ev HS.out rfl rfl Tryd.func82 (by kernel_rfl) rfl (iK _ _ _ [13] _ h13 (by decide) _ _ _ rfl _ (HT.out.below HS.out.below) HO.out) (by (try simp only [List.map_toArray, List.map_cons, List.map_nil]); first | done | rfl) ?_; rintro v_ W_ rfl HP HB_; clear HS; have HS := Aside0.mk HP; clear HP; clear HB_) | ((with_reducible refine gate_dst (N := 1) rfl ?_); (with_reducible refine box_new HS.out rfl rfl (by first | exact eval_tmp rfl | exact eval_const) ?_); intro g1 W1_ HP; clear HS; have HS := Aside0.mk HP; clear HP) | ((with_reducible refine gate_dst (N := 5) rfl ?_); (with_reducible refine load_seg HS.out rfl rfl ag61 rfl (by first | exact at0 | exact at1 | exact at2 | exact at3 | exact at4 | exact at5 | exact at6) (by with_reducible first | exact tc_el _ _ (by omega) | exact cc_el _ _ (by omega) | exact whole _) (by with_reducible first | exact mc_size _ | exact tc_size _ | exact cc_size _ | exact dc_size _ | exact rc_size _ | exact sz1 | exact sz2 | exact sz3 | exact sz4) ?_)) | ((with_reducible refine gate_dst (N := 22) rfl ?_); (with_reducible refine load_seg HS.out rfl rfl ag61 rfl (by first | exact at0 | exact at1 | exact at2 | exact at3 | exact at4 | exact at5 | exact at6) (by with_reducible first | exact tc_el _ _ (by omega) | exact cc_el _ _ (by omega) | exact whole _) (by with_reducible first | exact mc_size _ | exact tc_size _ | exact cc_size _ | exact dc_size _ | exact rc_size _ | exact sz1 | exact sz2 | exact sz3 | exact sz4) ?_))); (try simp only [Act.put, List.setIfInBounds_toArray, List.set_cons_zero, List.set_cons_succ]))
   refine start_R (LS := _) (n := 10) #[false, false, false, false, false, false, false, false, false, false] HS.out (by kernel_rfl) rfl rfl (fun W_ HSS => HSS) ?_
   intro W_ HP hHeld; clear HS; have HS := Aside0.mk HP; clear HP
   refine PrintLast.pure_ (i := 5) (oi := { dst := some 30, op := Go.Op.fieldAddr 61 (Go.Operand.tmp 1) 1, type := 0, pos := "l3_real.go:127", after := #[], guard := none }) (N := some 30) (v := ?_) (a' := ?_) #[false, false, false, false, false, true, false, false, false, false] rfl rfl (by kernel_rfl) (fun _ _ _ h => h) (Or.inl ⟨by rfl, ?_⟩) ?_ ?_
   rotate_left
   ·intro w'
    refine Eq.trans (run_field_at rfl rfl rfl fo61_1) ?_
    with_reducible rfl
   rotate_left
   ·simp only [PrintLast.putAll, Act.put, List.setIfInBounds_toArray, List.set_cons_zero, List.set_cons_succ, Nat.zero_add, Nat.add_zero, Nat.mul_one, Int.toNat_natCast]
    rfl
   refine PrintLast.take_ (i := 6) (oi := { dst := some 31, op := Go.Op.load 3 (Go.Operand.tmp 30), type := 3, pos := "l3_real.go:127", after := #[{ on := 5, ground := Go.Ground.data }], guard := none }) (N := some 31) (v := ?_) (a' := ?_) #[false, false, false, false, false, true, true, false, false, false] rfl rfl (by kernel_rfl) (fun _ _ _ h => h) (Or.inl ⟨by rfl, ?_⟩) hHeld ?_ ?_
   rotate_left
   ·intro w' hS
    refine Eq.trans (run_load_one hS rfl rfl on3 rfl (by first | exact at0 | exact at1 | exact at2 | exact at3 | exact at4 | exact at5 | exact at6) (by with_reducible first | exact get_X _ | exact get_Y _ | exact get_M _ | exact get_S _ | exact get_E _ | exact get_Time _ | exact get_Ran _ | exact get_Fault _ | exact el_T0 _ _ (by omega) | exact el_T1 _ _ (by omega) | exact el_C0 _ _ (by omega) | exact el_C1 _ _ (by omega) | exact el_C2 _ _ (by omega) | exact el_D _ _ (by omega) | exact el_R _ _ (by omega) | exact dc_get _ _ (by omega) | exact rc_get _ _ (by omega) | exact at0a | exact at1a | exact at2a | exact at3a)) ?_
    with_reducible rfl
   rotate_left
   ·simp only [PrintLast.putAll, Act.put, List.setIfInBounds_toArray, List.set_cons_zero, List.set_cons_succ, Nat.zero_add, Nat.add_zero, Nat.mul_one, Int.toNat_natCast]
    rfl
   refine PrintLast.one_ (i := 0) (oi := { dst := some 25, op := Go.Op.call { callee := Go.Callee.value (Go.Operand.func 83), args := #[], argTypes := #[] }, type := 33, pos := "l3_real.go:127", after := #[], guard := none }) (N := some 25) #[true, false, false, false, false, true, true, false, false, false] rfl rfl (by kernel_rfl) (by decide) ?_
   intro K hK
   refine step_callr (wanted_of rfl) HS.out rfl rfl Tryd.func83 (by kernel_rfl) rfl (by (try simp only [List.map_toArray, List.map_cons, List.map_nil]); first | done | rfl) (c_mNaN _) ?_
   intro W_ HP; clear hHeld; clear HS; have HS := Aside0.mk HP; clear HP
   refine hK.out _ _ (HS.out) (fun hHeld => ?_)
   clear hK K
   refine PrintLast.norm_ (a' := ?_) ?_ ?_
   rotate_left
   ·show Act.put _ (some 25) _ = _
    simp only [PrintLast.putAll, Act.put, List.setIfInBounds_toArray, List.set_cons_zero, List.set_cons_succ, Nat.zero_add, Nat.add_zero, Nat.mul_one, Int.toNat_natCast]
    rfl
   refine PrintLast.one_ (i := 1) (oi := { dst := some 26, op := Go.Op.call { callee := Go.Callee.value (Go.Operand.func 84), args := #[Go.Operand.const (Go.Value.int Go.IntKind.i64 1)], argTypes := #[3] }, type := 33, pos := "l3_real.go:127", after := #[{ on := 0, ground := Go.Ground.chain }], guard := none }) (N := some 26) #[true, true, false, false, false, true, true, false, false, false] rfl rfl (by kernel_rfl) (by decide) ?_
   intro K hK
   refine step_callr (wanted_of rfl) HS.out rfl rfl Tryd.func84 (by kernel_rfl) rfl (by (try simp only [List.map_toArray, List.map_cons, List.map_nil]); first | done | rfl) (c_mInf _) ?_
   intro W_ HP; clear hHeld; clear HS; have HS := Aside0.mk HP; clear HP
   refine hK.out _ _ (HS.out) (fun hHeld => ?_)
   clear hK K
   refine PrintLast.norm_ (a' := ?_) ?_ ?_
   rotate_left
   ·show Act.put _ (some 26) _ = _
    simp only [PrintLast.putAll, Act.put, List.setIfInBounds_toArray, List.set_cons_zero, List.set_cons_succ, Nat.zero_add, Nat.add_zero, Nat.mul_one, Int.toNat_natCast]
    rfl
   refine PrintLast.one_ (i := 2) (oi := { dst := some 27, op := Go.Op.call { callee := Go.Callee.value (Go.Operand.func 84), args := #[Go.Operand.const (Go.Value.int Go.IntKind.i64 (-1))], argTypes := #[3] }, type := 33, pos := "l3_real.go:127", after := #[{ on := 1, ground := Go.Ground.chain }], guard := none }) (N := some 27) #[true, true, true, false, false, true, true, false, false, false] rfl rfl (by kernel_rfl) (by decide) ?_
   intro K hK
   refine step_callr (wanted_of rfl) HS.out rfl rfl Tryd.func84 (by kernel_rfl) rfl (by (try simp only [List.map_toArray, List.map_cons, List.map_nil]); first | done | rfl) (c_mInf2 _) ?_
   intro W_ HP; clear hHeld; clear HS; have HS := Aside0.mk HP; clear HP
   refine hK.out _ _ (HS.out) (fun hHeld => ?_)
   clear hK K
   refine PrintLast.norm_ (a' := ?_) ?_ ?_
   rotate_left
   ·show Act.put _ (some 27) _ = _
    simp only [PrintLast.putAll, Act.put, List.setIfInBounds_toArray, List.set_cons_zero, List.set_cons_succ, Nat.zero_add, Nat.add_zero, Nat.mul_one, Int.toNat_natCast]
    rfl
   refine PrintLast.one_ (i := 3) (oi := { dst := some 28, op := Go.Op.call { callee := Go.Callee.value (Go.Operand.func 85), args := #[Go.Operand.const (Go.Value.float Go.FloatKind.f64 0), Go.Operand.const (Go.Value.float Go.FloatKind.f64 13830554455654793216)], argTypes := #[33, 33] }, type := 33, pos := "l3_real.go:127", after := #[{ on := 2, ground := Go.Ground.chain }], guard := none }) (N := some 28) #[true, true, true, true, false, true, true, false, false, false] rfl rfl (by kernel_rfl) (by decide) ?_
   intro K hK
   refine step_callr (wanted_of rfl) HS.out rfl rfl Tryd.func85 (by kernel_rfl) rfl (by (try simp only [List.map_toArray, List.map_cons, List.map_nil]); first | done | rfl) (c_mCopy _) ?_
   intro W_ HP; clear hHeld; clear HS; have HS := Aside0.mk HP; clear HP
   refine hK.out _ _ (HS.out) (fun hHeld => ?_)
   clear hK K
   refine PrintLast.norm_ (a' := ?_) ?_ ?_
   rotate_left
   ·show Act.put _ (some 28) _ = _
    simp only [PrintLast.putAll, Act.put, List.setIfInBounds_toArray, List.set_cons_zero, List.set_cons_succ, Nat.zero_add, Nat.add_zero, Nat.mul_one, Int.toNat_natCast]
    rfl
   refine PrintLast.one_ (i := 4) (oi := { dst := some 29, op := Go.Op.buildSlice 115 4 #[(0, Go.Operand.tmp 25), (1, Go.Operand.tmp 26), (2, Go.Operand.tmp 27), (3, Go.Operand.tmp 28)], type := 115, pos := "l3_real.go:127", after := #[{ on := 0, ground := Go.Ground.data }, { on := 1, ground := Go.Ground.data }, { on := 2, ground := Go.Ground.data }, { on := 3, ground := Go.Ground.data }], guard := none }) (N := some 29) #[true, true, true, true, true, true, true, false, false, false] rfl rfl (by kernel_rfl) (by decide) ?_
   intro K hK
   refine step_val (v := .slice (some ⟨W_.heap.size, 0, none⟩) 4 4) (W1 := W_.alloc (.cells #[.float .f64 9221120237041090561, .float .f64 9218868437227405312, .float .f64 18442240474082181120, .float .f64 9223372036854775808] 33)) (wanted_of rfl) rfl (by first | (go_simp; done) | (go_simp; rfl)) ?_
   have HP := HS.out.alloc #[.float .f64 9221120237041090561, .float .f64 9218868437227405312, .float .f64 18442240474082181120, .float .f64 9223372036854775808] 33; clear hHeld; clear HS; have HS := Aside0.mk HP; clear HP
   refine hK.out _ _ (HS.out.drop1) (fun hHeld => ?_)
   clear hK K
   refine PrintLast.norm_ (a' := ?_) ?_ ?_
   rotate_left
   ·show Act.put _ (some 29) _ = _
    simp only [PrintLast.putAll, Act.put, List.setIfInBounds_toArray, List.set_cons_zero, List.set_cons_succ, Nat.zero_add, Nat.add_zero, Nat.mul_one, Int.toNat_natCast]
    rfl
   refine PrintLast.pure_ (i := 7) (oi := { dst := some 32, op := Go.Op.indexAddr 115 (Go.Operand.tmp 29) (Go.Operand.tmp 31), type := 0, pos := "l3_real.go:127", after := #[{ on := 4, ground := Go.Ground.data }, { on := 6, ground := Go.Ground.data }], guard := none }) (N := some 32) (v := ?_) (a' := ?_) #[true, true, true, true, true, true, true, true, false, false] rfl rfl (by kernel_rfl) (fun _ _ _ h => h) (Or.inl ⟨by rfl, ?_⟩) ?_ ?_
   rotate_left
   ·intro w'
    go_simp
    with_reducible rfl
   rotate_left
   ·simp only [PrintLast.putAll, Act.put, List.setIfInBounds_toArray, List.set_cons_zero, List.set_cons_succ, Nat.zero_add, Nat.add_zero, Nat.mul_one, Int.toNat_natCast]
    rfl
   refine PrintLast.one_ (i := 8) (oi := { dst := some 33, op := Go.Op.load 33 (Go.Operand.tmp 32), type := 33, pos := "l3_real.go:127", after := #[{ on := 7, ground := Go.Ground.data }], guard := none }) (N := some 33) #[true, true, true, true, true, true, true, true, true, false] rfl rfl (by kernel_rfl) (by decide) ?_
   intro K hK
   refine step_val (wanted_of rfl) rfl (run_load_one HS.out rfl rfl on33 rfl (by first | exact at0 | exact at1 | exact at2 | exact at3 | exact at4 | exact at5 | exact at6) (by with_reducible first | exact get_X _ | exact get_Y _ | exact get_M _ | exact get_S _ | exact get_E _ | exact get_Time _ | exact get_Ran _ | exact get_Fault _ | exact el_T0 _ _ (by omega) | exact el_T1 _ _ (by omega) | exact el_C0 _ _ (by omega) | exact el_C1 _ _ (by omega) | exact el_C2 _ _ (by omega) | exact el_D _ _ (by omega) | exact el_R _ _ (by omega) | exact dc_get _ _ (by omega) | exact rc_get _ _ (by omega) | exact at0a | exact at1a | exact at2a | exact at3a)) ?_
   refine hK.out _ _ (HS.out.drop1) (fun hHeld => ?_)
   clear hK K
   refine PrintLast.norm_ (a' := ?_) ?_ ?_
   rotate_left
   ·show Act.put _ (some 33) _ = _
    simp only [PrintLast.putAll, Act.put, List.setIfInBounds_toArray, List.set_cons_zero, List.set_cons_succ, Nat.zero_add, Nat.add_zero, Nat.mul_one, Int.toNat_natCast]
    rfl
   refine PrintLast.pure_ (i := 9) (oi := { dst := some 2, op := Go.Op.assign (Go.Operand.tmp 33), type := 33, pos := "l3_real.go:127", after := #[{ on := 8, ground := Go.Ground.data }, { on := 3, ground := Go.Ground.chain }, { on := 0, ground := Go.Ground.phase }, { on := 1, ground := Go.Ground.phase }, { on := 2, ground := Go.Ground.phase }, { on := 3, ground := Go.Ground.phase }, { on := 4, ground := Go.Ground.phase }, { on := 5, ground := Go.Ground.phase }, { on := 6, ground := Go.Ground.phase }, { on := 7, ground := Go.Ground.phase }, { on := 8, ground := Go.Ground.phase }], guard := none }) (N := some 2) (v := ?_) (a' := ?_) #[true, true, true, true, true, true, true, true, true, true] rfl rfl (by kernel_rfl) (fun _ _ _ h => h) (Or.inl ⟨by rfl, ?_⟩) ?_ ?_
   rotate_left
   ·intro w'
    go_simp
    with_reducible rfl
   rotate_left
   ·simp only [PrintLast.putAll, Act.put, List.setIfInBounds_toArray, List.set_cons_zero, List.set_cons_succ, Nat.zero_add, Nat.add_zero, Nat.mul_one, Int.toNat_natCast]
    rfl
   refine PrintLast.done_ (by kernel_rfl) ?_
   clear hHeld
   go_wp2
   go_ret
   exact ⟨_, rfl, ⟨_, rfl, hR2⟩, HS.out.below⟩
  ·have hR3 : Ra 13 3 p 9223372036854775808 := hR _ (by first | exact nan_go | decide)
   clear hR
   go_enter Tryd.func61, Tryd.ntmps61
   go_wp2_with ((first | ((with_reducible refine gate_dst (N := 6) rfl ?_); refine Kd.R_lit (Kd.int .i64) _ 3 ?hg (N := 6) ?hd (xs := ([12] : List Int)) (inner := [.int .i64 12]) (ok := fun _ => True) (okp := fun _ => True) ?hr ?hp (fun _ hk => hk) trivial (Below.refl _ _) (Nat.le_refl _) (by simp) ?_; (case hd => rfl); (case hg => rfl); (case hr => first | (go_simp; done) | (go_simp; rfl)); (case hp => exact (Reps.one (show Kd.M (Kd.int .i64) _ _ _ 12 [.int .i64 12] from rfl) (Reps.none _ _))); intro v_ W_ hoR hb hg_ hnew_; clear hg_ hnew_; have HP := HS.out.call hb; clear HS; have HS := Aside0.mk HP; clear HP; have HO := Aside0.mk hoR; clear hb hoR; obtain ⟨AL_, cL_, eL_⟩ := Kd.R_slice HO.out; (try simp only [List.length_cons, List.length_nil, Nat.zero_add, Nat.reduceAdd] at eL_); subst eL_) | ((with_reducible refine gate_dst (N := 7) rfl ?_); refine call_ev HS.out rfl rfl Tryd.func82 (by kernel_rfl) rfl (iK _ _ _ [12] _ h12 (by decide) _ _ _ rfl _ (HT.out.below HS.out.below) HO.out) (by (try simp only [List.map_toArray, List.map_cons, List.map_nil]); first | done | rfl) ?_; rintro v_ W_ rfl HP HB_; clear HS; have HS := Aside0.mk HP; clear HP; clear HB_) | ((with_reducible refine gate_dst (N := 23) rfl ?_); refine Kd.R_lit (Kd.int .i64) _ 3 ?hg (N := 23) ?hd (xs := ([13] : List Int)) (inner := [.int .i64 13]) (ok := fun _ => True) (okp := fun _ => True) ?hr ?hp (fun _ hk => hk) trivial (Below.refl _ _) (Nat.le_refl _) (by simp) ?_; (case hd => rfl); (case hg => rfl); (case hr => first | (go_simp; done) | (go_simp; rfl)); (case hp => exact (Reps.one (show Kd.M (Kd.int .i64) _ _ _ 13 [.int .i64 13] from rfl) (Reps.none _ _))); intro v_ W_ hoR hb hg_ hnew_; clear hg_ hnew_; have HP := HS.out.call hb; clear HS; have HS := Aside0.mk HP; clear HP; have HO := Aside0.mk hoR; clear hb hoR; obtain ⟨AL_, cL_, eL_⟩ := Kd.R_slice HO.out; (try simp only [List.length_cons, List.length_nil, Nat.zero_add, Nat.reduceAdd] at eL_); subst eL_) | ((with_reducible refine gate_dst (N := 24) rfl ?_); refine call_ev HS.out rfl rfl Tryd.func82 (by kernel_rfl) rfl (iK _ _ _ [13] _ h13 (by decide) _ _ _ rfl _ (HT.out.below HS.out.below) HO.out) (by (try simp only [List.map_toArray, List.map_cons, List.map_nil]); first | done | rfl) ?_; rintro v_ W_ rfl HP HB_; clear HS; have HS := Aside0.mk HP; clear HP; clear HB_) | ((with_reducible refine gate_dst (N := 1) rfl ?_); (with_reducible refine box_new HS.out rfl rfl (by first | exact eval_tmp rfl | exact eval_const) ?_); intro g1 W1_ HP; clear HS; have HS := Aside0.mk HP; clear HP) | ((with_reducible refine gate_dst (N := 5) rfl ?_); (with_reducible refine load_seg HS.out rfl rfl ag61 rfl (by first | exact at0 | exact at1 | exact at2 | exact at3 | exact at4 | exact at5 | exact at6) (by with_reducible first | exact tc_el _ _ (by omega) | exact cc_el _ _ (by omega) | exact whole _) (by with_reducible first | exact mc_size _ | exact tc_size _ | exact cc_size _ | exact dc_size _ | exact rc_size _ | exact sz1 | exact sz2 | exact sz3 | exact sz4) ?_)) | ((with_reducible refine gate_dst (N := 22) rfl ?_); (with_reducible refine load_seg HS.out rfl rfl ag61 rfl (by first | exact at0 | exact at1 | exact at2 | exact at3 | exact at4 | exact at5 | exact at6) (by with_reducible first | exact tc_el _ _ (by omega) | exact cc_el _ _ (by omega) | exact whole _) (by with_reducible first | exact mc_size _ | exact tc_size _ | exact cc_size _ | exact dc_size _ | exact rc_size _ | exact sz1 | exact sz2 | exact sz3 | exact sz4) ?_))); (try simp only [Act.put, List.setIfInBounds_toArray, List.set_cons_zero, List.set_cons_succ]))
   refine start_R (LS := _) (n := 10) #[false, false, false, false, false, false, false, false, false, false] HS.out (by kernel_rfl) rfl rfl (fun W_ HSS => HSS) ?_
   intro W_ HP hHeld; clear HS; have HS := Aside0.mk HP; clear HP
   refine PrintLast.pure_ (i := 5) (oi := { dst := some 30, op := Go.Op.fieldAddr 61 (Go.Operand.tmp 1) 1, type := 0, pos := "l3_real.go:127", after := #[], guard := none }) (N := some 30) (v := ?_) (a' := ?_) #[false, false, false, false, false, true, false, false, false, false] rfl rfl (by kernel_rfl) (fun _ _ _ h => h) (Or.inl ⟨by rfl, ?_⟩) ?_ ?_
   rotate_left
   ·intro w'
    refine Eq.trans (run_field_at rfl rfl rfl fo61_1) ?_
    with_reducible rfl
   rotate_left
   ·simp only [PrintLast.putAll, Act.put, List.setIfInBounds_toArray, List.set_cons_zero, List.set_cons_succ, Nat.zero_add, Nat.add_zero, Nat.mul_one, Int.toNat_natCast]
    rfl
   refine PrintLast.take_ (i := 6) (oi := { dst := some 31, op := Go.Op.load 3 (Go.Operand.tmp 30), type := 3, pos := "l3_real.go:127", after := #[{ on := 5, ground := Go.Ground.data }], guard := none }) (N := some 31) (v := ?_) (a' := ?_) #[false, false, false, false, false, true, true, false, false, false] rfl rfl (by kernel_rfl) (fun _ _ _ h => h) (Or.inl ⟨by rfl, ?_⟩) hHeld ?_ ?_
   rotate_left
   ·intro w' hS
    refine Eq.trans (run_load_one hS rfl rfl on3 rfl (by first | exact at0 | exact at1 | exact at2 | exact at3 | exact at4 | exact at5 | exact at6) (by with_reducible first | exact get_X _ | exact get_Y _ | exact get_M _ | exact get_S _ | exact get_E _ | exact get_Time _ | exact get_Ran _ | exact get_Fault _ | exact el_T0 _ _ (by omega) | exact el_T1 _ _ (by omega) | exact el_C0 _ _ (by omega) | exact el_C1 _ _ (by omega) | exact el_C2 _ _ (by omega) | exact el_D _ _ (by omega) | exact el_R _ _ (by omega) | exact dc_get _ _ (by omega) | exact rc_get _ _ (by omega) | exact at0a | exact at1a | exact at2a | exact at3a)) ?_
    with_reducible rfl
   rotate_left
   ·simp only [PrintLast.putAll, Act.put, List.setIfInBounds_toArray, List.set_cons_zero, List.set_cons_succ, Nat.zero_add, Nat.add_zero, Nat.mul_one, Int.toNat_natCast]
    rfl
   refine PrintLast.one_ (i := 0) (oi := { dst := some 25, op := Go.Op.call { callee := Go.Callee.value (Go.Operand.func 83), args := #[], argTypes := #[] }, type := 33, pos := "l3_real.go:127", after := #[], guard := none }) (N := some 25) #[true, false, false, false, false, true, true, false, false, false] rfl rfl (by kernel_rfl) (by decide) ?_
   intro K hK
   refine step_callr (wanted_of rfl) HS.out rfl rfl Tryd.func83 (by kernel_rfl) rfl (by (try simp only [List.map_toArray, List.map_cons, List.map_nil]); first | done | rfl) (c_mNaN _) ?_
   intro W_ HP; clear hHeld; clear HS; have HS := Aside0.mk HP; clear HP
   refine hK.out _ _ (HS.out) (fun hHeld => ?_)
   clear hK K
   refine PrintLast.norm_ (a' := ?_) ?_ ?_
   rotate_left
   ·show Act.put _ (some 25) _ = _
    simp only [PrintLast.putAll, Act.put, List.setIfInBounds_toArray, List.set_cons_zero, List.set_cons_succ, Nat.zero_add, Nat.add_zero, Nat.mul_one, Int.toNat_natCast]
    rfl
   refine PrintLast.one_ (i := 1) (oi := { dst := some 26, op := Go.Op.call { callee := Go.Callee.value (Go.Operand.func 84), args := #[Go.Operand.const (Go.Value.int Go.IntKind.i64 1)], argTypes := #[3] }, type := 33, pos := "l3_real.go:127", after := #[{ on := 0, ground := Go.Ground.chain }], guard := none }) (N := some 26) #[true, true, false, false, false, true, true, false, false, false] rfl rfl (by kernel_rfl) (by decide) ?_
   intro K hK
   refine step_callr (wanted_of rfl) HS.out rfl rfl Tryd.func84 (by kernel_rfl) rfl (by (try simp only [List.map_toArray, List.map_cons, List.map_nil]); first | done | rfl) (c_mInf _) ?_
   intro W_ HP; clear hHeld; clear HS; have HS := Aside0.mk HP; clear HP
   refine hK.out _ _ (HS.out) (fun hHeld => ?_)
   clear hK K
   refine PrintLast.norm_ (a' := ?_) ?_ ?_
   rotate_left
   ·show Act.put _ (some 26) _ = _
    simp only [PrintLast.putAll, Act.put, List.setIfInBounds_toArray, List.set_cons_zero, List.set_cons_succ, Nat.zero_add, Nat.add_zero, Nat.mul_one, Int.toNat_natCast]
    rfl
   refine PrintLast.one_ (i := 2) (oi := { dst := some 27, op := Go.Op.call { callee := Go.Callee.value (Go.Operand.func 84), args := #[Go.Operand.const (Go.Value.int Go.IntKind.i64 (-1))], argTypes := #[3] }, type := 33, pos := "l3_real.go:127", after := #[{ on := 1, ground := Go.Ground.chain }], guard := none }) (N := some 27) #[true, true, true, false, false, true, true, false, false, false] rfl rfl (by kernel_rfl) (by decide) ?_
   intro K hK
   refine step_callr (wanted_of rfl) HS.out rfl rfl Tryd.func84 (by kernel_rfl) rfl (by (try simp only [List.map_toArray, List.map_cons, List.map_nil]); first | done | rfl) (c_mInf2 _) ?_
   intro W_ HP; clear hHeld; clear HS; have HS := Aside0.mk HP; clear HP
   refine hK.out _ _ (HS.out) (fun hHeld => ?_)
   clear hK K
   refine PrintLast.norm_ (a' := ?_) ?_ ?_
   rotate_left
   ·show Act.put _ (some 27) _ = _
    simp only [PrintLast.putAll, Act.put, List.setIfInBounds_toArray, List.set_cons_zero, List.set_cons_succ, Nat.zero_add, Nat.add_zero, Nat.mul_one, Int.toNat_natCast]
    rfl
   refine PrintLast.one_ (i := 3) (oi := { dst := some 28, op := Go.Op.call { callee := Go.Callee.value (Go.Operand.func 85), args := #[Go.Operand.const (Go.Value.float Go.FloatKind.f64 0), Go.Operand.const (Go.Value.float Go.FloatKind.f64 13830554455654793216)], argTypes := #[33, 33] }, type := 33, pos := "l3_real.go:127", after := #[{ on := 2, ground := Go.Ground.chain }], guard := none }) (N := some 28) #[true, true, true, true, false, true, true, false, false, false] rfl rfl (by kernel_rfl) (by decide) ?_
   intro K hK
   refine step_callr (wanted_of rfl) HS.out rfl rfl Tryd.func85 (by kernel_rfl) rfl (by (try simp only [List.map_toArray, List.map_cons, List.map_nil]); first | done | rfl) (c_mCopy _) ?_
   intro W_ HP; clear hHeld; clear HS; have HS := Aside0.mk HP; clear HP
   refine hK.out _ _ (HS.out) (fun hHeld => ?_)
   clear hK K
   refine PrintLast.norm_ (a' := ?_) ?_ ?_
   rotate_left
   ·show Act.put _ (some 28) _ = _
    simp only [PrintLast.putAll, Act.put, List.setIfInBounds_toArray, List.set_cons_zero, List.set_cons_succ, Nat.zero_add, Nat.add_zero, Nat.mul_one, Int.toNat_natCast]
    rfl
   refine PrintLast.one_ (i := 4) (oi := { dst := some 29, op := Go.Op.buildSlice 115 4 #[(0, Go.Operand.tmp 25), (1, Go.Operand.tmp 26), (2, Go.Operand.tmp 27), (3, Go.Operand.tmp 28)], type := 115, pos := "l3_real.go:127", after := #[{ on := 0, ground := Go.Ground.data }, { on := 1, ground := Go.Ground.data }, { on := 2, ground := Go.Ground.data }, { on := 3, ground := Go.Ground.data }], guard := none }) (N := some 29) #[true, true, true, true, true, true, true, false, false, false] rfl rfl (by kernel_rfl) (by decide) ?_
   intro K hK
   refine step_val (v := .slice (some ⟨W_.heap.size, 0, none⟩) 4 4) (W1 := W_.alloc (.cells #[.float .f64 9221120237041090561, .float .f64 9218868437227405312, .float .f64 18442240474082181120, .float .f64 9223372036854775808] 33)) (wanted_of rfl) rfl (by first | (go_simp; done) | (go_simp; rfl)) ?_
   have HP := HS.out.alloc #[.float .f64 9221120237041090561, .float .f64 9218868437227405312, .float .f64 18442240474082181120, .float .f64 9223372036854775808] 33; clear hHeld; clear HS; have HS := Aside0.mk HP; clear HP
   refine hK.out _ _ (HS.out.drop1) (fun hHeld => ?_)
   clear hK K
   refine PrintLast.norm_ (a' := ?_) ?_ ?_
   rotate_left
   ·show Act.put _ (some 29) _ = _
    simp only [PrintLast.putAll, Act.put, List.setIfInBounds_toArray, List.set_cons_zero, List.set_cons_succ, Nat.zero_add, Nat.add_zero, Nat.mul_one, Int.toNat_natCast]
    rfl
   refine PrintLast.pure_ (i := 7) (oi := { dst := some 32, op := Go.Op.indexAddr 115 (Go.Operand.tmp 29) (Go.Operand.tmp 31), type := 0, pos := "l3_real.go:127", after := #[{ on := 4, ground := Go.Ground.data }, { on := 6, ground := Go.Ground.data }], guard := none }) (N := some 32) (v := ?_) (a' := ?_) #[true, true, true, true, true, true, true, true, false, false] rfl rfl (by kernel_rfl) (fun _ _ _ h => h) (Or.inl ⟨by rfl, ?_⟩) ?_ ?_
   rotate_left
   ·intro w'
    go_simp
    with_reducible rfl
   rotate_left
   ·simp only [PrintLast.putAll, Act.put, List.setIfInBounds_toArray, List.set_cons_zero, List.set_cons_succ, Nat.zero_add, Nat.add_zero, Nat.mul_one, Int.toNat_natCast]
    rfl
   refine PrintLast.one_ (i := 8) (oi := { dst := some 33, op := Go.Op.load 33 (Go.Operand.tmp 32), type := 33, pos := "l3_real.go:127", after := #[{ on := 7, ground := Go.Ground.data }], guard := none }) (N := some 33) #[true, true, true, true, true, true, true, true, true, false] rfl rfl (by kernel_rfl) (by decide) ?_
   intro K hK
   refine step_val (wanted_of rfl) rfl (run_load_one HS.out rfl rfl on33 rfl (by first | exact at0 | exact at1 | exact at2 | exact at3 | exact at4 | exact at5 | exact at6) (by with_reducible first | exact get_X _ | exact get_Y _ | exact get_M _ | exact get_S _ | exact get_E _ | exact get_Time _ | exact get_Ran _ | exact get_Fault _ | exact el_T0 _ _ (by omega) | exact el_T1 _ _ (by omega) | exact el_C0 _ _ (by omega) | exact el_C1 _ _ (by omega) | exact el_C2 _ _ (by omega) | exact el_D _ _ (by omega) | exact el_R _ _ (by omega) | exact dc_get _ _ (by omega) | exact rc_get _ _ (by omega) | exact at0a | exact at1a | exact at2a | exact at3a)) ?_
   refine hK.out _ _ (HS.out.drop1) (fun hHeld => ?_)
   clear hK K
   refine PrintLast.norm_ (a' := ?_) ?_ ?_
   rotate_left
   ·show Act.put _ (some 33) _ = _
    simp only [PrintLast.putAll, Act.put, List.setIfInBounds_toArray, List.set_cons_zero, List.set_cons_succ, Nat.zero_add, Nat.add_zero, Nat.mul_one, Int.toNat_natCast]
    rfl
   refine PrintLast.pure_ (i := 9) (oi := { dst := some 2, op := Go.Op.assign (Go.Operand.tmp 33), type := 33, pos := "l3_real.go:127", after := #[{ on := 8, ground := Go.Ground.data }, { on := 3, ground := Go.Ground.chain }, { on := 0, ground := Go.Ground.phase }, { on := 1, ground := Go.Ground.phase }, { on := 2, ground := Go.Ground.phase }, { on := 3, ground := Go.Ground.phase }, { on := 4, ground := Go.Ground.phase }, { on := 5, ground := Go.Ground.phase }, { on := 6, ground := Go.Ground.phase }, { on := 7, ground := Go.Ground.phase }, { on := 8, ground := Go.Ground.phase }], guard := none }) (N := some 2) (v := ?_) (a' := ?_) #[true, true, true, true, true, true, true, true, true, true] rfl rfl (by kernel_rfl) (fun _ _ _ h => h) (Or.inl ⟨by rfl, ?_⟩) ?_ ?_
   rotate_left
   ·intro w'
    go_simp
    with_reducible rfl
   rotate_left
   ·simp only [PrintLast.putAll, Act.put, List.setIfInBounds_toArray, List.set_cons_zero, List.set_cons_succ, Nat.zero_add, Nat.add_zero, Nat.mul_one, Int.toNat_natCast]
    rfl
   refine PrintLast.done_ (by kernel_rfl) ?_
   clear hHeld
   go_wp2
   go_ret
   exact ⟨_, rfl, ⟨_, rfl, hR3⟩, HS.out.below⟩
 have hR : Ra k n p 0 := by unfold Ra; rw [if_neg c12, if_neg c13]
 have h12 : (dok k n p && decide (k ∈ ([12] : List Int))) = false := by
  cases hd : dok k n p
  ·rfl
  ·have : k ≠ 12 := fun e => c12 ⟨hd, e⟩
   simp [this]
 have h13 : (dok k n p && decide (k ∈ ([13] : List Int))) = false := by
  cases hd : dok k n p
  ·rfl
  ·have : k ≠ 13 := fun e => c13 ⟨hd, e⟩
   simp [this]
 clear c12 c13
 go_enter Tryd.func61, Tryd.ntmps61
 go_wp2_with ((first | ((with_reducible refine gate_dst (N := 6) rfl ?_); refine Kd.R_lit (Kd.int .i64) _ 3 ?hg (N := 6) ?hd (xs := ([12] : List Int)) (inner := [.int .i64 12]) (ok := fun _ => True) (okp := fun _ => True) ?hr ?hp (fun _ hk => hk) trivial (Below.refl _ _) (Nat.le_refl _) (by simp) ?_; (case hd => rfl); (case hg => rfl); (case hr => first | (go_simp; done) | (go_simp; rfl)); (case hp => exact (Reps.one (show Kd.M (Kd.int .i64) _ _ _ 12 [.int .i64 12] from rfl) (Reps.none _ _))); intro v_ W_ hoR hb hg_ hnew_; clear hg_ hnew_; have HP := HS.out.call hb; clear HS; have HS := Aside0.mk HP; clear HP; have HO := Aside0.mk hoR; clear hb hoR; obtain ⟨AL_, cL_, eL_⟩ := Kd.R_slice HO.out; (try simp only [List.length_cons, List.length_nil, Nat.zero_add, Nat.reduceAdd] at eL_); subst eL_) | ((with_reducible refine gate_dst (N := 7) rfl ?_); refine call_ev HS.out rfl rfl Tryd.func82 (by kernel_rfl) rfl (iK _ _ _ [12] _ h12 (by decide) _ _ _ rfl _ (HT.out.below HS.out.below) HO.out) (by (try simp only [List.map_toArray, List.map_cons, List.map_nil]); first | done | rfl) ?_; rintro v_ W_ rfl HP HB_; clear HS; have HS := Aside0.mk HP; clear HP; clear HB_) | ((with_reducible refine gate_dst (N := 23) rfl ?_); refine Kd.R_lit (Kd.int .i64) _ 3 ?hg (N := 23) ?hd (xs := ([13] : List Int)) (inner := [.int .i64 13]) (ok := fun _ => True) (okp := fun _ => True) ?hr ?hp (fun _ hk => hk) trivial (Below.refl _ _) (Nat.le_refl _) (by simp) ?_; (case hd => rfl); (case hg => rfl); (case hr => first | (go_simp; done) | (go_simp; rfl)); (case hp => exact (Reps.one (show Kd.M (Kd.int .i64) _ _ _ 13 [.int .i64 13] from rfl) (Reps.none _ _))); intro v_ W_ hoR hb hg_ hnew_; clear hg_ hnew_; have HP := HS.out.call hb; clear HS; have HS := Aside0.mk HP; clear HP; have HO := Aside0.mk hoR; clear hb hoR; obtain ⟨AL_, cL_, eL_⟩ := Kd.R_slice HO.out; (try simp only [List.length_cons, List.length_nil, Nat.zero_add, Nat.reduceAdd] at eL_); subst eL_) | ((with_reducible refine gate_dst (N := 24) rfl ?_); refine call_ev HS.out rfl rfl Tryd.func82 (by kernel_rfl) rfl (iK _ _ _ [13] _ h13 (by decide) _ _ _ rfl _ (HT.out.below HS.out.below) HO.out) (by (try simp only [List.map_toArray, List.map_cons, List.map_nil]); first | done | rfl) ?_; rintro v_ W_ rfl HP HB_; clear HS; have HS := Aside0.mk HP; clear HP; clear HB_) | ((with_reducible refine gate_dst (N := 1) rfl ?_); (with_reducible refine box_new HS.out rfl rfl (by first | exact eval_tmp rfl | exact eval_const) ?_); intro g1 W1_ HP; clear HS; have HS := Aside0.mk HP; clear HP) | ((with_reducible refine gate_dst (N := 5) rfl ?_); (with_reducible refine load_seg HS.out rfl rfl ag61 rfl (by first | exact at0 | exact at1 | exact at2 | exact at3 | exact at4 | exact at5 | exact at6) (by with_reducible first | exact tc_el _ _ (by omega) | exact cc_el _ _ (by omega) | exact whole _) (by with_reducible first | exact mc_size _ | exact tc_size _ | exact cc_size _ | exact dc_size _ | exact rc_size _ | exact sz1 | exact sz2 | exact sz3 | exact sz4) ?_)) | ((with_reducible refine gate_dst (N := 22) rfl ?_); (with_reducible refine load_seg HS.out rfl rfl ag61 rfl (by first | exact at0 | exact at1 | exact at2 | exact at3 | exact at4 | exact at5 | exact at6) (by with_reducible first | exact tc_el _ _ (by omega) | exact cc_el _ _ (by omega) | exact whole _) (by with_reducible first | exact mc_size _ | exact tc_size _ | exact cc_size _ | exact dc_size _ | exact rc_size _ | exact sz1 | exact sz2 | exact sz3 | exact sz4) ?_))); (try simp only [Act.put, List.setIfInBounds_toArray, List.set_cons_zero, List.set_cons_succ]))
 go_ret
 exact ⟨_, rfl, ⟨_, rfl, hR⟩, HS.out.below⟩

end Go.Proofs.YtaegonmpjgdmgaaDoor.K
