/- Walks over the ladders' memory: what the functions of this seat answer. -/
import Derived.Test.YtdmjdcapkjnipaaProg
import Derived.Test.YtdmjdcapkjnipaaMW
import Derived.WalkKit
import Derived.Deep.LoopGhost
import Derived.Deep.DeepCutAuto
import Derived.BigFrame
import Derived.Deep.QuietTactic
import Derived.BigQuiet
import Derived.Test.YtdmjdcapkjnipaaKF
import Derived.Test.YtdmjdcapkjnipaaKH
import Derived.Test.YtdmjdcapkjnipaaQBack
import Derived.Test.YtdmjdcapkjnipaaRC
import Derived.Test.YtdmjdcapkjnipaaKI
import Derived.Lib.Bytes
namespace Go.Proofs.Ytdmjdcapkjnipaa.K
open Go Go.RowKit Go.Proofs.YtdmjdcapkjnipaaW Go.Proofs.YtdmjdcapkjnipaaW.PrintWords Go.Proofs.Ytdmjdcapkjnipaa.MW
set_option linter.unusedVariables false
set_option linter.unusedSimpArgs false
set_option maxRecDepth 100000
theorem on37 : oneT Try.prog 37 = true := by kernel_rfl
open QKept QBack
theorem or_sh (a x : Int) (s : Nat) (h0 : 0 ≤ a) (h1 : a < 2 ^ s) (x0 : 0 ≤ x) (x1 : x ≤ 255) (hs : s = 0 ∨ s = 8 ∨ s = 16 ∨ s = 24) : bits .or .u64 a (IntKind.u64.wrap (x * 2 ^ s)) = a + x * 2 ^ s := by
  obtain ⟨a, rfl⟩ := Int.eq_ofNat_of_zero_le h0
  obtain ⟨x, rfl⟩ := Int.eq_ofNat_of_zero_le x0
  have e : ((x : Int) * 2 ^ s) = ((2 ^ s * x : Nat) : Int) := by rw [Nat.mul_comm, Int.natCast_mul, Int.natCast_pow]; rfl
  have h2 : a < 2 ^ s := by rcases hs with rfl | rfl | rfl | rfl <;> omega
  have hb : 2 ^ s * x < 18446744073709551616 := by rcases hs with rfl | rfl | rfl | rfl <;> omega
  have ha : a < 18446744073709551616 := by rcases hs with rfl | rfl | rfl | rfl <;> omega
  rw [e, IntKind.wrap_u64, show ((2 ^ s * x : Nat) : Int) % 18446744073709551616 = ((2 ^ s * x : Nat) : Int) by omega, u64_or_nat _ _ ha hb, Nat.or_comm, ← Nat.two_pow_add_eq_or_of_lt h2]
  omega
theorem and1 (x : Int) (x0 : 0 ≤ x) (x1 : x ≤ 255) : bits .and .u64 x 1 = x % 2 := by
  obtain ⟨x, rfl⟩ := Int.eq_ofNat_of_zero_le x0
  have h := u64_and_nat x 1 (by omega) (by omega)
  rw [Nat.and_one_is_mod] at h
  exact h.trans (by omega)
theorem and2 (x : Int) (x0 : 0 ≤ x) (x1 : x ≤ 255) : bits .and .u64 x 2 = 2 * (x / 2 % 2) := by
  obtain ⟨x, rfl⟩ := Int.eq_ofNat_of_zero_le x0
  have h1 : ∀ n : Nat, n < 256 → n &&& 2 = 2 * (n / 2 % 2) := by decide
  have h := u64_and_nat x 2 (by omega) (by omega)
  rw [h1 x (by omega)] at h
  exact h.trans (by omega)
section
variable {P : Program} {ops : Array Oper} {rest : List Oper} {o : Oper} {a : Act} {Q : Exit → Act → World → Prop} {w W : World} {L : List (Nat × Array Value)} {ys : List Int}
theorem ev_madeB {f : FuncId} {ars : Array Operand} {ts : Array TypeId} {fn : Func} {args : Array Value} (HS : Priv w W L) (hgd : o.guard = none) (ho : o.op = .call { callee := .value (.func f), args := ars, argTypes := ts })
    (hf : P.funcs[f]? = some fn) (hname : (fn.name == "runtime.NumGoroutine") = false) (hb : fn.body.isSome = true) (hargs : ars.map a.eval = args)
    (hc : Calls P f args W fun e w' => ∃ v0, e = .returned v0 ∧ (Kd.int .u8).R 5 w' W.heap.size (fun _ => True) v0 ys ∧ Below W.heap.size W w')
    (h : ∀ v' W', Priv w W' L → (Kd.int .u8).R 5 W' W.heap.size (fun _ => True) v' ys → Below W.heap.size W W' → wpList P ops Q rest (a.put o.dst v') W') : wpList P ops Q (o :: rest) a W := by
  refine PrintLast.goesL_ (N := o.dst) rfl hgd hf hname hb args ho hargs (hc.mono ?_)
  rintro e W' ⟨v0, rfl, hr, hb⟩
  exact ⟨v0, rfl, h v0 W' (HS.call hb) hr hb⟩
end
def gs (xs : Nat → Int) : Nat → Int
  | 0 => 0
  | k + 1 => gs xs k + xs k * 2 ^ (8 * k)
theorem gs_lt (xs : Nat → Int) (hx : ∀ i, 0 ≤ xs i ∧ xs i ≤ 255) (k : Nat) (hk : k ≤ 3) : 0 ≤ gs xs k ∧ gs xs k < 2 ^ (8 * k) := by
  have h0 := hx 0
  have h1 := hx 1
  have h2 := hx 2
  obtain rfl | rfl | rfl | rfl : k = 0 ∨ k = 1 ∨ k = 2 ∨ k = 3 := by omega
  all_goals simp only [gs] <;> omega
theorem gs_gt (l : List Int) (p nn : Nat) (h : nn = 1 ∨ nn = 2 ∨ nn = 4) : gs (fun i => l.getD (p + i) 0) nn = gt l p nn := by
  rcases h with rfl | rfl | rfl <;> simp only [gs, gt, Nat.add_zero, Nat.add_assoc, Nat.reduceAdd] <;> omega
theorem w64u8 (x : Int) (h : 0 ≤ x ∧ x ≤ 255) : IntKind.u64.wrap x = x := by rw [IntKind.wrap_u64]; omega

set_option maxHeartbeats 4000000 in
set_option maxRecDepth 100000 in
theorem c_from (xs : Nat → Int) (nn c : Nat) (B : Addr) (W : World) (hn : nn ≤ 4) (hcell : ∀ i, i < nn → W.cell? (B.add i) = some (.int .u8 (xs i))) (hx : ∀ i, 0 ≤ xs i ∧ xs i ≤ 255) :
    Calls Try.prog 37 #[.slice (some B) nn c] W (fun e W' => e = .returned (.int .u64 (gs xs nn)) ∧ W' = W) := by
  have HX := Aside0.mk hcell
  clear hcell
  go_enter Try.func37, Try.ntmps37
  go_wp2_with fail
  go_loopw [3, 8] (fun v3 v8 W' => W' = W ∧ ∃ k : Nat, k ≤ nn ∧ v3 = .int .u64 (gs xs k) ∧ v8 = .int .i64 k) (fun _ v8 _ => nn - (intOf v8).toNat)
  case atStart => exact ⟨rfl, 0, by omega, rfl, rfl⟩
  case round =>
    obtain ⟨rfl, k, hk, rfl, rfl⟩ := hrel
    by_cases hlt : k < nn
    · have hx0 := hx k
      have e0 := w64u8 _ hx0
      go_wp2_with (first | ((with_reducible refine gate_dst (N := 11) rfl ?_); (refine ev_value rfl (run_index_row rfl rfl rfl s37 (by omega) (by omega)) ?_); (try simp only [Act.put, List.setIfInBounds_toArray, List.set_cons_zero, List.set_cons_succ])) | ((with_reducible refine gate_dst (N := 12) rfl ?_); (refine ev_value rfl (run_load_cell rfl on5 rfl (HX.out _ (by omega))) ?_); (try simp only [Act.put, List.setIfInBounds_toArray, List.set_cons_zero, List.set_cons_succ])))
      go_roundw
      case rel =>
        refine ⟨trivial, k + 1, by omega, ?_, by go_num⟩
        have hb := gs_lt xs hx k (by omega)
        rw [or_sh _ _ (8 * k) hb.1 hb.2 hx0.1 hx0.2 (by omega)]
        rfl
      case measure => simp [intOf]; omega
    · have e_ : k = nn := by omega
      subst e_
      go_wp2_with fail
      go_ret
      exact ⟨rfl, rfl⟩
theorem add_add (ad : Addr) (p i : Nat) : (ad.add p).add i = ad.add (p + i) := by
  obtain ⟨b, o, m⟩ := ad
  by_cases h : p = 0
  · subst h; simp [Addr.add]
  · by_cases h2 : i = 0
    · subst h2; simp [Addr.add]
    · simp [Addr.add, h, h2, Nat.add_assoc]
theorem c_from2 {l : List Int} {w W : World} {L : List (Nat × Array Value)} {ad : Addr} (hs : Priv w W L) (hC : (Kd.int .u8).C w (some ad) l.length l) (hb : ∀ x ∈ l, 0 ≤ x ∧ x ≤ 255) (hl : l.length = 134) (p nn : Nat) (hn : nn = 1 ∨ nn = 2 ∨ nn = 4) (hp : p + nn ≤ 134) (c : Nat) :
    Calls Try.prog 37 #[.slice (some (ad.add p)) nn c] W (fun e W' => e = .returned (.int .u64 (gt l p nn)) ∧ W' = W) := by
  rw [← gs_gt l p nn hn]
  refine c_from (fun i => l.getD (p + i) 0) nn c _ W (by omega) (fun i hi => ?_) (fun i => byte_in hb _)
  have h := cell_row (i := ((p + i : Nat) : Int)) hs hC (by omega) (by omega)
  rw [add_add]
  exact h
theorem gt1 (l : List Int) (p : Nat) : gt l p 1 = l.getD p 0 := by simp [gt]
theorem wrap_i16w (x : Int) (h0 : 0 ≤ x) (h1 : x < 65536) : IntKind.i16.wrap x = w16 x := by
  have e : x % 65536 = x := by omega
  unfold w16
  simp [IntKind.wrap, IntKind.bits, IntKind.signed, e]
  split <;> split <;> omega
def Cur (ad : Addr) (c p : Nat) (v : Value) : Prop := ∃ (B : Addr) (N C : Nat), v = .slice (some B) N C ∧ N + p = 134 ∧ C + p = c ∧ (p < 134 → B = ad.add p)

set_option maxHeartbeats 4000000 in
set_option maxRecDepth 100000 in
theorem c_take {l : List Int} {w W : World} {L : List (Nat × Array Value)} {ad : Addr} {c p g i : Nat} {v : Value} (hs : Priv w W L) (hC : (Kd.int .u8).C w (some ad) l.length l) (hb : ∀ x ∈ l, 0 ≤ x ∧ x ≤ 255) (hl : l.length = 134) (hi : L[i]? = some (g, #[v])) (hcur : Cur ad c p v) (nn : Nat) (hn : nn = 1 ∨ nn = 2 ∨ nn = 4) (hp : p + nn ≤ 134) (hc : 134 ≤ c) (ni : Int) (hni : ni = nn) :
    Calls Try.prog 36 #[.int .i64 ni, .pointer (some ⟨g, 0, none⟩)] W (fun e W' => ∃ v', e = .returned (.int .u64 (gt l p nn)) ∧ Cur ad c (p + nn) v' ∧ Priv w W' (L.set i (g, #[v']))) := by
  have HS := Aside0.mk hs
  have HC := Aside0.mk hC
  have HB := Aside0.mk hb
  have HL := Aside0.mk hl
  clear hC hb hl hs
  subst hni
  obtain ⟨B, N, C, rfl, hN, hC', hB⟩ := hcur
  obtain rfl := hB (by omega)
  go_enter Try.func36, Try.ntmps36
  go_wp2_with (first | ((with_reducible refine gate_dst (N := 5) rfl ?_); (with_reducible refine load_one HS.out rfl rfl on37 rfl hi rfl ?_); (try simp only [Act.put, List.setIfInBounds_toArray, List.set_cons_zero, List.set_cons_succ])) | ((with_reducible refine gate_dst (N := 9) rfl ?_); (with_reducible refine load_one HS.out rfl rfl on37 rfl hi rfl ?_); (try simp only [Act.put, List.setIfInBounds_toArray, List.set_cons_zero, List.set_cons_succ])) | (go_at_call 37; refine (c_from2 HS.out HC.out HB.out HL.out p nn hn hp _).mono ?_; rintro e_ W_ ⟨rfl, rfl⟩) | ((with_reducible refine gate_store (t := 37) (p := 1) rfl ?_); (with_reducible refine store_one HS.out rfl rfl rfl on37 rfl (by first | exact eval_tmp rfl | exact eval_const) hi (lay_cell _ _ _).symm (by simp) rfl rfl ?_); intro W_ HP; clear HS; have HS := Aside0.mk HP; clear HP))
  all_goals
    go_ret
    have P_ := HS.out
    by_cases hq : C = nn
    · rw [if_pos hq] at P_
      exact ⟨rfl, _, ⟨_, N - nn, C - nn, rfl, by omega, by omega, fun h => absurd h (by omega)⟩, P_⟩
    · rw [if_neg hq] at P_
      exact ⟨rfl, _, ⟨_, N - nn, C - nn, rfl, by omega, by omega, fun h => add_add _ _ _⟩, P_⟩

theorem le_in (k : Nat) (x : Int) : ∀ y ∈ le k x, 0 ≤ y ∧ y ≤ 255 := by
  intro y hy
  simp only [le, List.mem_map] at hy
  obtain ⟨i, _, rfl⟩ := hy
  omega
theorem tB_in (T : Nat → Bool × Int) (k : Nat) : ∀ y ∈ tB T k, 0 ≤ y ∧ y ≤ 255 := by
  induction k with
  | zero => intro y h; cases h
  | succ k ih =>
    intro y h
    simp only [tB, List.mem_append] at h
    rcases h with (h | h) | h
    · exact ih y h
    · exact le_in _ _ y h
    · exact le_in _ _ y h
theorem cB_in (T : Nat → Bool × Bool × Int) (k : Nat) : ∀ y ∈ cB T k, 0 ≤ y ∧ y ≤ 255 := by
  induction k with
  | zero => intro y h; cases h
  | succ k ih =>
    intro y h
    simp only [cB, List.mem_append] at h
    rcases h with (h | h) | h
    · exact ih y h
    · exact le_in _ _ y h
    · exact le_in _ _ y h
theorem dB_in (T : Nat → Int) (k : Nat) : ∀ y ∈ dB T k, 0 ≤ y ∧ y ≤ 255 := by
  induction k with
  | zero => intro y h; cases h
  | succ k ih =>
    intro y h
    simp only [dB, List.mem_append] at h
    rcases h with h | h
    · exact ih y h
    · exact le_in _ _ y h
theorem keptBytes_in (m : Mm) : ∀ y ∈ keptBytes m, 0 ≤ y ∧ y ≤ 255 := by
  intro y h
  simp only [keptBytes, hB, List.mem_append] at h
  rcases h with ((((h | h) | h) | h) | h)
  · exact le_in _ _ y h
  · exact le_in _ _ y h
  · exact tB_in _ _ y h
  · exact cB_in _ _ y h
  · exact dB_in _ _ y h
theorem num_inj {a b : List Int} (ha : ∀ x ∈ a, 0 ≤ x ∧ x ≤ 255) (hb : ∀ x ∈ b, 0 ≤ x ∧ x ≤ 255) (h : (a.map fun n => UInt8.ofNat n.toNat) = b.map fun n => UInt8.ofNat n.toNat) : a = b := by
  induction a generalizing b with
  | nil => cases b with
    | nil => rfl
    | cons y b => simp at h
  | cons x a ih => cases b with
    | nil => simp at h
    | cons y b =>
      simp only [List.map_cons, List.cons.injEq] at h
      have hx := ha x (by simp)
      have hy := hb y (by simp)
      have e := congrArg UInt8.toNat h.1
      simp only [UInt8.toNat_ofNat'] at e
      rw [ih (fun z hz => ha z (by simp [hz])) (fun z hz => hb z (by simp [hz])) h.2]
      congr 1
      omega
theorem c_equal {W : World} {u v : Value} {a b : List Int} (h0 : Bytes W u a) (h1 : Bytes W v b) (ha : ∀ x ∈ a, 0 ≤ x ∧ x ≤ 255) (hb : ∀ x ∈ b, 0 ≤ x ∧ x ≤ 255) {r : Bool} (hr : decide (a = b) = r) : Calls Try.prog 38 #[u, v] W (Ret W (· = .bool r)) := by
  subst hr
  obtain ⟨A0, c0, rfl, hC0, hc0⟩ := h0.more
  obtain ⟨A1, c1, rfl, hC1, hc1⟩ := h1.more
  refine Ret.of_eq ((F.bytes_Equal.calls A0 c0 a A1 c1 b (decide (a = b)) W hC0 hc0 hC1 hc1 ?_).mono ?_)
  · unfold F.bytes_Equal.f
    congr 1
    rw [Lib.strOfNums_toList, Lib.strOfNums_toList]
    by_cases e : a = b
    · subst e; simp
    · rw [decide_eq_false e, beq_eq_false_iff_ne]
      intro h
      exact e (num_inj ha hb h)
  · rintro e w' ⟨he, m, rfl⟩
    exact ⟨he, pw_below_drewN (Below.refl _ _) m⟩

end Go.Proofs.Ytdmjdcapkjnipaa.K
