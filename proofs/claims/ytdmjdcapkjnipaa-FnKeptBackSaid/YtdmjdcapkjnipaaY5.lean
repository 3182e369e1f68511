/- Walks over the ladders' memory: what the functions of this seat answer. -/
import Derived.Test.YtdmjdcapkjnipaaProg
import Derived.Test.YtdmjdcapkjnipaaMW
import Derived.WalkKit
import Derived.Deep.LoopGhost
import Derived.Deep.DeepCutAuto
import Derived.BigFrame
import Derived.Deep.QuietTactic
import Derived.BigQuiet
import Derived.Test.YtdmjdcapkjnipaaQBack
import Derived.Test.YtdmjdcapkjnipaaRC
import Derived.Lib.Bytes
import Derived.Test.YtdmjdcapkjnipaaY4
namespace Go.Proofs.Ytdmjdcapkjnipaa.K
open Go Go.RowKit Go.Proofs.YtdmjdcapkjnipaaW Go.Proofs.YtdmjdcapkjnipaaW.PrintWords Go.Proofs.Ytdmjdcapkjnipaa.MW
set_option linter.unusedVariables false
set_option linter.unusedSimpArgs false
set_option maxRecDepth 100000
theorem on37 : oneT Try.prog 37 = true := by kernel_rfl
open QKept QBack
theorem or_sh (a x : Int) (s : Nat) (h0 : 0 ≤ a) (h1 : a < 2 ^ s) (x0 : 0 ≤ x) (x1 : x ≤ 255) (hs : s = 0 ∨ s = 8 ∨ s = 16 ∨ s = 24) : bits .or .u64 a (IntKind.u64.wrap (x * 2 ^ s)) = a + x * 2 ^ s := by
  obtain ⟨a, rfl⟩ := Int.eq_ofNat_of_zero_le h0
  obtain ⟨x, rfl⟩ := Int.eq_ofNat_of_zero_le x0
  have e : ((x : Int) * 2 ^ s) = ((2 ^ s * x : Nat) : Int) := by rw [Nat.mul_comm, Int.natCast_mul, Int.natCast_pow]; rfl
  have h2 : a < 2 ^ s := by rcases hs with rfl | rfl | rfl | rfl <;> omega
  have hb : 2 ^ s * x < 18446744073709551616 := by rcases hs with rfl | rfl | rfl | rfl <;> omega
  have ha : a < 18446744073709551616 := by rcases hs with rfl | rfl | rfl | rfl <;> omega
  rw [e, IntKind.wrap_u64, show ((2 ^ s * x : Nat) : Int) % 18446744073709551616 = ((2 ^ s * x : Nat) : Int) by omega, u64_or_nat _ _ ha hb, Nat.or_comm, ← Nat.two_pow_add_eq_or_of_lt h2]
  omega
theorem and1 (x : Int) (x0 : 0 ≤ x) (x1 : x ≤ 255) : bits .and .u64 x 1 = x % 2 := by
  obtain ⟨x, rfl⟩ := Int.eq_ofNat_of_zero_le x0
  have h := u64_and_nat x 1 (by omega) (by omega)
  rw [Nat.and_one_is_mod] at h
  exact h.trans (by omega)
theorem and2 (x : Int) (x0 : 0 ≤ x) (x1 : x ≤ 255) : bits .and .u64 x 2 = 2 * (x / 2 % 2) := by
  obtain ⟨x, rfl⟩ := Int.eq_ofNat_of_zero_le x0
  have h1 : ∀ n : Nat, n < 256 → n &&& 2 = 2 * (n / 2 % 2) := by decide
  have h := u64_and_nat x 2 (by omega) (by omega)
  rw [h1 x (by omega)] at h
  exact h.trans (by omega)
section
variable {P : Program} {ops : Array Oper} {rest : List Oper} {o : Oper} {a : Act} {Q : Exit → Act → World → Prop} {w W : World} {L : List (Nat × Array Value)} {ys : List Int}
theorem ev_madeB {f : FuncId} {ars : Array Operand} {ts : Array TypeId} {fn : Func} {args : Array Value} (HS : Priv w W L) (hgd : o.guard = none) (ho : o.op = .call { callee := .value (.func f), args := ars, argTypes := ts })
    (hf : P.funcs[f]? = some fn) (hname : (fn.name == "runtime.NumGoroutine") = false) (hb : fn.body.isSome = true) (hargs : ars.map a.eval = args)
    (hc : Calls P f args W fun e w' => ∃ v0, e = .returned v0 ∧ (Kd.int .u8).R 5 w' W.heap.size (fun _ => True) v0 ys ∧ Below W.heap.size W w')
    (h : ∀ v' W', Priv w W' L → (Kd.int .u8).R 5 W' W.heap.size (fun _ => True) v' ys → Below W.heap.size W W' → wpList P ops Q rest (a.put o.dst v') W') : wpList P ops Q (o :: rest) a W := by
  refine PrintLast.goesL_ (N := o.dst) rfl hgd hf hname hb args ho hargs (hc.mono ?_)
  rintro e W' ⟨v0, rfl, hr, hb⟩
  exact ⟨v0, rfl, h v0 W' (HS.call hb) hr hb⟩
end
def gs (xs : Nat → Int) : Nat → Int
  | 0 => 0
  | k + 1 => gs xs k + xs k * 2 ^ (8 * k)
theorem gs_lt (xs : Nat → Int) (hx : ∀ i, 0 ≤ xs i ∧ xs i ≤ 255) (k : Nat) (hk : k ≤ 3) : 0 ≤ gs xs k ∧ gs xs k < 2 ^ (8 * k) := by
  have h0 := hx 0
  have h1 := hx 1
  have h2 := hx 2
  obtain rfl | rfl | rfl | rfl : k = 0 ∨ k = 1 ∨ k = 2 ∨ k = 3 := by omega
  all_goals simp only [gs] <;> omega
theorem gs_gt (l : List Int) (p nn : Nat) (h : nn = 1 ∨ nn = 2 ∨ nn = 4) : gs (fun i => l.getD (p + i) 0) nn = gt l p nn := by
  rcases h with rfl | rfl | rfl <;> simp only [gs, gt, Nat.add_zero, Nat.add_assoc, Nat.reduceAdd] <;> omega
theorem w64u8 (x : Int) (h : 0 ≤ x ∧ x ≤ 255) : IntKind.u64.wrap x = x := by rw [IntKind.wrap_u64]; omega

set_option maxHeartbeats 4000000 in
set_option maxRecDepth 100000 in
theorem c_from (xs : Nat → Int) (nn c : Nat) (B : Addr) (W : World) (hn : nn ≤ 4) (hcell : ∀ i, i < nn → W.cell? (B.add i) = some (.int .u8 (xs i))) (hx : ∀ i, 0 ≤ xs i ∧ xs i ≤ 255) :
    Calls Try.prog 37 #[.slice (some B) nn c] W (fun e W' => e = .returned (.int .u64 (gs xs nn)) ∧ W' = W) := by
  have HX := Aside0.mk hcell
  clear hcell
  go_enter Try.func37, Try.ntmps37
  go_wp2_with fail
  go_loopw [3, 8] (fun v3 v8 W' => W' = W ∧ ∃ k : Nat, k ≤ nn ∧ v3 = .int .u64 (gs xs k) ∧ v8 = .int .i64 k) (fun _ v8 _ => nn - (intOf v8).toNat)
  case atStart => exact ⟨rfl, 0, by omega, rfl, rfl⟩
  case round =>
    obtain ⟨rfl, k, hk, rfl, rfl⟩ := hrel
    by_cases hlt : k < nn
    · have hx0 := hx k
      have e0 := w64u8 _ hx0
      go_wp2_with ((first | ((with_reducible refine gate_dst (N := 11) rfl ?_); (refine ev_value rfl (run_index_row rfl rfl rfl s37 (by omega) (by omega)) ?_)) | ((with_reducible refine gate_dst (N := 12) rfl ?_); (refine ev_value rfl (run_load_cell rfl on5 rfl (HX.out _ (by omega))) ?_))); (try simp only [Act.put, List.setIfInBounds_toArray, List.set_cons_zero, List.set_cons_succ]))
      go_roundw
      case rel =>
        refine ⟨trivial, k + 1, by omega, ?_, by go_num⟩
        have hb := gs_lt xs hx k (by omega)
        rw [or_sh _ _ (8 * k) hb.1 hb.2 hx0.1 hx0.2 (by omega)]
        rfl
      case measure => simp [intOf]; omega
    · have e_ : k = nn := by omega
      subst e_
      go_wp2_with fail
      go_ret
      exact ⟨rfl, rfl⟩
theorem add_add (ad : Addr) (p i : Nat) : (ad.add p).add i = ad.add (p + i) := by
  obtain ⟨b, o, m⟩ := ad
  by_cases h : p = 0
  · subst h; simp [Addr.add]
  · by_cases h2 : i = 0
    · subst h2; simp [Addr.add]
    · simp [Addr.add, h, h2, Nat.add_assoc]
theorem c_from2 {l : List Int} {w W : World} {L : List (Nat × Array Value)} {ad : Addr} (hs : Priv w W L) (hC : (Kd.int .u8).C w (some ad) l.length l) (hb : ∀ x ∈ l, 0 ≤ x ∧ x ≤ 255) (hl : l.length = 134) (p nn : Nat) (hn : nn = 1 ∨ nn = 2 ∨ nn = 4) (hp : p + nn ≤ 134) (c : Nat) :
    Calls Try.prog 37 #[.slice (some (ad.add p)) nn c] W (fun e W' => e = .returned (.int .u64 (gt l p nn)) ∧ W' = W) := by
  rw [← gs_gt l p nn hn]
  refine c_from (fun i => l.getD (p + i) 0) nn c _ W (by omega) (fun i hi => ?_) (fun i => byte_in hb _)
  have h := cell_row (i := ((p + i : Nat) : Int)) hs hC (by omega) (by omega)
  rw [add_add]
  exact h
theorem gt1 (l : List Int) (p : Nat) : gt l p 1 = l.getD p 0 := by simp [gt]
theorem wrap_i16w (x : Int) (h0 : 0 ≤ x) (h1 : x < 65536) : IntKind.i16.wrap x = w16 x := by
  have e : x % 65536 = x := by omega
  unfold w16
  simp [IntKind.wrap, IntKind.bits, IntKind.signed, e]
  split <;> split <;> omega
def Cur (ad : Addr) (c p : Nat) (v : Value) : Prop := ∃ (B : Addr) (N C : Nat), v = .slice (some B) N C ∧ N + p = 134 ∧ C + p = c ∧ (p < 134 → B = ad.add p)

set_option maxHeartbeats 4000000 in
set_option maxRecDepth 100000 in
theorem c_take {l : List Int} {w W : World} {L : List (Nat × Array Value)} {ad : Addr} {c p g i : Nat} {v : Value} (hs : Priv w W L) (hC : (Kd.int .u8).C w (some ad) l.length l) (hb : ∀ x ∈ l, 0 ≤ x ∧ x ≤ 255) (hl : l.length = 134) (hi : L[i]? = some (g, #[v])) (hcur : Cur ad c p v) (nn : Nat) (hn : nn = 1 ∨ nn = 2 ∨ nn = 4) (hp : p + nn ≤ 134) (hc : 134 ≤ c) (ni : Int) (hni : ni = nn) :
    Calls Try.prog 36 #[.int .i64 ni, .pointer (some ⟨g, 0, none⟩)] W (fun e W' => ∃ v', e = .returned (.int .u64 (gt l p nn)) ∧ Cur ad c (p + nn) v' ∧ Priv w W' (L.set i (g, #[v']))) := by
  have HS := Aside0.mk hs
  have HC := Aside0.mk hC
  have HB := Aside0.mk hb
  have HL := Aside0.mk hl
  clear hC hb hl hs
  subst hni
  obtain ⟨B, N, C, rfl, hN, hC', hB⟩ := hcur
  obtain rfl := hB (by omega)
  go_enter Try.func36, Try.ntmps36
  go_wp2_with ((first | ((with_reducible refine gate_dst (N := 5) rfl ?_); (with_reducible refine load_one HS.out rfl rfl on37 rfl hi rfl ?_)) | ((with_reducible refine gate_dst (N := 9) rfl ?_); (with_reducible refine load_one HS.out rfl rfl on37 rfl hi rfl ?_)) | (go_at_call 37; refine (c_from2 HS.out HC.out HB.out HL.out p nn hn hp _).mono ?_; rintro e_ W_ ⟨rfl, rfl⟩) | ((with_reducible refine gate_store (t := 37) (p := 1) rfl ?_); (with_reducible refine store_one HS.out rfl rfl rfl on37 rfl (by first | exact eval_tmp rfl | exact eval_const) hi (lay_cell _ _ _).symm (by simp) rfl rfl ?_); intro W_ HP; clear HS; have HS := Aside0.mk HP; clear HP)); (try simp only [Act.put, List.setIfInBounds_toArray, List.set_cons_zero, List.set_cons_succ]))
  all_goals
    go_ret
    have P_ := HS.out
    by_cases hq : C = nn
    · rw [if_pos hq] at P_
      exact ⟨rfl, _, ⟨_, N - nn, C - nn, rfl, by omega, by omega, fun h => absurd h (by omega)⟩, P_⟩
    · rw [if_neg hq] at P_
      exact ⟨rfl, _, ⟨_, N - nn, C - nn, rfl, by omega, by omega, fun h => add_add _ _ _⟩, P_⟩

theorem le_in (k : Nat) (x : Int) : ∀ y ∈ le k x, 0 ≤ y ∧ y ≤ 255 := by
  intro y hy
  simp only [le, List.mem_map] at hy
  obtain ⟨i, _, rfl⟩ := hy
  omega
theorem tB_in (T : Nat → Bool × Int) (k : Nat) : ∀ y ∈ tB T k, 0 ≤ y ∧ y ≤ 255 := by
  induction k with
  | zero => intro y h; cases h
  | succ k ih =>
    intro y h
    simp only [tB, List.mem_append] at h
    rcases h with (h | h) | h
    · exact ih y h
    · exact le_in _ _ y h
    · exact le_in _ _ y h
theorem cB_in (T : Nat → Bool × Bool × Int) (k : Nat) : ∀ y ∈ cB T k, 0 ≤ y ∧ y ≤ 255 := by
  induction k with
  | zero => intro y h; cases h
  | succ k ih =>
    intro y h
    simp only [cB, List.mem_append] at h
    rcases h with (h | h) | h
    · exact ih y h
    · exact le_in _ _ y h
    · exact le_in _ _ y h
theorem dB_in (T : Nat → Int) (k : Nat) : ∀ y ∈ dB T k, 0 ≤ y ∧ y ≤ 255 := by
  induction k with
  | zero => intro y h; cases h
  | succ k ih =>
    intro y h
    simp only [dB, List.mem_append] at h
    rcases h with h | h
    · exact ih y h
    · exact le_in _ _ y h
theorem keptBytes_in (m : Mm) : ∀ y ∈ keptBytes m, 0 ≤ y ∧ y ≤ 255 := by
  intro y h
  simp only [keptBytes, hB, List.mem_append] at h
  rcases h with ((((h | h) | h) | h) | h)
  · exact le_in _ _ y h
  · exact le_in _ _ y h
  · exact tB_in _ _ y h
  · exact cB_in _ _ y h
  · exact dB_in _ _ y h
theorem num_inj {a b : List Int} (ha : ∀ x ∈ a, 0 ≤ x ∧ x ≤ 255) (hb : ∀ x ∈ b, 0 ≤ x ∧ x ≤ 255) (h : (a.map fun n => UInt8.ofNat n.toNat) = b.map fun n => UInt8.ofNat n.toNat) : a = b := by
  induction a generalizing b with
  | nil => cases b with
    | nil => rfl
    | cons y b => simp at h
  | cons x a ih => cases b with
    | nil => simp at h
    | cons y b =>
      simp only [List.map_cons, List.cons.injEq] at h
      have hx := ha x (by simp)
      have hy := hb y (by simp)
      have e := congrArg UInt8.toNat h.1
      simp only [UInt8.toNat_ofNat'] at e
      rw [ih (fun z hz => ha z (by simp [hz])) (fun z hz => hb z (by simp [hz])) h.2]
      congr 1
      omega
theorem c_equal {W : World} {u v : Value} {a b : List Int} (h0 : Bytes W u a) (h1 : Bytes W v b) (ha : ∀ x ∈ a, 0 ≤ x ∧ x ≤ 255) (hb : ∀ x ∈ b, 0 ≤ x ∧ x ≤ 255) {r : Bool} (hr : decide (a = b) = r) : Calls Try.prog 38 #[u, v] W (Ret W (· = .bool r)) := by
  subst hr
  obtain ⟨A0, c0, rfl, hC0, hc0⟩ := h0.more
  obtain ⟨A1, c1, rfl, hC1, hc1⟩ := h1.more
  refine Ret.of_eq ((F.bytes_Equal.calls A0 c0 a A1 c1 b (decide (a = b)) W hC0 hc0 hC1 hc1 ?_).mono ?_)
  · unfold F.bytes_Equal.f
    congr 1
    rw [Lib.strOfNums_toList, Lib.strOfNums_toList]
    by_cases e : a = b
    · subst e; simp
    · rw [decide_eq_false e, beq_eq_false_iff_ne]
      intro h
      exact e (num_inj ha hb h)
  · rintro e w' ⟨he, m, rfl⟩
    exact ⟨he, pw_below_drewN (Below.refl _ _) m⟩



open QKept QBack
set_option maxHeartbeats 4000000 in
set_option maxRecDepth 100000 in
theorem c_implKeptBack (l : List Int) (hb : ∀ x ∈ l, 0 ≤ x ∧ x ≤ 255) (A : Option Addr) (c : Nat) (w : World) (hC : (Kd.int .u8).C w A l.length l) (hc : l.length ≤ c) :
    Calls Try.prog 18 #[.slice A l.length c] w (Ret w (fun v => (l.length = 134 ∧ okB l ∧ v = .tuple #[.agg (mc (pm l)), .bool true]) ∨ (¬(l.length = 134 ∧ okB l) ∧ v = .tuple #[.agg (mc zm), .bool false]))) := by
  have hmf : ∀ (fn : Fn) (first cap : Array Value) (w : World), (Instr.makeFunc fn first cap).run Try.prog w = .ok (.func fn first cap) w := fun _ _ _ _ => rfl
  have HS := Aside0.mk (Priv.nil w)
  have HC := Aside0.mk hC
  have HB0 := Aside0.mk hb
  clear hC
  by_cases hl : l.length = 134
  · have hl1 : ((l.length : Int) != 134) = false := by rw [hl]; rfl
    have HCC : Aside0 (134 ≤ c) := ⟨by omega⟩
    have HL := Aside0.mk hl
    obtain ⟨ad, e_, _⟩ := Kd.at_int HC.out 0 (by decide) (by omega)
    subst e_
    have HQ : Aside0 (Cur ad c 0 (.slice (some ad) l.length c)) := ⟨⟨ad, l.length, c, rfl, by omega, by omega, fun _ => by simp [Addr.add]⟩⟩
    have g0 := gt_small hb 0 4 (by decide)
    have g4 := gt_small hb 4 2 (by decide)
    obtain ⟨g01, g02, _, _, _⟩ := g0
    obtain ⟨g41, _, _, g42, _⟩ := g4
    have g42 := g42 (by decide)
    have W0 : IntKind.u64.wrap (gt l 0 4 * 4294967296) = gt l 0 4 * 4294967296 := by rw [IntKind.wrap_u64]; omega
    have W1 : IntKind.u16.wrap (gt l 4 2) = gt l 4 2 := by rw [IntKind.wrap_u16]; omega
    clear hl hb
    go_enter Try.func18, Try.ntmps18
    go_wp2_with ((first | ((with_reducible refine gate_dst (N := 11) rfl ?_); (with_reducible refine load_one HS.out rfl rfl on37 rfl (by first | exact at0 | exact at1 | exact at2) at0a ?_)) | ((with_reducible refine gate_dst (N := 16) rfl ?_); (with_reducible refine load_one HS.out rfl rfl on37 rfl (by first | exact at0 | exact at1 | exact at2) at0a ?_)) | (go_at_call 36; refine (c_take (i := 2) (p := 0) HS.out HC.out HB0.out HL.out rfl HQ.out 4 (by decide) (by omega) HCC.out _ (by rfl)).mono ?_; rintro e_ W_ ⟨v_, rfl, HQ_, HP⟩; clear HS; have HS := Aside0.mk HP; clear HP; (try simp only [List.set_cons_zero, List.set_cons_succ] at HS); clear HQ; have HQ : Aside0 (Cur ad c (4) v_) := ⟨by first | exact HQ_ | (rw [show 4 = 0 + 4 by omega]; exact HQ_)⟩; clear HQ_) | (go_at_call 36; refine (c_take (i := 2) (p := 4) HS.out HC.out HB0.out HL.out rfl HQ.out 2 (by decide) (by omega) HCC.out _ (by rfl)).mono ?_; rintro e_ W_ ⟨v_, rfl, HQ_, HP⟩; clear HS; have HS := Aside0.mk HP; clear HP; (try simp only [List.set_cons_zero, List.set_cons_succ] at HS); clear HQ; have HQ : Aside0 (Cur ad c (6) v_) := ⟨by first | exact HQ_ | (rw [show 6 = 4 + 2 by omega]; exact HQ_)⟩; clear HQ_) | (first
      | ((with_reducible refine gate_dst (N := 1) rfl ?_); (with_reducible refine box_one HS.out rfl rfl (by first | exact eval_tmp rfl | exact eval_const) rfl ?_); intro g1 W1_ HP; clear HS; have HS := Aside0.mk HP; clear HP)
      | ((with_reducible refine gate_dst (N := 2) rfl ?_); (with_reducible refine alloc_new HS.out rfl rfl ze44 ?_); intro g2 W2_ HP; clear HS; have HS := Aside0.mk HP; clear HP)
      | ((with_reducible refine gate_dst (N := 4) rfl ?_); (with_reducible refine alloc_new HS.out rfl rfl ze44 ?_); intro g4 W4_ HP; clear HS; have HS := Aside0.mk HP; clear HP)
      | ((with_reducible refine gate_dst (N := 20) rfl ?_); (with_reducible refine field_at rfl rfl rfl fo44_2 ?_); (try simp only [toNat_16, toNat_12, Int.toNat_natCast, Nat.zero_add, Nat.add_zero, Nat.mul_one]))
      | ((with_reducible refine gate_store (t := 23) (p := 20) rfl ?_); (with_reducible refine store_one HS.out rfl rfl rfl on23 rfl (by first | exact eval_tmp rfl | exact eval_const) (by first | exact at0 | exact at1 | exact at2) (by with_reducible exact set_M _ _) (by simp only [mc_size, List.size_toArray, List.length_cons, List.length_nil]; omega) rfl rfl ?_); intro W_ HP; clear HS; have HS := Aside0.mk HP; clear HP; (try simp only [List.set_cons_zero, List.set_cons_succ] at HS))
      | ((with_reducible refine gate_dst (N := 24) rfl ?_); (with_reducible refine field_at rfl rfl rfl fo44_3 ?_); (try simp only [toNat_16, toNat_12, Int.toNat_natCast, Nat.zero_add, Nat.add_zero, Nat.mul_one]))
      | ((with_reducible refine gate_store (t := 24) (p := 24) rfl ?_); (with_reducible refine store_one HS.out rfl rfl rfl on24 rfl (by first | exact eval_tmp rfl | exact eval_const) (by first | exact at0 | exact at1 | exact at2) (by with_reducible exact set_S _ _) (by simp only [mc_size, List.size_toArray, List.length_cons, List.length_nil]; omega) rfl rfl ?_); intro W_ HP; clear HS; have HS := Aside0.mk HP; clear HP; (try simp only [List.set_cons_zero, List.set_cons_succ] at HS)))); (try simp only [Act.put, List.setIfInBounds_toArray, List.set_cons_zero, List.set_cons_succ]))
    go_loopw [25] (fun v25 W => ∃ (k : Nat) (T' : Nat → Bool × Int) (v : Value), v25 = .int .i64 k ∧ k ≤ 16 ∧ Aside0 (∀ i, i < k → T' i = (pm l).T i) ∧ Aside0 (Cur ad c (6 + 3 * k) v) ∧ Aside0 (Priv w W [(g4, mc { zm with M := gt l 0 4 * 4294967296, S := gt l 4 2, T := T' }), (g2, mc zm), (g1, #[v])])) (fun v25 _ => 16 - (intOf v25).toNat)
    case atStart => exact ⟨0, zm.T, _, rfl, by omega, ⟨by intro i hi; omega⟩, HQ, HS⟩
    case round =>
      clear HS HQ
      obtain ⟨k, T', v, rfl, hk, HR, HQ, HS⟩ := hrel
      by_cases hlt : k < 16
      · have b1 := byte_in HB0.out (6 + 3 * k)
        have A1 : bits .and .u64 (gt l (6 + 3 * k) 1) 1 = l.getD (6 + 3 * k) 0 % 2 := by rw [gt1]; exact and1 _ b1.1 b1.2
        have W2 : IntKind.u16.wrap (gt l (7 + 3 * k) 2) = gt l (7 + 3 * k) 2 := by have := gt_small HB0.out (7 + 3 * k) 2 (by decide); rw [IntKind.wrap_u16]; omega
        clear b1
        go_wp2_with ((first | (go_at_call 36; refine (c_take (i := 2) (p := 6 + 3 * k) HS.out HC.out HB0.out HL.out rfl HQ.out 1 (by decide) (by omega) HCC.out _ (by rfl)).mono ?_; rintro e_ W_ ⟨v_, rfl, HQ_, HP⟩; clear HS; have HS := Aside0.mk HP; clear HP; (try simp only [List.set_cons_zero, List.set_cons_succ] at HS); clear HQ; have HQ : Aside0 (Cur ad c (7 + 3 * k) v_) := ⟨by first | exact HQ_ | (rw [show 7 + 3 * k = 6 + 3 * k + 1 by omega]; exact HQ_)⟩; clear HQ_) | (go_at_call 36; refine (c_take (i := 2) (p := 7 + 3 * k) HS.out HC.out HB0.out HL.out rfl HQ.out 2 (by decide) (by omega) HCC.out _ (by rfl)).mono ?_; rintro e_ W_ ⟨v_, rfl, HQ_, HP⟩; clear HS; have HS := Aside0.mk HP; clear HP; (try simp only [List.set_cons_zero, List.set_cons_succ] at HS); clear HQ; have HQ : Aside0 (Cur ad c (6 + 3 * (k + 1)) v_) := ⟨by first | exact HQ_ | (rw [show 6 + 3 * (k + 1) = 7 + 3 * k + 2 by omega]; exact HQ_)⟩; clear HQ_) | (first
      | ((with_reducible refine gate_dst (N := 36) rfl ?_); (refine build_new rfl rfl pl39 ze39 (by simp only [List.map_toArray, List.map_cons, List.map_nil]; exact fill_cons (by first | exact eval_tmp rfl | exact eval_const) (by with_reducible first | exact cells_agg | exact cells_int | exact cells_bool | exact cells_float | exact cells_string | exact cells_slice) rfl (by with_reducible first | exact mc_size _ | exact sz1 | exact sz2 | exact sz3) (by simp only [mc_size, List.size_toArray, List.length_cons, List.length_nil]; omega) (by with_reducible first | exact set_M _ _ | exact set_S _ _ | exact put_T _ _ (by omega) _ _ | exact put_C _ _ (by omega) _ _ _ | exact put_D _ _ (by omega) _ | exact lay_mc _ _ | exact lay2_0 | exact lay2_1 | exact lay3_0 | exact lay3_1 | exact lay3_2) (fill_cons (by first | exact eval_tmp rfl | exact eval_const) (by with_reducible first | exact cells_agg | exact cells_int | exact cells_bool | exact cells_float | exact cells_string | exact cells_slice) rfl (by with_reducible first | exact mc_size _ | exact sz1 | exact sz2 | exact sz3) (by simp only [mc_size, List.size_toArray, List.length_cons, List.length_nil]; omega) (by with_reducible first | exact set_M _ _ | exact set_S _ _ | exact put_T _ _ (by omega) _ _ | exact put_C _ _ (by omega) _ _ _ | exact put_D _ _ (by omega) _ | exact lay_mc _ _ | exact lay2_0 | exact lay2_1 | exact lay3_0 | exact lay3_1 | exact lay3_2) (fill_nil))) ?_))
      | ((with_reducible refine gate_dst (N := 37) rfl ?_); (with_reducible refine field_at rfl rfl rfl fo44_5 ?_); (try simp only [toNat_16, toNat_12, Int.toNat_natCast, Nat.zero_add, Nat.add_zero, Nat.mul_one]))
      | ((with_reducible refine gate_dst (N := 38) rfl ?_); (with_reducible refine index_at rfl rfl rfl rfl ar40 (by omega) (by omega) ?_); (try simp only [toNat_16, toNat_12, Int.toNat_natCast, Nat.zero_add, Nat.add_zero, Nat.mul_one]))
      | ((with_reducible refine gate_store (t := 39) (p := 38) rfl ?_); (with_reducible refine store_seg HS.out rfl rfl rfl ag39 rfl (by first | exact eval_tmp rfl | exact eval_const) (by first | exact at0 | exact at1 | exact at2) (by with_reducible first | exact set_T _ _ | exact put_T _ _ (by omega) _ _) (by with_reducible first | exact mc_size _ | exact sz1 | exact sz2 | exact sz3) (by simp only [mc_size, List.size_toArray, List.length_cons, List.length_nil]; omega) (by first | (with_reducible first | exact mc_one _ | exact tc_one _ | exact cc_one _ | exact dc_one _ | exact rc_one _ | exact t2_one _ _ | exact t3_one _ _ _) | (simp [Value.oneCell']; done)) ?_); intro W_ HP; clear HS; have HS := Aside0.mk HP; clear HP; (try simp only [List.set_cons_zero, List.set_cons_succ] at HS)))); (try simp only [Act.put, List.setIfInBounds_toArray, List.set_cons_zero, List.set_cons_succ]))
        go_roundw
        case rel => exact ⟨k + 1, _, _, by go_num, by omega, ⟨upd_step HR.out (by
          show _ = (decide (l.getD (6 + 3 * k) 0 % 2 = 1), gt l (7 + 3 * k) 2)
          congr 1)⟩, HQ, HS⟩
        case measure => simp [intOf]; omega
      · have e_ : k = 16 := by omega
        subst e_
        go_wp2_with fail
        have HQ1 : Aside0 (Cur ad c (54 + 3 * 0) v) := HQ
        clear HQ
        go_loopw [40] (fun v40 W => ∃ (k : Nat) (C' : Nat → Bool × Bool × Int) (v : Value), v40 = .int .i64 k ∧ k ≤ 16 ∧ Aside0 (∀ i, i < k → C' i = (pm l).C i) ∧ Aside0 (Cur ad c (54 + 3 * k) v) ∧ Aside0 (Priv w W [(g4, mc { zm with M := gt l 0 4 * 4294967296, S := gt l 4 2, T := T', C := C' }), (g2, mc zm), (g1, #[v])])) (fun v40 _ => 16 - (intOf v40).toNat)
        case atStart => exact ⟨0, zm.C, _, rfl, by omega, ⟨by intro i hi; omega⟩, HQ1, HS⟩
        case round =>
          clear HS HQ1
          obtain ⟨k, C', v, rfl, hk, HRC, HQ, HS⟩ := hrel
          by_cases hlt : k < 16
          · have b1 := byte_in HB0.out (54 + 3 * k)
            obtain ⟨y, hy⟩ : ∃ y, l.getD (54 + 3 * k) 0 = y := ⟨_, rfl⟩
            have A1 : bits .and .u64 (gt l (54 + 3 * k) 1) 1 = y % 2 := by rw [gt1, ← hy]; exact and1 _ b1.1 b1.2
            have A2 : bits .and .u64 (gt l (54 + 3 * k) 1) 2 = 2 * (y / 2 % 2) := by rw [gt1, ← hy]; exact and2 _ b1.1 b1.2
            have HY := Aside0.mk hy
            clear hy
            have W2 : IntKind.u16.wrap (gt l (55 + 3 * k) 2) = gt l (55 + 3 * k) 2 := by have := gt_small HB0.out (55 + 3 * k) 2 (by decide); rw [IntKind.wrap_u16]; omega
            clear b1
            go_wp2_with ((first | (go_at_call 36; refine (c_take (i := 2) (p := 54 + 3 * k) HS.out HC.out HB0.out HL.out rfl HQ.out 1 (by decide) (by omega) HCC.out _ (by rfl)).mono ?_; rintro e_ W_ ⟨v_, rfl, HQ_, HP⟩; clear HS; have HS := Aside0.mk HP; clear HP; (try simp only [List.set_cons_zero, List.set_cons_succ] at HS); clear HQ; have HQ : Aside0 (Cur ad c (55 + 3 * k) v_) := ⟨by first | exact HQ_ | (rw [show 55 + 3 * k = 54 + 3 * k + 1 by omega]; exact HQ_)⟩; clear HQ_) | (go_at_call 36; refine (c_take (i := 2) (p := 55 + 3 * k) HS.out HC.out HB0.out HL.out rfl HQ.out 2 (by decide) (by omega) HCC.out _ (by rfl)).mono ?_; rintro e_ W_ ⟨v_, rfl, HQ_, HP⟩; clear HS; have HS := Aside0.mk HP; clear HP; (try simp only [List.set_cons_zero, List.set_cons_succ] at HS); clear HQ; have HQ : Aside0 (Cur ad c (54 + 3 * (k + 1)) v_) := ⟨by first | exact HQ_ | (rw [show 54 + 3 * (k + 1) = 55 + 3 * k + 2 by omega]; exact HQ_)⟩; clear HQ_) | (first
      | ((with_reducible refine gate_dst (N := 55) rfl ?_); (refine build_new rfl rfl pl41 ze41 (by simp only [List.map_toArray, List.map_cons, List.map_nil]; exact fill_cons (by first | exact eval_tmp rfl | exact eval_const) (by with_reducible first | exact cells_agg | exact cells_int | exact cells_bool | exact cells_float | exact cells_string | exact cells_slice) rfl (by with_reducible first | exact mc_size _ | exact sz1 | exact sz2 | exact sz3) (by simp only [mc_size, List.size_toArray, List.length_cons, List.length_nil]; omega) (by with_reducible first | exact set_M _ _ | exact set_S _ _ | exact put_T _ _ (by omega) _ _ | exact put_C _ _ (by omega) _ _ _ | exact put_D _ _ (by omega) _ | exact lay_mc _ _ | exact lay2_0 | exact lay2_1 | exact lay3_0 | exact lay3_1 | exact lay3_2) (fill_cons (by first | exact eval_tmp rfl | exact eval_const) (by with_reducible first | exact cells_agg | exact cells_int | exact cells_bool | exact cells_float | exact cells_string | exact cells_slice) rfl (by with_reducible first | exact mc_size _ | exact sz1 | exact sz2 | exact sz3) (by simp only [mc_size, List.size_toArray, List.length_cons, List.length_nil]; omega) (by with_reducible first | exact set_M _ _ | exact set_S _ _ | exact put_T _ _ (by omega) _ _ | exact put_C _ _ (by omega) _ _ _ | exact put_D _ _ (by omega) _ | exact lay_mc _ _ | exact lay2_0 | exact lay2_1 | exact lay3_0 | exact lay3_1 | exact lay3_2) (fill_cons (by first | exact eval_tmp rfl | exact eval_const) (by with_reducible first | exact cells_agg | exact cells_int | exact cells_bool | exact cells_float | exact cells_string | exact cells_slice) rfl (by with_reducible first | exact mc_size _ | exact sz1 | exact sz2 | exact sz3) (by simp only [mc_size, List.size_toArray, List.length_cons, List.length_nil]; omega) (by with_reducible first | exact set_M _ _ | exact set_S _ _ | exact put_T _ _ (by omega) _ _ | exact put_C _ _ (by omega) _ _ _ | exact put_D _ _ (by omega) _ | exact lay_mc _ _ | exact lay2_0 | exact lay2_1 | exact lay3_0 | exact lay3_1 | exact lay3_2) (fill_nil)))) ?_))
      | ((with_reducible refine gate_dst (N := 56) rfl ?_); (with_reducible refine field_at rfl rfl rfl fo44_6 ?_); (try simp only [toNat_16, toNat_12, Int.toNat_natCast, Nat.zero_add, Nat.add_zero, Nat.mul_one]))
      | ((with_reducible refine gate_dst (N := 57) rfl ?_); (with_reducible refine index_at rfl rfl rfl rfl ar42 (by omega) (by omega) ?_); (try simp only [toNat_16, toNat_12, Int.toNat_natCast, Nat.zero_add, Nat.add_zero, Nat.mul_one]))
      | ((with_reducible refine gate_store (t := 41) (p := 57) rfl ?_); (with_reducible refine store_seg HS.out rfl rfl rfl ag41 rfl (by first | exact eval_tmp rfl | exact eval_const) (by first | exact at0 | exact at1 | exact at2) (by with_reducible first | exact set_C _ _ | exact put_C _ _ (by omega) _ _ _) (by with_reducible first | exact mc_size _ | exact sz1 | exact sz2 | exact sz3) (by simp only [mc_size, List.size_toArray, List.length_cons, List.length_nil]; omega) (by first | (with_reducible first | exact mc_one _ | exact tc_one _ | exact cc_one _ | exact dc_one _ | exact rc_one _ | exact t2_one _ _ | exact t3_one _ _ _) | (simp [Value.oneCell']; done)) ?_); intro W_ HP; clear HS; have HS := Aside0.mk HP; clear HP; (try simp only [List.set_cons_zero, List.set_cons_succ] at HS)))); (try simp only [Act.put, List.setIfInBounds_toArray, List.set_cons_zero, List.set_cons_succ]))
            go_roundw
            case rel => exact ⟨k + 1, _, _, by go_num, by omega, ⟨upd_step HRC.out (by
              show _ = (decide (l.getD (54 + 3 * k) 0 % 2 = 1), decide (l.getD (54 + 3 * k) 0 / 2 % 2 = 1), gt l (55 + 3 * k) 2)
              rw [HY.out]
              have h : y % 2 = 0 ∨ y % 2 = 1 := by omega
              have h' : y / 2 % 2 = 0 ∨ y / 2 % 2 = 1 := by omega
              rcases h with h | h <;> rcases h' with h' | h' <;> rw [h, h'] <;> rfl)⟩, HQ, HS⟩
            case measure => simp [intOf]; omega
          · have e_ : k = 16 := by omega
            subst e_
            have HQ1 : Aside0 (Cur ad c (102 + 2 * 0) v) := HQ
            clear HQ
            go_wp2_with (first
      | ((with_reducible refine gate_dst (N := 59) rfl ?_); (with_reducible refine field_at rfl rfl rfl fo44_7 ?_); (try simp only [toNat_16, toNat_12, Int.toNat_natCast, Nat.zero_add, Nat.add_zero, Nat.mul_one]); (try simp only [Act.put, List.setIfInBounds_toArray, List.set_cons_zero, List.set_cons_succ])))
            go_loopw [62] (fun v62 W => ∃ (k : Nat) (D' : Nat → Int) (v : Value), v62 = .int .i64 k ∧ k ≤ 16 ∧ Aside0 (∀ i, i < k → D' (16 + i) = (pm l).D (16 + i)) ∧ Aside0 (∀ i, i < 16 → D' i = 0) ∧ Aside0 (Cur ad c (102 + 2 * k) v) ∧ Aside0 (Priv w W [(g4, mc { zm with M := gt l 0 4 * 4294967296, S := gt l 4 2, T := T', C := C', D := D' }), (g2, mc zm), (g1, #[v])])) (fun v62 _ => 16 - (intOf v62).toNat)
            case atStart => exact ⟨0, zm.D, _, rfl, by omega, ⟨by intro i hi; omega⟩, ⟨fun _ _ => rfl⟩, HQ1, HS⟩
            case round =>
              clear HS HQ1
              obtain ⟨k, D', v, rfl, hk, HRD, HZ, HQ, HS⟩ := hrel
              by_cases hlt : k < 16
              · have W2 : IntKind.u16.wrap (gt l (102 + 2 * k) 2) = gt l (102 + 2 * k) 2 := by have := gt_small HB0.out (102 + 2 * k) 2 (by decide); rw [IntKind.wrap_u16]; omega
                have W3 : IntKind.i16.wrap (gt l (102 + 2 * k) 2) = w16 (gt l (102 + 2 * k) 2) := by
                  have := gt_small HB0.out (102 + 2 * k) 2 (by decide)
                  exact wrap_i16w _ (by omega) (by omega)
                go_wp2_with ((first | (go_at_call 36; refine (c_take (i := 2) (p := 102 + 2 * k) HS.out HC.out HB0.out HL.out rfl HQ.out 2 (by decide) (by omega) HCC.out _ (by rfl)).mono ?_; rintro e_ W_ ⟨v_, rfl, HQ_, HP⟩; clear HS; have HS := Aside0.mk HP; clear HP; (try simp only [List.set_cons_zero, List.set_cons_succ] at HS); clear HQ; have HQ : Aside0 (Cur ad c (102 + 2 * (k + 1)) v_) := ⟨by first | exact HQ_ | (rw [show 102 + 2 * (k + 1) = 102 + 2 * k + 2 by omega]; exact HQ_)⟩; clear HQ_) | (first
      | ((with_reducible refine gate_dst (N := 71) rfl ?_); (with_reducible refine field_at rfl rfl rfl fo44_7 ?_); (try simp only [toNat_16, toNat_12, Int.toNat_natCast, Nat.zero_add, Nat.add_zero, Nat.mul_one]))
      | ((with_reducible refine gate_dst (N := 72) rfl ?_); (with_reducible refine index_at rfl rfl rfl rfl ar32 (by omega) (by omega) ?_); (try simp only [toNat_16, toNat_12, Int.toNat_natCast, Nat.zero_add, Nat.add_zero, Nat.mul_one]))
      | ((with_reducible refine gate_store (t := 31) (p := 72) rfl ?_); (with_reducible refine store_one HS.out rfl rfl rfl on31 rfl (by first | exact eval_tmp rfl | exact eval_const) (by first | exact at0 | exact at1 | exact at2) (by with_reducible first | exact set_D _ _ | exact put_D _ _ (by omega) _) (by simp only [mc_size, List.size_toArray, List.length_cons, List.length_nil]; omega) rfl rfl ?_); intro W_ HP; clear HS; have HS := Aside0.mk HP; clear HP; (try simp only [List.set_cons_zero, List.set_cons_succ] at HS)))); (try simp only [Act.put, List.setIfInBounds_toArray, List.set_cons_zero, List.set_cons_succ]))
                go_roundw
                case rel => exact ⟨k + 1, _, _, by go_num, by omega, ⟨fun i hi => by
                  by_cases e : i = k
                  · subst e
                    rw [upd_same]
                    show w16 (gt l (102 + 2 * i) 2) = if 16 ≤ 16 + i then w16 (gt l (102 + 2 * (16 + i - 16)) 2) else 0
                    rw [if_pos (by omega), show 16 + i - 16 = i by omega]
                  · rw [upd_other _ _ _ _ (by omega)]
                    exact HRD.out i (by omega)⟩, ⟨fun i hi => by rw [upd_other _ _ _ _ (by omega)]; exact HZ.out i hi⟩, HQ, HS⟩
                case measure => simp [intOf]; omega
              · have e_ : k = 16 := by omega
                subst e_
                have hm : mc { zm with M := gt l 0 4 * 4294967296, S := gt l 4 2, T := T', C := C', D := D' } = mc (pm l) := mc_congr ⟨rfl, rfl, rfl, rfl, rfl, rfl, rfl, rfl⟩ (fun i hi => HR.out i hi) (fun i hi => HRC.out i hi) (fun i hi => by
                  show D' i = (pm l).D i
                  by_cases e : 16 ≤ i
                  · have h := HRD.out (i - 16) (by omega)
                    rwa [show 16 + (i - 16) = i by omega] at h
                  · rw [HZ.out i (by omega)]
                    show (0 : Int) = if 16 ≤ i then _ else 0
                    rw [if_neg e]) (fun i hi => rfl)
                have HS0 := HS.out
                rw [hm] at HS0
                clear HS hm HR HRC HRD HZ HQ
                have HS := Aside0.mk HS0
                clear HS0
                by_cases hok : okB l
                · have hd : decide (keptBytes (pm l) = l) = true := decide_eq_true (back_ok HB0.out HL.out hok)
                  have HOK := Aside0.mk hok
                  have HD := Aside0.mk hd
                  clear hok hd
                  go_wp2_with ((first | ((with_reducible refine gate_dst (N := 75) rfl ?_); refine ev_madeB HS.out rfl rfl Try.func9 (by kernel_rfl) rfl (by (try simp only [List.map_toArray, List.map_cons, List.map_nil]); first | done | rfl) (c_implKeptMake (pm l) (pm_wf HB0.out) _) ?_; intro v75_ W_ HP HR_ HX_; have HBY := Aside0.mk (Bytes.of_R HR_); clear HR_ HX_; clear HS; have HS := Aside0.mk HP; clear HP) | ((with_reducible refine gate_dst (N := 77) rfl ?_); refine call_ev2 HS.out rfl rfl Try.func38 (by kernel_rfl) rfl (by (try simp only [List.map_toArray, List.map_cons, List.map_nil]); first | done | rfl) (c_equal HBY.out ⟨_, _, rfl, Kd.C_below HC.out HS.out.below, hc⟩ (keptBytes_in _) HB0.out HD.out) ?_; rintro v_ W_ rfl HP HB_; clear HS; have HS := Aside0.mk HP; clear HP; clear HB_) | (first
      | ((with_reducible refine gate_store (t := 44) (p := 2) rfl ?_); (with_reducible refine store_seg HS.out rfl rfl rfl ag44 rfl (by first | exact eval_tmp rfl | exact eval_const) (by first | exact at0 | exact at1 | exact at2) (by with_reducible first | exact tc_put _ _ (by omega) _ _ | exact cc_put _ _ (by omega) _ _ _ | exact dc_put _ _ (by omega) _ | exact rc_put _ _ (by omega) _ | exact lay_mc _ _ | exact lay_tc _ _ | exact lay_cc _ _ | exact lay_dc _ _ | exact lay_rc _ _ | exact lay2_0 | exact lay2_1 | exact lay3_0 | exact lay3_1 | exact lay3_2 | exact lay2_w | exact lay3_w) (by with_reducible first | exact mc_size _ | exact sz1 | exact sz2 | exact sz3) (by simp only [mc_size, List.size_toArray, List.length_cons, List.length_nil]; omega) (by first | (with_reducible first | exact mc_one _ | exact tc_one _ | exact cc_one _ | exact dc_one _ | exact rc_one _ | exact t2_one _ _ | exact t3_one _ _ _) | (simp [Value.oneCell']; done)) ?_); intro W_ HP; clear HS; have HS := Aside0.mk HP; clear HP; (try simp only [List.set_cons_zero, List.set_cons_succ] at HS))
      | ((with_reducible refine gate_dst (N := 74) rfl ?_); (with_reducible refine load_seg HS.out rfl rfl ag44 rfl (by first | exact at0 | exact at1 | exact at2) (by with_reducible first | exact tc_el _ _ (by omega) | exact cc_el _ _ (by omega) | exact whole _) (by with_reducible first | exact mc_size _ | exact sz1 | exact sz2 | exact sz3) ?_))
      | ((with_reducible refine gate_dst (N := 79) rfl ?_); (refine build_new rfl rfl pl44 ze44 (by simp only [List.map_toArray, List.map_cons, List.map_nil]; exact fill_nil) ?_))
      | ((with_reducible refine gate_store (t := 44) (p := 2) rfl ?_); (with_reducible refine store_seg HS.out rfl rfl rfl ag44 rfl (by first | exact eval_tmp rfl | exact eval_const) (by first | exact at0 | exact at1 | exact at2) (by with_reducible first | exact tc_put _ _ (by omega) _ _ | exact cc_put _ _ (by omega) _ _ _ | exact dc_put _ _ (by omega) _ | exact rc_put _ _ (by omega) _ | exact lay_mc _ _ | exact lay_tc _ _ | exact lay_cc _ _ | exact lay_dc _ _ | exact lay_rc _ _ | exact lay2_0 | exact lay2_1 | exact lay3_0 | exact lay3_1 | exact lay3_2 | exact lay2_w | exact lay3_w) (by with_reducible first | exact mc_size _ | exact sz1 | exact sz2 | exact sz3) (by simp only [mc_size, List.size_toArray, List.length_cons, List.length_nil]; omega) (by first | (with_reducible first | exact mc_one _ | exact tc_one _ | exact cc_one _ | exact dc_one _ | exact rc_one _ | exact t2_one _ _ | exact t3_one _ _ _) | (simp [Value.oneCell']; done)) ?_); intro W_ HP; clear HS; have HS := Aside0.mk HP; clear HP; (try simp only [List.set_cons_zero, List.set_cons_succ] at HS))
      | ((with_reducible refine gate_dst (N := 80) rfl ?_); (with_reducible refine load_seg HS.out rfl rfl ag44 rfl (by first | exact at0 | exact at1 | exact at2) (by with_reducible first | exact tc_el _ _ (by omega) | exact cc_el _ _ (by omega) | exact whole _) (by with_reducible first | exact mc_size _ | exact sz1 | exact sz2 | exact sz3) ?_))
      | ((with_reducible refine gate_store (t := 44) (p := 2) rfl ?_); (with_reducible refine store_seg HS.out rfl rfl rfl ag44 rfl (by first | exact eval_tmp rfl | exact eval_const) (by first | exact at0 | exact at1 | exact at2) (by with_reducible first | exact tc_put _ _ (by omega) _ _ | exact cc_put _ _ (by omega) _ _ _ | exact dc_put _ _ (by omega) _ | exact rc_put _ _ (by omega) _ | exact lay_mc _ _ | exact lay_tc _ _ | exact lay_cc _ _ | exact lay_dc _ _ | exact lay_rc _ _ | exact lay2_0 | exact lay2_1 | exact lay3_0 | exact lay3_1 | exact lay3_2 | exact lay2_w | exact lay3_w) (by with_reducible first | exact mc_size _ | exact sz1 | exact sz2 | exact sz3) (by simp only [mc_size, List.size_toArray, List.length_cons, List.length_nil]; omega) (by first | (with_reducible first | exact mc_one _ | exact tc_one _ | exact cc_one _ | exact dc_one _ | exact rc_one _ | exact t2_one _ _ | exact t3_one _ _ _) | (simp [Value.oneCell']; done)) ?_); intro W_ HP; clear HS; have HS := Aside0.mk HP; clear HP; (try simp only [List.set_cons_zero, List.set_cons_succ] at HS)))); (try simp only [Act.put, List.setIfInBounds_toArray, List.set_cons_zero, List.set_cons_succ]))
                  refine ret_agg_tmp HS.out (by rfl) (by rfl) (by rfl) (by first | exact at0 | exact at1 | exact at2) ag44 (by with_reducible first | exact mc_size _ | exact sz1 | exact sz2 | exact sz3) ?_
                  exact ⟨_, rfl, .inl ⟨HL.out, HOK.out, rfl⟩, HS.out.below⟩
                · have hd : decide (keptBytes (pm l) = l) = false := decide_eq_false (fun h => hok (back_bad _ h))
                  have HOK := Aside0.mk hok
                  have HD := Aside0.mk hd
                  clear hok hd
                  go_wp2_with ((first | ((with_reducible refine gate_dst (N := 75) rfl ?_); refine ev_madeB HS.out rfl rfl Try.func9 (by kernel_rfl) rfl (by (try simp only [List.map_toArray, List.map_cons, List.map_nil]); first | done | rfl) (c_implKeptMake (pm l) (pm_wf HB0.out) _) ?_; intro v75_ W_ HP HR_ HX_; have HBY := Aside0.mk (Bytes.of_R HR_); clear HR_ HX_; clear HS; have HS := Aside0.mk HP; clear HP) | ((with_reducible refine gate_dst (N := 77) rfl ?_); refine call_ev2 HS.out rfl rfl Try.func38 (by kernel_rfl) rfl (by (try simp only [List.map_toArray, List.map_cons, List.map_nil]); first | done | rfl) (c_equal HBY.out ⟨_, _, rfl, Kd.C_below HC.out HS.out.below, hc⟩ (keptBytes_in _) HB0.out HD.out) ?_; rintro v_ W_ rfl HP HB_; clear HS; have HS := Aside0.mk HP; clear HP; clear HB_) | (first
      | ((with_reducible refine gate_store (t := 44) (p := 2) rfl ?_); (with_reducible refine store_seg HS.out rfl rfl rfl ag44 rfl (by first | exact eval_tmp rfl | exact eval_const) (by first | exact at0 | exact at1 | exact at2) (by with_reducible first | exact tc_put _ _ (by omega) _ _ | exact cc_put _ _ (by omega) _ _ _ | exact dc_put _ _ (by omega) _ | exact rc_put _ _ (by omega) _ | exact lay_mc _ _ | exact lay_tc _ _ | exact lay_cc _ _ | exact lay_dc _ _ | exact lay_rc _ _ | exact lay2_0 | exact lay2_1 | exact lay3_0 | exact lay3_1 | exact lay3_2 | exact lay2_w | exact lay3_w) (by with_reducible first | exact mc_size _ | exact sz1 | exact sz2 | exact sz3) (by simp only [mc_size, List.size_toArray, List.length_cons, List.length_nil]; omega) (by first | (with_reducible first | exact mc_one _ | exact tc_one _ | exact cc_one _ | exact dc_one _ | exact rc_one _ | exact t2_one _ _ | exact t3_one _ _ _) | (simp [Value.oneCell']; done)) ?_); intro W_ HP; clear HS; have HS := Aside0.mk HP; clear HP; (try simp only [List.set_cons_zero, List.set_cons_succ] at HS))
      | ((with_reducible refine gate_dst (N := 74) rfl ?_); (with_reducible refine load_seg HS.out rfl rfl ag44 rfl (by first | exact at0 | exact at1 | exact at2) (by with_reducible first | exact tc_el _ _ (by omega) | exact cc_el _ _ (by omega) | exact whole _) (by with_reducible first | exact mc_size _ | exact sz1 | exact sz2 | exact sz3) ?_))
      | ((with_reducible refine gate_dst (N := 79) rfl ?_); (refine build_new rfl rfl pl44 ze44 (by simp only [List.map_toArray, List.map_cons, List.map_nil]; exact fill_nil) ?_))
      | ((with_reducible refine gate_store (t := 44) (p := 2) rfl ?_); (with_reducible refine store_seg HS.out rfl rfl rfl ag44 rfl (by first | exact eval_tmp rfl | exact eval_const) (by first | exact at0 | exact at1 | exact at2) (by with_reducible first | exact tc_put _ _ (by omega) _ _ | exact cc_put _ _ (by omega) _ _ _ | exact dc_put _ _ (by omega) _ | exact rc_put _ _ (by omega) _ | exact lay_mc _ _ | exact lay_tc _ _ | exact lay_cc _ _ | exact lay_dc _ _ | exact lay_rc _ _ | exact lay2_0 | exact lay2_1 | exact lay3_0 | exact lay3_1 | exact lay3_2 | exact lay2_w | exact lay3_w) (by with_reducible first | exact mc_size _ | exact sz1 | exact sz2 | exact sz3) (by simp only [mc_size, List.size_toArray, List.length_cons, List.length_nil]; omega) (by first | (with_reducible first | exact mc_one _ | exact tc_one _ | exact cc_one _ | exact dc_one _ | exact rc_one _ | exact t2_one _ _ | exact t3_one _ _ _) | (simp [Value.oneCell']; done)) ?_); intro W_ HP; clear HS; have HS := Aside0.mk HP; clear HP; (try simp only [List.set_cons_zero, List.set_cons_succ] at HS))
      | ((with_reducible refine gate_dst (N := 80) rfl ?_); (with_reducible refine load_seg HS.out rfl rfl ag44 rfl (by first | exact at0 | exact at1 | exact at2) (by with_reducible first | exact tc_el _ _ (by omega) | exact cc_el _ _ (by omega) | exact whole _) (by with_reducible first | exact mc_size _ | exact sz1 | exact sz2 | exact sz3) ?_))
      | ((with_reducible refine gate_store (t := 44) (p := 2) rfl ?_); (with_reducible refine store_seg HS.out rfl rfl rfl ag44 rfl (by first | exact eval_tmp rfl | exact eval_const) (by first | exact at0 | exact at1 | exact at2) (by with_reducible first | exact tc_put _ _ (by omega) _ _ | exact cc_put _ _ (by omega) _ _ _ | exact dc_put _ _ (by omega) _ | exact rc_put _ _ (by omega) _ | exact lay_mc _ _ | exact lay_tc _ _ | exact lay_cc _ _ | exact lay_dc _ _ | exact lay_rc _ _ | exact lay2_0 | exact lay2_1 | exact lay3_0 | exact lay3_1 | exact lay3_2 | exact lay2_w | exact lay3_w) (by with_reducible first | exact mc_size _ | exact sz1 | exact sz2 | exact sz3) (by simp only [mc_size, List.size_toArray, List.length_cons, List.length_nil]; omega) (by first | (with_reducible first | exact mc_one _ | exact tc_one _ | exact cc_one _ | exact dc_one _ | exact rc_one _ | exact t2_one _ _ | exact t3_one _ _ _) | (simp [Value.oneCell']; done)) ?_); intro W_ HP; clear HS; have HS := Aside0.mk HP; clear HP; (try simp only [List.set_cons_zero, List.set_cons_succ] at HS)))); (try simp only [Act.put, List.setIfInBounds_toArray, List.set_cons_zero, List.set_cons_succ]))
                  refine ret_agg_tmp HS.out (by rfl) (by rfl) (by rfl) (by first | exact at0 | exact at1 | exact at2) ag44 (by with_reducible first | exact mc_size _ | exact sz1 | exact sz2 | exact sz3) ?_
                  exact ⟨_, rfl, .inr ⟨fun h => HOK.out h.2, rfl⟩, HS.out.below⟩
  · have hl1 : ((l.length : Int) != 134) = true := by simp; omega
    go_enter Try.func18, Try.ntmps18
    go_wp2_with ((first | ((with_reducible refine gate_dst (N := 11) rfl ?_); (with_reducible refine load_one HS.out rfl rfl on37 rfl (by first | exact at0 | exact at1 | exact at2) at0a ?_)) | (first
      | ((with_reducible refine gate_dst (N := 1) rfl ?_); (with_reducible refine box_one HS.out rfl rfl (by first | exact eval_tmp rfl | exact eval_const) rfl ?_); intro g1 W1_ HP; clear HS; have HS := Aside0.mk HP; clear HP)
      | ((with_reducible refine gate_dst (N := 2) rfl ?_); (with_reducible refine alloc_new HS.out rfl rfl ze44 ?_); intro g2 W2_ HP; clear HS; have HS := Aside0.mk HP; clear HP)
      | ((with_reducible refine gate_dst (N := 14) rfl ?_); (refine build_new rfl rfl pl44 ze44 (by simp only [List.map_toArray, List.map_cons, List.map_nil]; exact fill_nil) ?_))
      | ((with_reducible refine gate_store (t := 44) (p := 2) rfl ?_); (with_reducible refine store_seg HS.out rfl rfl rfl ag44 rfl (by first | exact eval_tmp rfl | exact eval_const) (by first | exact at0 | exact at1 | exact at2) (by with_reducible first | exact tc_put _ _ (by omega) _ _ | exact cc_put _ _ (by omega) _ _ _ | exact dc_put _ _ (by omega) _ | exact rc_put _ _ (by omega) _ | exact lay_mc _ _ | exact lay_tc _ _ | exact lay_cc _ _ | exact lay_dc _ _ | exact lay_rc _ _ | exact lay2_0 | exact lay2_1 | exact lay3_0 | exact lay3_1 | exact lay3_2 | exact lay2_w | exact lay3_w) (by with_reducible first | exact mc_size _ | exact sz1 | exact sz2 | exact sz3) (by simp only [mc_size, List.size_toArray, List.length_cons, List.length_nil]; omega) (by first | (with_reducible first | exact mc_one _ | exact tc_one _ | exact cc_one _ | exact dc_one _ | exact rc_one _ | exact t2_one _ _ | exact t3_one _ _ _) | (simp [Value.oneCell']; done)) ?_); intro W_ HP; clear HS; have HS := Aside0.mk HP; clear HP; (try simp only [List.set_cons_zero, List.set_cons_succ] at HS))
      | ((with_reducible refine gate_store (t := 44) (p := 2) rfl ?_); (with_reducible refine store_seg HS.out rfl rfl rfl ag44 rfl (by first | exact eval_tmp rfl | exact eval_const) (by first | exact at0 | exact at1 | exact at2) (by with_reducible first | exact tc_put _ _ (by omega) _ _ | exact cc_put _ _ (by omega) _ _ _ | exact dc_put _ _ (by omega) _ | exact rc_put _ _ (by omega) _ | exact lay_mc _ _ | exact lay_tc _ _ | exact lay_cc _ _ | exact lay_dc _ _ | exact lay_rc _ _ | exact lay2_0 | exact lay2_1 | exact lay3_0 | exact lay3_1 | exact lay3_2 | exact lay2_w | exact lay3_w) (by with_reducible first | exact mc_size _ | exact sz1 | exact sz2 | exact sz3) (by simp only [mc_size, List.size_toArray, List.length_cons, List.length_nil]; omega) (by first | (with_reducible first | exact mc_one _ | exact tc_one _ | exact cc_one _ | exact dc_one _ | exact rc_one _ | exact t2_one _ _ | exact t3_one _ _ _) | (simp [Value.oneCell']; done)) ?_); intro W_ HP; clear HS; have HS := Aside0.mk HP; clear HP; (try simp only [List.set_cons_zero, List.set_cons_succ] at HS))
      | ((with_reducible refine gate_store (t := 44) (p := 2) rfl ?_); (with_reducible refine store_seg HS.out rfl rfl rfl ag44 rfl (by first | exact eval_tmp rfl | exact eval_const) (by first | exact at0 | exact at1 | exact at2) (by with_reducible first | exact tc_put _ _ (by omega) _ _ | exact cc_put _ _ (by omega) _ _ _ | exact dc_put _ _ (by omega) _ | exact rc_put _ _ (by omega) _ | exact lay_mc _ _ | exact lay_tc _ _ | exact lay_cc _ _ | exact lay_dc _ _ | exact lay_rc _ _ | exact lay2_0 | exact lay2_1 | exact lay3_0 | exact lay3_1 | exact lay3_2 | exact lay2_w | exact lay3_w) (by with_reducible first | exact mc_size _ | exact sz1 | exact sz2 | exact sz3) (by simp only [mc_size, List.size_toArray, List.length_cons, List.length_nil]; omega) (by first | (with_reducible first | exact mc_one _ | exact tc_one _ | exact cc_one _ | exact dc_one _ | exact rc_one _ | exact t2_one _ _ | exact t3_one _ _ _) | (simp [Value.oneCell']; done)) ?_); intro W_ HP; clear HS; have HS := Aside0.mk HP; clear HP; (try simp only [List.set_cons_zero, List.set_cons_succ] at HS)))); (try simp only [Act.put, List.setIfInBounds_toArray, List.set_cons_zero, List.set_cons_succ]))
    refine ret_agg_tmp HS.out (by rfl) (by rfl) (by rfl) (by first | exact at0 | exact at1 | exact at2) ag44 (by with_reducible first | exact mc_size _ | exact sz1 | exact sz2 | exact sz3) ?_
    exact ⟨_, rfl, .inr ⟨fun h => hl h.1, rfl⟩, HS.out.below⟩


end Go.Proofs.Ytdmjdcapkjnipaa.K
