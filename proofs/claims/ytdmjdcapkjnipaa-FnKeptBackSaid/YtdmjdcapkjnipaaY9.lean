/- Walks over the ladders' memory: what the functions of this seat answer. -/
import Derived.Test.YtdmjdcapkjnipaaProg
import Derived.Test.YtdmjdcapkjnipaaMW
import Derived.WalkKit
import Derived.Deep.LoopGhost
import Derived.Deep.DeepCutAuto
import Derived.BigFrame
import Derived.Deep.QuietTactic
import Derived.BigQuiet
import Derived.Test.YtdmjdcapkjnipaaY8
namespace Go.Proofs.Ytdmjdcapkjnipaa.K
open Go Go.RowKit Go.Proofs.YtdmjdcapkjnipaaW Go.Proofs.YtdmjdcapkjnipaaW.PrintWords Go.Proofs.Ytdmjdcapkjnipaa.MW
set_option linter.unusedVariables false
set_option linter.unusedSimpArgs false
set_option maxRecDepth 100000

open QDraw
structure Dr (w W : World) (g : Nat) (b : List Int) (q : Int) (v : Value) (l : List Int) : Prop where
  pr : PrR w W W [] g b q
  row : Row w W [(g, #[])] v l
section
variable {w w0 W W1 W' : World} {g : Nat} {b : List Int} {q q' : Int} {v : Value} {l : List Int} {L : List (Nat × Array Value)}
theorem PrR.rebase (H : PrR w w0 W L g b q) : PrR w W W [] g b q :=
  ⟨H.pr.none, H.rd, (fun _ h => by cases h), H.ltg, KeepBut.refl _ _ _⟩
theorem Dr.begin (H : PrR w w0 W1 L g b q) (h : (Kd.int .u8).R 5 W W1.heap.size (fun _ => True) v l) (hB : Below W1.heap.size W1 W) : Dr w W g b q v l :=
  ⟨PrR.rebase (H.call hB), Kd.R_mono (Kd.R_lower (Kd.R_bound h) H.pr.below.size) (fun k hk y hy => by
    rw [List.mem_singleton] at hy; subst hy
    have := hk.2.1
    have := H.ltg
    show g ≠ k
    omega)⟩
theorem Dr.step (D : Dr w W g b q v l) (H : PrR w W W' [] g b q') : Dr w W' g b q' v l :=
  ⟨PrR.rebase H, Kd.R_kept D.row (S := fun k => k = g) ⟨H.kp.1, fun k hk hn => H.kp.2 k hk hn (by simp)⟩ (fun k ho hk => ho (g, #[]) (by simp) hk.symm)⟩
theorem Dr.call (D : Dr w W g b q v l) (h : Below W.heap.size W W') : Dr w W' g b q v l := D.step (D.pr.call h)
theorem Dr.bytes (D : Dr w W g b q v l) : Bytes W v l := Bytes.of_R D.row
theorem Dr.alone (D : Dr w W g b q v l) : Row w W [] v l := Kd.R_mono D.row (fun _ _ _ h => by cases h)
theorem c_pickD (D : Dr w W g b q v l) (hb : Tell.Bytes b) (hl : b.length ≤ 2000) (hq : q ≤ 100000000) (n : Int) (h1 : 1 ≤ n) (h2 : n ≤ 1000000000) : Calls Try.prog 42 #[.pointer (some ⟨g, 0, none⟩), .int .i64 n] W (fun e W' => ∃ v', e = .returned v' ∧ ((∃ r, v' = .int .i64 r ∧ 0 ≤ r ∧ r < n) ∧ Dr w W' g b (q + 1) v l)) :=
  (c_pick D.pr hb hl hq n h1 h2).mono fun e W' ⟨v', he, hr, H⟩ => ⟨v', he, hr, D.step H⟩
theorem c_numD (D : Dr w W g b q v l) (hb : Tell.Bytes b) (hl : b.length ≤ 2000) (hq : q ≤ 100000000) {u : Value} {xs : List Int} {base : Nat} {ok : Nat → Prop} (ho : (Kd.int .i64).R 3 W base ok u xs) (h1 : 1 ≤ xs.length) (h2 : xs.length ≤ 1000) : Calls Try.prog 43 #[.pointer (some ⟨g, 0, none⟩), u] W (fun e W' => ∃ v', e = .returned v' ∧ ((∃ r, v' = .int .i64 r ∧ r ∈ xs) ∧ Dr w W' g b (q + 1) v l)) :=
  (c_num D.pr hb hl hq ho h1 h2).mono fun e W' ⟨v', he, hr, H⟩ => ⟨v', he, hr, D.step H⟩
end
theorem keptBytes_bytes (m : Mm) : Tell.Bytes (keptBytes m) := keptBytes_in m
section
variable {P : Program} {ops : Array Oper} {rest : List Oper} {o : Oper} {a : Act} {Q : Exit → Act → World → Prop} {w W : World} {g : Nat} {b : List Int} {q : Int} {v : Value} {l : List Int}
theorem ev_litD {y : Int} {N : Tmp} (D : Dr w W g b q v l) (hgd : o.guard = none) (hd : o.dst = some N) (hrun : (execOp a.eval o).run P W = .ok (.value (.slice (some ⟨W.heap.size, 0, none⟩) 1 1)) (W.alloc (.cells #[.int .u8 y] 5)))
    (h : ∀ v' W', Priv w W' [] → Row w W' [] v l → Bytes W' v' [y] → wpList P ops Q rest (a.put o.dst v') W') : wpList P ops Q (o :: rest) a W :=
  wpList_plain hgd fun K hK => by
    have h2 := step_lit (ops := ops) (Q := Q) (K := K) (a := a) (wanted_of hgd) D.pr.pr D.alone hd hrun (fun v' W' h3 h4 h5 => hK _ _ (h v' W' h3 h4 h5))
    rwa [if_pos (wanted_of hgd)] at h2
end
theorem sto8 {ops : Array Oper} {rest : List Oper} {o : Oper} {a : Act} {Q : Exit → Act → World → Prop} {w W : World} {g gr n cap : Nat} {b : List Int} {q i y : Int} {l : List Int} {p x : Operand} (D : Dr w W g b q (.slice (some ⟨gr, 0, none⟩) n cap) l) (hN : o.dst = none) (hgd : o.guard = none) (ho : o.op = .store 5 p x) (hp : a.eval p = .pointer (some ⟨gr, i.toNat, none⟩)) (hx : a.eval x = .int .u8 y) (h0 : 0 ≤ i) (h1 : i < n)
    (h : ∀ W', Row w W' [(g, #[])] (.slice (some ⟨gr, 0, none⟩) n cap) (l.set i.toNat y) → Below w.heap.size w W' → wpList Try.prog ops Q rest a W') : wpList Try.prog ops Q (o :: rest) a W := by
  obtain ⟨ad, e, hcell⟩ := Kd.at_int (Kd.R_reads' D.row).2.2 i h0 (by have := (Kd.R_reads' D.row).1; omega)
  cases e
  refine Kd.R_store (Kd.int .u8) w.heap.size hN hgd 5 p x ho 5 (o' := i.toNat) i 0 l y (.int .u8 y) [.int .u8 y] [.int .u8 (rd l i)] _ (fun _ => False) hp ?_ hx rfl (by kernel_rfl) (by simp [Value.oneCell']) D.row h0 h1 rfl ?_ (Nat.le_refl _) ?_ (fun _ h => h.elim) D.pr.pr.below (fun W' h2 h3 _ => h W' h2 h3)
  · show i.toNat = i.toNat * 1 + 0
    omega
  · intro j u hu
    have hj : j = 0 := by
      rcases j with _ | j
      · rfl
      · simp at hu
    subst hj
    simp at hu
    subst hu
    have h2 : (⟨gr, 0, none⟩ : Addr).add i.toNat = ⟨gr, i.toNat, none⟩ := by unfold Addr.add; split <;> simp_all
    rw [h2] at hcell
    show W.cell? ⟨gr, i.toNat * 1 + 0, none⟩ = _
    rw [Nat.mul_one, Nat.add_zero]
    exact hcell
  · rfl
theorem cut_bytes {W : World} {A : Option Addr} {n c : Nat} {l : List Int} (h : Bytes W (.slice A n c) l) (k : Nat) (h1 : k ≤ l.length) : Bytes W (.slice A k c) (l.take k) := by
  obtain ⟨A', c', hv, hC, hc⟩ := h
  cases hv
  have hk : (l.take k).length = k := by rw [List.length_take]; omega
  refine ⟨A, c, by rw [hk], Kd.C_take hC h1, by omega⟩
theorem set_bytes {l : List Int} (h : Tell.Bytes l) (i : Nat) (y : Int) (h0 : 0 ≤ y) (h1 : y ≤ 255) : Tell.Bytes (l.set i y) := fun x hx => by
  rcases List.mem_or_eq_of_mem_set hx with hx | rfl
  · exact h x hx
  · exact ⟨h0, h1⟩
def Drawn (w : World) (e : Ending) (w' : World) : Prop := ∃ v l, e = .returned v ∧ Bytes w' v l ∧ Tell.Bytes l ∧ l.length ≤ 1000 ∧ Below w.heap.size w w'

set_option maxHeartbeats 4000000 in
set_option maxRecDepth 100000 in
theorem c_DrawKeptBack (l0 : List Int) (A0 : Option Addr) (c0 : Nat) (w : World) (hC : (Kd.int .u8).C w A0 l0.length l0) (hc : l0.length ≤ c0) (hb : Tell.Bytes l0) (hl : l0.length ≤ 1048576) : Calls Try.prog 21 #[.slice A0 l0.length c0] w (Drawn w) := by
  have HS := Aside0.mk (Priv.nil w)
  have HC := Aside0.mk hC
  clear hC
  go_enter Try.func21, Try.ntmps21
  go_wp2_with fail
  go_at_call 40
  refine (c_open HS.out (by intro x hx; cases hx) HC.out hc hb hl).mono ?_
  rintro e_ W_ ⟨v_, rfl, ⟨g, b, rfl, hbb, hbl, HR, hne⟩, HP⟩
  clear HS; have HS := Aside0.mk HP; clear HP
  go_wp2_with fail
  go_at_call 39
  refine (c_l19Mem HR hbb hbl (by decide)).mono ?_
  rintro e_ W2_ ⟨v_, rfl, ⟨m, rfl, wf⟩, HR2⟩
  clear HS HC HR
  go_wp2_with fail
  go_at_call 7
  refine (c_specKeptMake m wf _).mono ?_
  rintro e_ W3_ ⟨v, rfl, hR, hB⟩
  obtain ⟨gr, cr, rfl, hgr1, hgr2, hgr3⟩ := Kd.R_form hR (by rw [keptBytes_length]; decide)
  rw [keptBytes_length] at hR ⊢
  have hcr : 134 ≤ cr := by have h := (Kd.R_reads' hR).2.1; omega
  have HD := Aside0.mk (Dr.begin HR2 hR hB)
  clear HR2 hR hB
  have hlen := keptBytes_length m
  have hbs := keptBytes_bytes m
  go_wp2_with ((first | ((with_reducible refine gate_dst (N := 12) rfl ?_); refine call_anyR rfl rfl Try.func42 (by kernel_rfl) rfl (by (try simp only [List.map_toArray, List.map_cons, List.map_nil]); first | done | rfl) (c_pickD HD.out hbb hbl (by decide) 6 (by decide) (by decide)) ?_; rintro v_ W_ ⟨⟨r12, rfl, h12a, h12b⟩, HP⟩; clear HD; have HD := Aside0.mk HP; clear HP) | ((with_reducible refine gate_dst (N := 24) rfl ?_); refine ev_litD HD.out rfl rfl (by first | (go_simp; done) | (go_simp; rfl)) ?_; intro v24_ W_ HP HO_ HC_; clear HD; have HS := Aside0.mk HP; clear HP; have HO := Aside0.mk HO_; clear HO_; have HC := Aside0.mk HC_; clear HC_) | ((with_reducible refine gate_dst (N := 25) rfl ?_); refine ev_append HS.out HO.out HC.out rfl rfl Try.underlying37 inf5 rfl rfl (by rw [hlen]; simp) ?_; intro v25_ W_ HP HO_; clear HC HS HO; have HS := Aside0.mk HP; clear HP; have HO := Aside0.mk HO_; clear HO_) | ((with_reducible refine gate_dst (N := 19) rfl ?_); refine call_anyR rfl rfl Try.func42 (by kernel_rfl) rfl (by (try simp only [List.map_toArray, List.map_cons, List.map_nil]); first | done | rfl) (c_pickD HD.out hbb hbl (by decide) 134 (by decide) (by decide)) ?_; rintro v_ W_ ⟨⟨r19, rfl, h19a, h19b⟩, HP⟩; clear HD; have HD := Aside0.mk HP; clear HP) | ((with_reducible refine gate_dst (N := 31) rfl ?_); refine call_anyR rfl rfl Try.func42 (by kernel_rfl) rfl (by (try simp only [List.map_toArray, List.map_cons, List.map_nil]); first | done | rfl) (c_pickD HD.out hbb hbl (by decide) 134 (by decide) (by decide)) ?_; rintro v_ W_ ⟨⟨r31, rfl, h31a, h31b⟩, HP⟩; clear HD; have HD := Aside0.mk HP; clear HP) | ((with_reducible refine gate_dst (N := 35) rfl ?_); refine Kd.R_lit (Kd.int .i64) _ 3 ?hg (N := 35) ?hd (xs := ([0, 1, 2, 3, 4, 255] : List Int)) (inner := [.int .i64 0, .int .i64 1, .int .i64 2, .int .i64 3, .int .i64 4, .int .i64 255]) (ok := fun _ => True) (okp := fun _ => True) ?hr ?hp (fun _ hk => hk) trivial (Below.refl _ _) (Nat.le_refl _) (by simp) ?_; (case hd => rfl); (case hg => rfl); (case hr => first | (go_simp; done) | (go_simp; rfl)); (case hp => exact (Reps.one (show Kd.M (Kd.int .i64) _ _ _ 0 [.int .i64 0] from rfl) (Reps.one (show Kd.M (Kd.int .i64) _ _ _ 1 [.int .i64 1] from rfl) (Reps.one (show Kd.M (Kd.int .i64) _ _ _ 2 [.int .i64 2] from rfl) (Reps.one (show Kd.M (Kd.int .i64) _ _ _ 3 [.int .i64 3] from rfl) (Reps.one (show Kd.M (Kd.int .i64) _ _ _ 4 [.int .i64 4] from rfl) (Reps.one (show Kd.M (Kd.int .i64) _ _ _ 255 [.int .i64 255] from rfl) (Reps.none _ _)))))))); intro v35_ W_ ho35_ hb_ hg_ hnew_; clear hg_ hnew_; have HP := Dr.call HD.out hb_; clear hb_; clear HD; have HD := Aside0.mk HP; clear HP; have HO := Aside0.mk ho35_; clear ho35_) | ((with_reducible refine gate_dst (N := 36) rfl ?_); refine call_anyR rfl rfl Try.func43 (by kernel_rfl) rfl (by (try simp only [List.map_toArray, List.map_cons, List.map_nil]); first | done | rfl) (c_numD HD.out hbb hbl (by decide) HO.out (by simp) (by simp)) ?_; rintro v_ W_ ⟨⟨r36, rfl, h36a⟩, HP⟩; clear HD; have HD := Aside0.mk HP; clear HP; (try simp only [Act.put, List.setIfInBounds_toArray, List.set_cons_zero, List.set_cons_succ]); clear HO) | ((with_reducible refine gate_store (t := 5) (p := 38) rfl ?_); refine sto8 HD.out rfl rfl rfl rfl rfl h31a h31b ?_; intro W_ HO_ HB_; clear HD; have HO := Aside0.mk HO_; clear HO_; have HB := Aside0.mk HB_; clear HB_)); (try simp only [Act.put, List.setIfInBounds_toArray, List.set_cons_zero, List.set_cons_succ]))
  · go_ret
    refine ⟨_, _, rfl, cut_bytes HD.out.bytes r19.toNat (by omega), fun x hx => hbs x (List.mem_of_mem_take hx), by rw [List.length_take]; omega, HD.out.pr.pr.below⟩
  · go_ret
    refine ⟨_, _, rfl, Bytes.of_R HO.out, ?_, by rw [List.length_append, hlen]; decide, HS.out.below⟩
    intro x hx
    rcases List.mem_append.1 hx with hx | hx
    · exact hbs x hx
    · rw [List.mem_singleton] at hx; subst hx; decide
  · go_ret
    exact ⟨_, _, rfl, Bytes.of_R HO.out, set_bytes hbs _ _ (by omega) (by omega), by rw [List.length_set]; omega, HB.out⟩
  · go_ret
    exact ⟨_, _, rfl, HD.out.bytes, hbs, by omega, HD.out.pr.pr.below⟩



open QKept QBack
theorem le2_inj {x y : Int} (hx : 0 ≤ x ∧ x < 65536) (hy : 0 ≤ y ∧ y < 65536) (h : le 2 x = le 2 y) : x = y := by
  simp only [le_succ, le_zero, List.cons.injEq, and_true] at h
  omega
theorem le4_inj {x y : Int} (hx : 0 ≤ x ∧ x < 4294967296) (hy : 0 ≤ y ∧ y < 4294967296) (h : le 4 x = le 4 y) : x = y := by
  simp only [le_succ, le_zero, List.cons.injEq, and_true] at h
  omega
theorem flags_inj {a b c d : Bool} (h : flags a b = flags c d) : a = c ∧ b = d := by
  revert h; cases a <;> cases b <;> cases c <;> cases d <;> decide
theorem tB_inj (T T' : Nat → Bool × Int) : ∀ k, (∀ j, j < k → (0 ≤ (T j).2 ∧ (T j).2 < 65536) ∧ (0 ≤ (T' j).2 ∧ (T' j).2 < 65536)) → tB T k = tB T' k → ∀ j, j < k → T j = T' j
  | 0, _, _ => fun j hj => by omega
  | k + 1, hr, h => by
    simp only [tB, le1f] at h
    obtain ⟨h1, h2⟩ := List.append_inj h (by simp [tB_length])
    obtain ⟨h3, h4⟩ := List.append_inj h1 (by simp [tB_length])
    intro j hj
    by_cases hjk : j < k
    · exact tB_inj T T' k (fun j hj => hr j (by omega)) h3 j hjk
    · obtain rfl : j = k := by omega
      have e2 := le2_inj (hr j hj).1 (hr j hj).2 h2
      have e1 := (flags_inj (List.cons.inj h4).1).1
      exact Prod.ext e1 e2
theorem cB_inj (T T' : Nat → Bool × Bool × Int) : ∀ k, (∀ j, j < k → (0 ≤ (T j).2.2 ∧ (T j).2.2 < 65536) ∧ (0 ≤ (T' j).2.2 ∧ (T' j).2.2 < 65536)) → cB T k = cB T' k → ∀ j, j < k → T j = T' j
  | 0, _, _ => fun j hj => by omega
  | k + 1, hr, h => by
    simp only [cB, le1f] at h
    obtain ⟨h1, h2⟩ := List.append_inj h (by simp [cB_length])
    obtain ⟨h3, h4⟩ := List.append_inj h1 (by simp [cB_length])
    intro j hj
    by_cases hjk : j < k
    · exact cB_inj T T' k (fun j hj => hr j (by omega)) h3 j hjk
    · obtain rfl : j = k := by omega
      have e2 := le2_inj (hr j hj).1 (hr j hj).2 h2
      have e1 := flags_inj (List.cons.inj h4).1
      exact Prod.ext e1.1 (Prod.ext e1.2 e2)
theorem dB_inj (D D' : Nat → Int) : ∀ k, (∀ j, j < k → (-32768 ≤ D (16 + j) ∧ D (16 + j) < 32768) ∧ (-32768 ≤ D' (16 + j) ∧ D' (16 + j) < 32768)) → dB D k = dB D' k → ∀ j, j < k → D (16 + j) = D' (16 + j)
  | 0, _, _ => fun j hj => by omega
  | k + 1, hr, h => by
    simp only [dB] at h
    obtain ⟨h1, h2⟩ := List.append_inj h (by simp [dB_length])
    intro j hj
    by_cases hjk : j < k
    · exact dB_inj D D' k (fun j hj => hr j (by omega)) h1 j hjk
    · obtain rfl : j = k := by omega
      have := hr j hj
      have e2 := le2_inj (x := (D (16 + j) + 65536) % 65536) (y := (D' (16 + j) + 65536) % 65536) (by omega) (by omega) h2
      omega
theorem kept_back (m : Mm) (wf : m.wf) (hb : ∀ x ∈ keptBytes m, 0 ≤ x ∧ x ≤ 255) : mc (pm (keptBytes m)) = mc (keptOf m) := by
  have wf2 := pm_wf (l := keptBytes m) hb
  have e := back_ok hb (keptBytes_length m) (back_bad m rfl)
  have e2 : hB (pm (keptBytes m)) ++ tB (pm (keptBytes m)).T 16 ++ cB (pm (keptBytes m)).C 16 ++ dB (pm (keptBytes m)).D 16 = hB m ++ tB m.T 16 ++ cB m.C 16 ++ dB m.D 16 := e
  obtain ⟨h1, hD⟩ := List.append_inj e2 (by simp [tB_length, cB_length, hB_length])
  obtain ⟨h2, hC⟩ := List.append_inj h1 (by simp [tB_length, hB_length])
  obtain ⟨h3, hT⟩ := List.append_inj h2 (by simp [hB_length])
  obtain ⟨hM, hS⟩ := List.append_inj h3 (by simp [le_length])
  have hM := le4_inj (by have := wf2.M; omega) (by have := wf.M; omega) hM
  have hS := le2_inj wf2.S wf.S hS
  have hT := tB_inj _ _ 16 (fun j hj => ⟨wf2.T j hj, wf.T j hj⟩) hT
  have hC := cB_inj _ _ 16 (fun j hj => ⟨wf2.C j hj, wf.C j hj⟩) hC
  have hD := dB_inj _ _ 16 (fun j hj => ⟨wf2.D _ (by omega), wf.D _ (by omega)⟩) hD
  refine mc_congr ⟨rfl, rfl, ?_, hS, rfl, rfl, rfl, rfl⟩ hT hC (fun i hi => ?_) (fun _ _ => rfl)
  · have a1 : (pm (keptBytes m)).M = gt (keptBytes m) 0 4 * 4294967296 := rfl
    rw [a1] at hM
    show gt (keptBytes m) 0 4 * 4294967296 = m.M - m.M % 4294967296
    omega
  · by_cases h : 16 ≤ i
    · have := hD (i - 16) (by omega)
      rw [show 16 + (i - 16) = i by omega] at this
      rw [this]
      show m.D i = if 16 ≤ i then m.D i else 0
      rw [if_pos h]
    · show (if 16 ≤ i then _ else 0) = if 16 ≤ i then m.D i else 0
      rw [if_neg h, if_neg h]
theorem kept_again (l : List Int) : mc (keptOf (pm l)) = mc (pm l) := by
  refine mc_congr ⟨rfl, rfl, ?_, rfl, rfl, rfl, rfl, rfl⟩ (fun _ _ => rfl) (fun _ _ => rfl) (fun i _ => ?_) (fun _ _ => rfl)
  · show gt l 0 4 * 4294967296 - gt l 0 4 * 4294967296 % 4294967296 = gt l 0 4 * 4294967296
    omega
  · show (if 16 ≤ i then (pm l).D i else 0) = (pm l).D i
    by_cases h : 16 ≤ i
    · rw [if_pos h]
    · rw [if_neg h]
      show 0 = if 16 ≤ i then _ else 0
      rw [if_neg h]


end Go.Proofs.Ytdmjdcapkjnipaa.K
