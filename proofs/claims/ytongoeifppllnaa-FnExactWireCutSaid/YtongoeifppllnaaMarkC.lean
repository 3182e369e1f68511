/- The walk of laws.markWireWordS over the true code: a row of the call's own, no two of whose elements lead to one block: what it leaves there, and that whatever is not the row's stays as it was; what heldWireWordS tells of what it left. -/
import Derived.Test.YtongoeifppllnaaCx8
import Derived.Test.YtongoeifppllnaaCcWireCut
namespace Go.Proofs.Ytongoeifppllnaa.C
set_option linter.unusedVariables false
set_option linter.unusedSimpArgs false
open Go Go.RowKit Go.Proofs.YtongoeifppllnaaW.PrintWords Go.Proofs.YtongoeifppllnaaW.PrintLast Go.Proofs.YtongoeifppllnaaW.PrintMore

/-- What the marks leave: bytes, a word, a row of words; the number behind it. -/
def mkB (c : Int) (n : Nat) : List Int := (List.range n).map fun (i : Nat) => (c + i) % 256
def mkw (a : Int) (y : S36) : S36 := ⟨a, a + 1, a + 2, a + 3, mkB (a + 4) y.f4.length⟩
def mkA : Int → List S36 → List S36
  | _, [] => []
  | a, y :: ys => mkw a y :: mkA (a + 4 + y.f4.length) ys
def cntA : Int → List S36 → Int
  | a, [] => a
  | a, y :: ys => cntA (a + 4 + y.f4.length) ys
theorem mkB_length (c : Int) (n : Nat) : (mkB c n).length = n := by simp [mkB]
theorem mkA_length : ∀ (a : Int) (l : List S36), (mkA a l).length = l.length
  | _, [] => rfl
  | a, y :: ys => by simp [mkA, mkA_length _ ys]
theorem mkA_snoc : ∀ (a : Int) (l : List S36) (y : S36), mkA a (l ++ [y]) = mkA a l ++ [mkw (cntA a l) y]
  | _, [], _ => rfl
  | a, x :: xs, y => by simp [mkA, cntA, mkA_snoc _ xs y]
theorem cntA_snoc : ∀ (a : Int) (l : List S36) (y : S36), cntA a (l ++ [y]) = cntA a l + 4 + y.f4.length
  | _, [], _ => rfl
  | a, x :: xs, y => by simp [cntA, cntA_snoc _ xs y]
theorem cntA_ge : ∀ (a : Int) (l : List S36), a ≤ cntA a l
  | a, [] => Int.le_refl _
  | a, y :: ys => by
    have := cntA_ge (a + 4 + y.f4.length) ys
    show a ≤ cntA (a + 4 + y.f4.length) ys
    omega
theorem cntA_le : ∀ (a : Int) (l : List S36), (∀ y ∈ l, y.f4.length ≤ 1000) → cntA a l ≤ a + 1004 * (l.length : Int)
  | a, [], _ => by show a ≤ _; simp
  | a, y :: ys, h => by
    have := cntA_le (a + 4 + y.f4.length) ys (fun z hz => h z (List.mem_cons_of_mem _ hz))
    have h1 := h y (List.mem_cons_self ..)
    show cntA (a + 4 + y.f4.length) ys ≤ _
    rw [List.length_cons]
    omega
theorem mkB_at : ∀ (n i : Nat) (l : List Int) (a : Int), i + n = l.length → l.length ≤ 2000000 → 0 ≤ a → a ≤ 4000000000 → laws_markByteS.l0 (n + 1) (mkB a i ++ l.drop i) (a + i) (i : Int) = some (a + l.length, mkB a l.length)
  | 0, i, l, a, h, hb, h0, h1 => by
    obtain rfl : i = l.length := by omega
    simp only [laws_markByteS.l0]
    rw [if_neg (by simp [mkB_length]), List.drop_length, List.append_nil]
  | n + 1, i, l, a, h, hb, h0, h1 => by
    have hlt : i < l.length := by omega
    rw [laws_markByteS.l0]
    have hs : (mkB a i ++ l.drop i).set (i : Int).toNat ((a + i) % 256) = mkB a (i + 1) ++ l.drop (i + 1) := by
      rw [Int.toNat_natCast, List.set_append_right _ _ (by rw [mkB_length]; omega), mkB_length, Nat.sub_self, List.drop_eq_getElem_cons hlt, List.set_cons_zero]
      simp [mkB, List.range_succ]
    rw [if_pos (by rw [List.length_append, mkB_length, List.length_drop]; omega), if_pos (by omega), hs, show wrap64 ((i : Int) + 1) = ((i + 1 : Nat) : Int) from by unfold wrap64; omega, show wrap64 (a + (i : Int) + 1) = a + ((i + 1 : Nat) : Int) from by unfold wrap64; omega]
    exact mkB_at n (i + 1) l a (by omega) hb h0 h1
theorem mkB_val (l : List Int) (a : Int) (hb : l.length ≤ 2000000) (h0 : 0 ≤ a) (h1 : a ≤ 4000000000) : laws_markByteS.f (l.length + 1) l a = some (a + l.length, mkB a l.length) := by
  have := mkB_at l.length 0 l a (by omega) hb h0 h1
  simpa [mkB, laws_markByteS.f] using this
/-- a[i].f = v, f one of the four whole numbers. -/
def setf : Nat → Int → S36 → S36
  | 0, v, q => ⟨v, q.f1, q.f2, q.f3, q.f4⟩
  | 1, v, q => ⟨q.f0, v, q.f2, q.f3, q.f4⟩
  | 2, v, q => ⟨q.f0, q.f1, v, q.f3, q.f4⟩
  | _, v, q => ⟨q.f0, q.f1, q.f2, v, q.f4⟩
section
variable {P : Program} {ops : Array Oper} {rest : List Oper} {o : Oper} {a : Act} {Q : Exit → Act → World → Prop} {w0 W : World} {base g n cap o' : Nat} {ok : Nat → Prop} {xs : List S36} {i : Int}
theorem st36 {j : Nat} {v : Int} (q : S36) (hN : o.dst = none) (hgd : o.guard = none) (ht : (P.info? 3).map (·.size) = some 1) (p x : Operand) (ho : o.op = .store 3 p x) (haddr : a.eval p = .pointer (some ⟨g, o', none⟩)) (hoff : o' = i.toNat * 5 + j) (hj : j < 4) (hx : a.eval x = .int .i64 v)
    (HO : Kd.S k36 36 W base ok (.slice (some ⟨g, 0, none⟩) n cap) (xs.set i.toNat q)) (h0 : 0 ≤ i) (hi : i < n) (HB : Below base w0 W)
    (h : ∀ w1, Kd.S k36 36 w1 base ok (.slice (some ⟨g, 0, none⟩) n cap) (xs.set i.toNat (setf j v q)) → Below base w0 w1 → W.grownBy w1 (some g) → wpList P ops Q rest a w1) : wpList P ops Q (o :: rest) a W := by
  obtain ⟨oki, c, hcl, hM, hcc, hoki, hH⟩ := Kd.S_lend HO z36 i h0 hi
  have hn := (Kd.S_reads' HO).1
  rw [List.length_set] at hn
  have hq : (xs.set i.toNat q).getD i.toNat z36 = q := by
    rw [List.getD_eq_getElem?_getD, List.getElem?_eq_getElem (by rw [List.length_set]; omega)]
    simp
  rw [hq] at hM
  obtain ⟨v4, rfl, hR⟩ := k36_openM hM
  have key : ∀ q2 : S36, q2.f4 = q.f4 → q2 = setf j v q → ([.int .i64 q2.f0, .int .i64 q2.f1, .int .i64 q2.f2, .int .i64 q2.f3, v4] : List Value) = [.int .i64 q.f0, .int .i64 q.f1, .int .i64 q.f2, .int .i64 q.f3, v4].take j ++ [.int .i64 v] ++ [.int .i64 q.f0, .int .i64 q.f1, .int .i64 q.f2, .int .i64 q.f3, v4].drop (j + ([.int .i64 v] : List Value).length) → wpList P ops Q (o :: rest) a W := by
    intro q2 h4 h2 he
    refine Kd.H_store k36 base hN hgd 3 p x ho 36 i j (xs.set i.toNat q) q2 (.int .i64 v) [.int .i64 v] _ ok oki oki haddr hoff hx rfl ht (fun y hy => by rw [List.mem_singleton] at hy; subst hy; rfl) hH h0 hi (by show j + 1 ≤ 5; omega) ?_ (fun _ hk => hk) HB (fun w1 hS hb hg => h w1 ?_ hb hg)
    · rw [← he]
      exact k36_mkMc W base oki q2 (by rw [h4]; exact hR)
    · rw [List.set_set, h2] at hS
      exact hS
  rcases j with _ | _ | _ | _ | j
  · exact key (setf 0 v q) rfl rfl rfl
  · exact key (setf 1 v q) rfl rfl rfl
  · exact key (setf 2 v q) rfl rfl rfl
  · exact key (setf 3 v q) rfl rfl rfl
  · omega
end
theorem mk_set (a : Int) (l : List S36) (i : Nat) (h : i < l.length) : (mkA a (l.take i) ++ l.drop i).set i (mkw (cntA a (l.take i)) l[i]) = mkA a (l.take (i + 1)) ++ l.drop (i + 1) := by
  have ht : (mkA a (l.take i)).length = i := by rw [mkA_length, List.length_take]; omega
  rw [List.set_append_right _ _ (by omega), ht, Nat.sub_self, List.drop_eq_getElem_cons h, List.set_cons_zero, List.take_succ_eq_append_getElem h, mkA_snoc, List.append_assoc]
  rfl
theorem mk_get (a : Int) (l : List S36) (i : Nat) (h : i < l.length) : (mkA a (l.take i) ++ l.drop i).set i l[i] = mkA a (l.take i) ++ l.drop i := by
  have ht : (mkA a (l.take i)).length = i := by rw [mkA_length, List.length_take]; omega
  rw [List.set_append_right _ _ (by omega), ht, Nat.sub_self, List.drop_eq_getElem_cons h, List.set_cons_zero]
set_option maxHeartbeats 8000000 in
set_option maxRecDepth 100000 in
theorem markWire (P0_ : Nat → Prop) (u_ : Value) (l0 : List S36) (w0 w : World) (hB : Below w0.heap.size w0 w) (ho0 : Kd.S k36 36 w w0.heap.size P0_ u_ l0) (hl0 : l0.length ≤ 1000) (hf : ∀ y ∈ l0, y.f4.length ≤ 1000) :
    Calls Try.prog 12 #[u_, .int .i64 1] w fun e w' => e = .returned (.int .i64 (cntA 1 l0)) ∧ Kd.S k36 36 w' w0.heap.size (fun k_ => P0_ k_ ∨ w.heap.size ≤ k_) u_ (mkA 1 l0) ∧ Below w0.heap.size w0 w' ∧ Kept w w' (fun k_ => P0_ k_) := by
  have HS := Aside0.mk (Kd.S_mono ho0 (ok' := fun k_ => P0_ k_ ∨ w.heap.size ≤ k_) (fun k_ hk => .inl hk))
  have HK := Aside0.mk (Kept.refl w (fun k_ => P0_ k_))
  have HB := Aside0.mk hB
  clear hB ho0
  go_enter Try.func12, Try.ntmps12
  go_wp2
  go_loopg [1, 5] (l0.length + 1) (fun kq v1 v5 w' => ∃ (i : Nat), kq + i = l0.length + 1 ∧ i ≤ l0.length ∧ v1 = .int .i64 (cntA 1 (l0.take i)) ∧ v5 = .int .i64 (i : Int) ∧ Aside0 (Kd.S k36 36 w' w0.heap.size (fun k_ => P0_ k_ ∨ w.heap.size ≤ k_) u_ (mkA 1 (l0.take i) ++ l0.drop i)) ∧ Aside0 (Below w0.heap.size w0 w') ∧ Aside0 (Kept w w' (fun k_ => P0_ k_)))
  case atStart => exact ⟨0, by omega, by omega, rfl, rfl, HS, HB, HK⟩
  case round =>
    clear HS HB HK
    obtain ⟨i, hki, hi, rfl, rfl, HS, HB, HK⟩ := hrel
    obtain ⟨gk_, rfl⟩ : ∃ g_, gk = g_ + 1 := ⟨gk - 1, by omega⟩
    have hxl : (mkA 1 (l0.take i) ++ l0.drop i).length = l0.length := by rw [List.length_append, mkA_length, List.length_take, List.length_drop]; omega
    obtain ⟨A0, c0, eu⟩ := Kd.S_slice HS.out
    rw [hxl] at eu
    subst eu
    by_cases c3 : i < l0.length
    · have hc3 : (i : Int) < (l0.length : Int) := by omega
      obtain ⟨y, hy⟩ : ∃ y, l0[i] = y := ⟨_, rfl⟩
      have hyf : y.f4.length ≤ 1000 := by rw [← hy]; exact hf _ (List.getElem_mem c3)
      have hcl := cntA_le 1 (l0.take i) (fun z hz => hf z (List.mem_of_mem_take hz))
      have hcg := cntA_ge 1 (l0.take i)
      rw [List.length_take] at hcl
      obtain ⟨ct, hct⟩ : ∃ ct, cntA 1 (l0.take i) = ct := ⟨_, rfl⟩
      rw [hct] at hcl hcg
      rw [hct]
      have hct1 : 1 ≤ ct := hcg
      have hct2 : ct ≤ 1100000 := by omega
      clear hcl hcg
      have hs0 := HS.out
      rw [← mk_get 1 l0 i c3, hy] at hs0
      clear HS
      obtain ⟨xs, hxs⟩ : ∃ xs, mkA 1 (l0.take i) ++ l0.drop i = xs := ⟨_, rfl⟩
      rw [hxs] at hs0 hxl
      have HS : Aside0 (Kd.S k36 36 wr w0.heap.size (fun k_ => P0_ k_ ∨ w.heap.size ≤ k_) (.slice A0 l0.length c0) (xs.set (i : Int).toNat y)) := ⟨hs0⟩
      clear hs0
      have hxs2 := Aside0.mk hxs
      clear hxs
      have hlx : (xs.set (i : Int).toNat y).length = l0.length := by rw [List.length_set, hxl]
      obtain ⟨go, co, eo, -, -, -⟩ := Kd.S_form HS.out (by omega)
      injection eo with ea en ec
      subst ea ec
      have hlt : (i : Int) < (l0.length : Int) := hc3
      have Hlt := Aside0.mk hlt
      have Hxl := Aside0.mk hxl
      clear hxl hlx en
      go_upto_region 12 with (first | ((with_reducible refine gate_store (t := 3) (p := 16) rfl ?_); refine st36 (g := go) (i := (i : Int)) (j := 0) (v := ct) y rfl rfl (by kernel_rfl) _ _ rfl rfl (by omega) (by decide) rfl HS.out (by omega) hlt HB.out ?_; intro w1_ HS2 HB2 hg2; have HK2 := Aside0.mk (Kept.of_grown (S := fun k_ => P0_ k_) hg2 HK.out (fun k_ e_ => (Kd.S_R HS.out).1 k_ e_)); clear HS HB HK; have HS := Aside0.mk HS2; have HB := Aside0.mk HB2; have HK := HK2; clear HS2 HB2 HK2 hg2) | ((with_reducible refine gate_store (t := 3) (p := 23) rfl ?_); refine st36 (g := go) (i := (i : Int)) (j := 1) (v := ct + 1) (setf 0 ct y) rfl rfl (by kernel_rfl) _ _ rfl rfl (by omega) (by decide) rfl HS.out (by omega) hlt HB.out ?_; intro w1_ HS2 HB2 hg2; have HK2 := Aside0.mk (Kept.of_grown (S := fun k_ => P0_ k_) hg2 HK.out (fun k_ e_ => (Kd.S_R HS.out).1 k_ e_)); clear HS HB HK; have HS := Aside0.mk HS2; have HB := Aside0.mk HB2; have HK := HK2; clear HS2 HB2 HK2 hg2) | ((with_reducible refine gate_store (t := 3) (p := 30) rfl ?_); refine st36 (g := go) (i := (i : Int)) (j := 2) (v := ct + 1 + 1) (setf 1 (ct + 1) (setf 0 ct y)) rfl rfl (by kernel_rfl) _ _ rfl rfl (by omega) (by decide) rfl HS.out (by omega) hlt HB.out ?_; intro w1_ HS2 HB2 hg2; have HK2 := Aside0.mk (Kept.of_grown (S := fun k_ => P0_ k_) hg2 HK.out (fun k_ e_ => (Kd.S_R HS.out).1 k_ e_)); clear HS HB HK; have HS := Aside0.mk HS2; have HB := Aside0.mk HB2; have HK := HK2; clear HS2 HB2 HK2 hg2) | ((with_reducible refine gate_store (t := 3) (p := 37) rfl ?_); refine st36 (g := go) (i := (i : Int)) (j := 3) (v := ct + 1 + 1 + 1) (setf 2 (ct + 1 + 1) (setf 1 (ct + 1) (setf 0 ct y))) rfl rfl (by kernel_rfl) _ _ rfl rfl (by omega) (by decide) rfl HS.out (by omega) hlt HB.out ?_; intro w1_ HS2 HB2 hg2; have HK2 := Aside0.mk (Kept.of_grown (S := fun k_ => P0_ k_) hg2 HK.out (fun k_ e_ => (Kd.S_R HS.out).1 k_ e_)); clear HS HB HK; have HS := Aside0.mk HS2; have HB := Aside0.mk HB2; have HK := HK2; clear HS2 HB2 HK2 hg2))
      obtain ⟨oki, c, hcl, hM, hcc, hoki, hH⟩ := Kd.S_lend HS.out z36 (i : Int) (by omega) Hlt.out
      have hgd : (xs.set (i : Int).toNat (setf 3 (ct + 1 + 1 + 1) (setf 2 (ct + 1 + 1) (setf 1 (ct + 1) (setf 0 ct y))))).getD (i : Int).toNat z36 = ⟨ct, ct + 1, ct + 1 + 1, ct + 1 + 1 + 1, y.f4⟩ := by
        rw [List.getD_eq_getElem?_getD, List.getElem?_eq_getElem (by rw [List.length_set, Int.toNat_natCast, Hxl.out]; exact c3)]
        simp [setf]
      rw [hgd] at hM
      obtain ⟨v4, rfl, hR⟩ := k36_openM hM
      obtain ⟨A4, c4, rfl⟩ := Kd.Rc_slice hR
      have hc4 : w1_.cell? ⟨go, i * 5 + 4, none⟩ = some (.slice A4 y.f4.length c4) := by
        have h_ := hcc 4 _ rfl
        rwa [Int.toNat_natCast] at h_
      have Hm := Aside0.mk (mkB_val y.f4 (ct + 1 + 1 + 1 + 1) (by omega) (by omega) (by omega))
      clear hcc hcl hM
      have HH := Aside0.mk hH
      have HR4 := Aside0.mk hR
      have Hoki := Aside0.mk hoki
      have Hgd := Aside0.mk hgd
      clear hH hR hoki hgd HS
      go_wp2_with (first | ((with_reducible refine gate_callee (f := 11) rfl ?_); refine goesL_ (some 46) rfl rfl Try.func11 (by kernel_rfl) rfl #[.slice A4 y.f4.length c4, .int .i64 (ct + 1 + 1 + 1 + 1)] rfl (by (try simp only [List.map_toArray, List.map_cons, List.map_nil]); first | done | rfl) ?_; (with_reducible refine (laws_markByteS.callsC _ oki _ _ _ _ _ w0 _ HB.out HR4.out Hm.out).mono ?_); rintro e_ W_ ⟨rfl, hr_, hb_, hk_⟩; refine ⟨_, rfl, ?_⟩))
      clear hc4
      go_roundg gk_
      case measure => omega
      case rel =>
        have hS : Kd.S k36 36 W_ w0.heap.size (fun k_ => P0_ k_ ∨ w.heap.size ≤ k_) (.slice (some ⟨go, 0, none⟩) l0.length c0) ((xs.set (i : Int).toNat (setf 3 (ct + 1 + 1 + 1) (setf 2 (ct + 1 + 1) (setf 1 (ct + 1) (setf 0 ct y))))).set (i : Int).toNat ⟨ct, ct + 1, ct + 1 + 1, ct + 1 + 1 + 1, mkB (ct + 1 + 1 + 1 + 1) y.f4.length⟩) :=
          Kd.H_back (okp := fun k_ => oki k_ ∨ w1_.heap.size ≤ k_) (Kd.H_step (Kd.H_widen HH.out) (fun k_ _ hn hlt_ => hk_.2 k_ hlt_ (fun h => hn (.inl h)))) (k36_mkMc W_ w0.heap.size _ ⟨ct, ct + 1, ct + 1 + 1, ct + 1 + 1 + 1, mkB (ct + 1 + 1 + 1 + 1) y.f4.length⟩ hr_)
            (fun k_ hk => hk.elim .inl (fun h => .inr ⟨.inr (Nat.le_trans HK.out.1 h), h⟩))
        have hfin : (xs.set (i : Int).toNat (setf 3 (ct + 1 + 1 + 1) (setf 2 (ct + 1 + 1) (setf 1 (ct + 1) (setf 0 ct y))))).set (i : Int).toNat ⟨ct, ct + 1, ct + 1 + 1, ct + 1 + 1 + 1, mkB (ct + 1 + 1 + 1 + 1) y.f4.length⟩ = mkA 1 (l0.take (i + 1)) ++ l0.drop (i + 1) := by
          rw [List.set_set, Int.toNat_natCast, ← hxs2.out, ← mk_set 1 l0 i c3, hct, hy]
          congr 1
          unfold mkw
          rw [show ct + 1 + 1 = ct + 2 by omega, show ct + 2 + 1 = ct + 3 by omega, show ct + 3 + 1 = ct + 4 by omega]
        rw [hfin] at hS
        exact ⟨i + 1, by omega, by omega, by rw [List.take_succ_eq_append_getElem c3, cntA_snoc, hct, hy]; congr 1; omega, by congr 1, ⟨hS⟩, ⟨hb_⟩, ⟨HK.out.then_ hk_ (fun k_ hk => (Hoki.out k_ hk).1)⟩⟩
    · obtain rfl : i = l0.length := by omega
      have hc3 : ¬ ((l0.length : Int) < (l0.length : Int)) := by omega
      have HS2 : Aside0 (Kd.S k36 36 wr w0.heap.size (fun k_ => P0_ k_ ∨ w.heap.size ≤ k_) (.slice A0 l0.length c0) (mkA 1 l0)) := ⟨by have := HS.out; rwa [List.take_length, List.drop_length, List.append_nil] at this⟩
      clear HS
      go_wp2
      go_ret
      exact ⟨rfl, HS2.out, HB.out, HK.out⟩
end Go.Proofs.Ytongoeifppllnaa.C
