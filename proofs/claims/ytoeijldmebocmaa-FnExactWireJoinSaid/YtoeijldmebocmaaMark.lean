/- The walk of laws.markWireWordS over the true code: a row of the call's own, no two of whose elements lead to one block; whatever is not the row's stays as it was. -/
import Derived.Test.YtoeijldmebocmaaJx1
import Derived.Test.YtoeijldmebocmaaJx7
namespace Go.Proofs.Ytoeijldmebocmaa.J
open Go.RowKit Go.Proofs.YtoeijldmebocmaaW.PrintWords Go.Proofs.YtoeijldmebocmaaW.PrintLast Go.Proofs.YtoeijldmebocmaaW.PrintMore
set_option linter.unusedVariables false
set_option linter.unusedSimpArgs false

theorem wrap_add (a n : Int) : wrap64 (wrap64 a + n) = wrap64 (a + n) := by unfold wrap64; omega
theorem wrap_wrap (a : Int) : wrap64 (wrap64 a) = wrap64 a := by unfold wrap64; omega
theorem markB_at : ∀ (n i : Nat) (l : List Int) (a : Int), i + n = l.length → l.length ≤ 9223372036854775807 → wrap64 a = a → ∃ l', laws_markByteS.l0 (n + 1) l a (i : Int) = some (wrap64 (a + n), l') ∧ l'.length = l.length
  | 0, i, l, a, h, hb, ha => by
    refine ⟨l, ?_, rfl⟩
    simp only [laws_markByteS.l0]
    rw [if_neg (by omega), Int.natCast_zero, Int.add_zero, ha]
  | n + 1, i, l, a, h, hb, ha => by
    obtain ⟨l', h1, h2⟩ := markB_at n (i + 1) (l.set i (a % 256)) (wrap64 (a + 1)) (by rw [List.length_set]; omega) (by rw [List.length_set]; exact hb) (wrap_wrap _)
    refine ⟨l', ?_, by rw [h2, List.length_set]⟩
    rw [laws_markByteS.l0]
    rw [if_pos (by omega), if_pos (by omega), show wrap64 ((i : Int) + 1) = ((i + 1 : Nat) : Int) from by unfold wrap64; omega, show (i : Int).toNat = i from by omega, h1]
    have e : wrap64 (wrap64 (a + 1) + n) = wrap64 (a + ((n + 1 : Nat) : Int)) := by rw [wrap_add]; congr 1; omega
    rw [e]
theorem markB_val (l : List Int) (a : Int) (hb : l.length ≤ 9223372036854775807) (ha : wrap64 a = a) : ∃ l', laws_markByteS.f (l.length + 1) l a = some (wrap64 (a + l.length), l') ∧ l'.length = l.length := markB_at l.length 0 l a (by omega) hb ha
section
variable {P : Program} {ops : Array Oper} {rest : List Oper} {o : Oper} {a : Act} {Q : Exit → Act → World → Prop} {w0 W : World} {base g n cap o' : Nat} {ok : Nat → Prop} {xs : List S40} {i : Int}
/-- a[i].f = v, f one of the four whole numbers. -/
theorem st40 {j : Nat} {v : Int} (hN : o.dst = none) (hgd : o.guard = none) (ht : (P.info? 3).map (·.size) = some 1) (p x : Operand) (ho : o.op = .store 3 p x) (haddr : a.eval p = .pointer (some ⟨g, o', none⟩)) (hoff : o' = i.toNat * 5 + j) (hj : j < 4) (hx : a.eval x = .int .i64 v)
    (HO : Kd.S k40 40 W base ok (.slice (some ⟨g, 0, none⟩) n cap) xs) (h0 : 0 ≤ i) (hi : i < n) (HB : Below base w0 W)
    (h : ∀ w1 ys, Kd.S k40 40 w1 base ok (.slice (some ⟨g, 0, none⟩) n cap) ys → ys.map (fun y => y.f4.length) = xs.map (fun y => y.f4.length) → Below base w0 w1 → W.grownBy w1 (some g) → wpList P ops Q rest a w1) : wpList P ops Q (o :: rest) a W := by
  obtain ⟨oki, c, hcl, hM, hcc, hoki, hH⟩ := Kd.S_lend HO z40 i h0 hi
  obtain ⟨v4, rfl, hR⟩ := k40_openM hM
  have hn := (Kd.S_reads' HO).1
  have hlen : ∀ q : S40, q.f4 = (xs.getD i.toNat z40).f4 → (xs.set i.toNat q).map (fun y => y.f4.length) = xs.map (fun y => y.f4.length) := by
    intro q hq
    apply List.ext_getElem (by simp)
    intro m h1 h2
    rw [List.getElem_map, List.getElem_map, List.getElem_set]
    split
    · rename_i he
      subst he
      rw [hq, List.getD_eq_getElem?_getD, List.getElem?_eq_getElem (by simpa using h2)]
      rfl
    · rfl
  have key : ∀ q : S40, q.f4 = (xs.getD i.toNat z40).f4 → ([.int .i64 q.f0, .int .i64 q.f1, .int .i64 q.f2, .int .i64 q.f3, v4] : List Value) = [.int .i64 (xs.getD i.toNat z40).f0, .int .i64 (xs.getD i.toNat z40).f1, .int .i64 (xs.getD i.toNat z40).f2, .int .i64 (xs.getD i.toNat z40).f3, v4].take j ++ [.int .i64 v] ++ [.int .i64 (xs.getD i.toNat z40).f0, .int .i64 (xs.getD i.toNat z40).f1, .int .i64 (xs.getD i.toNat z40).f2, .int .i64 (xs.getD i.toNat z40).f3, v4].drop (j + ([.int .i64 v] : List Value).length) → wpList P ops Q (o :: rest) a W := by
    intro q hq he
    refine Kd.H_store k40 base hN hgd 3 p x ho 40 i j xs q (.int .i64 v) [.int .i64 v] _ ok oki oki haddr hoff hx rfl ht (fun y hy => by rw [List.mem_singleton] at hy; subst hy; rfl) hH h0 hi (by show j + 1 ≤ 5; omega) ?_ (fun _ hk => hk) HB (fun w1 hS hb hg => h w1 _ hS (hlen q hq) hb hg)
    rw [← he]
    exact k40_mkM W base oki q (by rw [hq]; exact hR)
  rcases j with _ | _ | _ | _ | j
  · exact key ⟨v, (xs.getD i.toNat z40).f1, (xs.getD i.toNat z40).f2, (xs.getD i.toNat z40).f3, (xs.getD i.toNat z40).f4⟩ rfl rfl
  · exact key ⟨(xs.getD i.toNat z40).f0, v, (xs.getD i.toNat z40).f2, (xs.getD i.toNat z40).f3, (xs.getD i.toNat z40).f4⟩ rfl rfl
  · exact key ⟨(xs.getD i.toNat z40).f0, (xs.getD i.toNat z40).f1, v, (xs.getD i.toNat z40).f3, (xs.getD i.toNat z40).f4⟩ rfl rfl
  · exact key ⟨(xs.getD i.toNat z40).f0, (xs.getD i.toNat z40).f1, (xs.getD i.toNat z40).f2, v, (xs.getD i.toNat z40).f4⟩ rfl rfl
  · omega
end
theorem rd_len {xs ys : List S40} (h : xs.map (fun y : S40 => y.f4.length) = ys.map (fun y : S40 => y.f4.length)) (n : Nat) : (xs.getD n z40).f4.length = (ys.getD n z40).f4.length := by
  have h3 := congrArg (fun q : List Nat => q.getD n z40.f4.length) h
  have h4 : ∀ zs : List S40, (zs.map fun y : S40 => y.f4.length).getD n z40.f4.length = (zs.getD n z40).f4.length := by
    intro zs
    simp only [List.getD_eq_getElem?_getD, List.getElem?_map]
    cases zs[n]? <;> rfl
  rw [h4, h4] at h3
  exact h3
theorem mark_lens : ∀ k (xs ys : List S40) (x i : Int), xs.map (fun y => y.f4.length) = ys.map (fun y => y.f4.length) → laws_markWireWordS.l0 k xs x i = laws_markWireWordS.l0 k ys x i
  | 0, _, _, _, _, _ => rfl
  | k + 1, xs, ys, x, i, h => by
    have hl : xs.length = ys.length := by simpa using congrArg List.length h
    have hr : i < (ys.length : Int) → 0 ≤ i → (rd_T40 xs i).f4.length = (rd_T40 ys i).f4.length := by
      intro h1 h2
      have h3 := congrArg (fun q : List Nat => q[i.toNat]?) h
      simp only [List.getElem?_map] at h3
      have a1 : i.toNat < xs.length := by omega
      have a2 : i.toNat < ys.length := by omega
      rw [List.getElem?_eq_getElem a1, List.getElem?_eq_getElem a2] at h3
      have h4 := Option.some.inj h3
      simp only [rd_T40, List.getD_eq_getElem?_getD, List.getElem?_eq_getElem a1, List.getElem?_eq_getElem a2, Option.getD_some] at h4 ⊢
      exact h4
    rw [laws_markWireWordS.l0, laws_markWireWordS.l0, hl]
    by_cases c1 : i < (ys.length : Int)
    · rw [if_pos c1, if_pos c1]
      by_cases c2 : 0 ≤ i
      · rw [if_pos c2, if_pos c2, hr c1 c2]
        exact mark_lens k xs ys _ _ h
      · rw [if_neg c2, if_neg c2]
    · rw [if_neg c1, if_neg c1]

set_option maxHeartbeats 8000000 in
set_option maxRecDepth 100000 in
theorem laws_markWireWordS.calls (k : Nat) (P0_ : Nat → Prop) (u_ : Value) (l0 : List S40) (a1 r : Int) (w0 w : World) (hB : Below w0.heap.size w0 w) (ho0 : Kd.S k40 40 w w0.heap.size P0_ u_ l0) (ha : wrap64 a1 = a1) (h : laws_markWireWordS.f k l0 a1 = some r) :
    Calls Try.prog 51 #[u_, .int .i64 a1] w fun e w' => e = .returned (.int .i64 r) ∧ Below w0.heap.size w0 w' ∧ Kept w w' (fun k_ => P0_ k_) := by
  have HS := Aside0.mk (Kd.S_mono ho0 (ok' := fun k_ => P0_ k_ ∨ w.heap.size ≤ k_) (fun k_ hk => .inl hk))
  have HK := Aside0.mk (Kept.refl w (fun k_ => P0_ k_))
  have HB := Aside0.mk hB
  have hy : l0.map (fun y : S40 => y.f4.length) = l0.map (fun y : S40 => y.f4.length) := rfl
  clear hB ho0
  have H' := Aside0.mk (show laws_markWireWordS.l0 k l0 a1 0 = some r from h)
  clear h
  go_enter Try.func51, Try.ntmps51
  go_wp2
  go_loopg [1, 5] k (fun kq v1 v5 w' => ∃ (x1 x5 : Int) (xs : List S40), v1 = .int .i64 x1 ∧ v5 = .int .i64 x5 ∧ wrap64 x1 = x1 ∧ Aside0 (laws_markWireWordS.l0 kq l0 x1 x5 = some r) ∧ Aside0 (kq ≤ k) ∧ xs.map (fun y : S40 => y.f4.length) = l0.map (fun y : S40 => y.f4.length) ∧ Aside0 (Kd.S k40 40 w' w0.heap.size (fun k_ => P0_ k_ ∨ w.heap.size ≤ k_) u_ xs) ∧ Aside0 (Below w0.heap.size w0 w') ∧ Aside0 (Kept w w' (fun k_ => P0_ k_)))
  case atStart => exact ⟨a1, 0, l0, rfl, rfl, ha, H', ⟨Nat.le_refl _⟩, rfl, HS, HB, HK⟩
  case round =>
    clear H' HS HB HK hy ha
    obtain ⟨x1, x5, xs, rfl, rfl, ha, HA, HK1, hy, HS, HB, HK⟩ := hrel
    cases gk with
    | zero => exact absurd HA.out (by simp [laws_markWireWordS.l0])
    | succ k1 =>
      have H := HA.out
      clear HA
      have hl : xs.length = l0.length := by simpa using congrArg List.length hy
      rw [← mark_lens _ _ _ _ _ hy, laws_markWireWordS.l0] at H
      obtain ⟨A0, c0, eu⟩ := Kd.S_slice HS.out
      subst eu
      by_cases c3 : x5 < (xs.length : Int)
      · rw [if_pos c3] at H
        have c3b0 : decide (x5 < (xs.length : Int)) = true := decide_eq_true c3
        by_cases c4 : 0 ≤ x5
        · rw [if_pos c4, mark_lens _ _ _ _ _ hy, show (rd_T40 xs x5).f4.length = (rd_T40 l0 x5).f4.length from rd_len hy _] at H
          have H' := Aside0.mk H
          clear H
          have c4b0 : decide (0 ≤ x5) = true := decide_eq_true c4
          obtain ⟨go, co, eo, -, -, -⟩ := Kd.S_form HS.out (by omega)
          injection eo with ea en ec
          subst ea ec
          have x50 : 0 ≤ x5 := c4
          have hlt : x5 < (xs.length : Int) := c3
          have hlt2 := Aside0.mk hlt
          have p5 := eq_true c4
          have q5 := eq_true c3
          clear c3 c4
          have hl_ := Aside0.mk hl
          clear hl
          go_upto_region 12 with (first | ((with_reducible refine gate_store (t := 3) (p := 16) rfl ?_); refine st40 (g := go) (i := x5) (j := 0) (v := x1) rfl rfl (by kernel_rfl) _ _ rfl rfl (by omega) (by decide) rfl HS.out x50 hlt HB.out ?_; intro w1_ ys_ HS2 hl2 HB2 hg2; have HK2 := Aside0.mk (Kept.of_grown (S := fun k_ => P0_ k_) hg2 HK.out (fun k_ e_ => (Kd.S_R HS.out).1 k_ e_)); clear HS HB HK; have HS := Aside0.mk HS2; have HB := Aside0.mk HB2; have HK := HK2; have hy_ := hl2.trans hy; clear HS2 HB2 HK2 hg2 hl2 hy; have hy := hy_; clear hy_) | ((with_reducible refine gate_store (t := 3) (p := 23) rfl ?_); refine st40 (g := go) (i := x5) (j := 1) (v := wrap64 (x1 + 1)) rfl rfl (by kernel_rfl) _ _ rfl rfl (by omega) (by decide) rfl HS.out x50 hlt HB.out ?_; intro w1_ ys_ HS2 hl2 HB2 hg2; have HK2 := Aside0.mk (Kept.of_grown (S := fun k_ => P0_ k_) hg2 HK.out (fun k_ e_ => (Kd.S_R HS.out).1 k_ e_)); clear HS HB HK; have HS := Aside0.mk HS2; have HB := Aside0.mk HB2; have HK := HK2; have hy_ := hl2.trans hy; clear HS2 HB2 HK2 hg2 hl2 hy; have hy := hy_; clear hy_) | ((with_reducible refine gate_store (t := 3) (p := 30) rfl ?_); refine st40 (g := go) (i := x5) (j := 2) (v := wrap64 (wrap64 (x1 + 1) + 1)) rfl rfl (by kernel_rfl) _ _ rfl rfl (by omega) (by decide) rfl HS.out x50 hlt HB.out ?_; intro w1_ ys_ HS2 hl2 HB2 hg2; have HK2 := Aside0.mk (Kept.of_grown (S := fun k_ => P0_ k_) hg2 HK.out (fun k_ e_ => (Kd.S_R HS.out).1 k_ e_)); clear HS HB HK; have HS := Aside0.mk HS2; have HB := Aside0.mk HB2; have HK := HK2; have hy_ := hl2.trans hy; clear HS2 HB2 HK2 hg2 hl2 hy; have hy := hy_; clear hy_) | ((with_reducible refine gate_store (t := 3) (p := 37) rfl ?_); refine st40 (g := go) (i := x5) (j := 3) (v := wrap64 (wrap64 (wrap64 (x1 + 1) + 1) + 1)) rfl rfl (by kernel_rfl) _ _ rfl rfl (by omega) (by decide) rfl HS.out x50 hlt HB.out ?_; intro w1_ ys_ HS2 hl2 HB2 hg2; have HK2 := Aside0.mk (Kept.of_grown (S := fun k_ => P0_ k_) hg2 HK.out (fun k_ e_ => (Kd.S_R HS.out).1 k_ e_)); clear HS HB HK; have HS := Aside0.mk HS2; have HB := Aside0.mk HB2; have HK := HK2; have hy_ := hl2.trans hy; clear HS2 HB2 HK2 hg2 hl2 hy; have hy := hy_; clear hy_))
          obtain ⟨oki, c, hcl, hM, hcc, hoki, hH⟩ := Kd.S_lend HS.out z40 x5 x50 hlt2.out
          obtain ⟨ye, hye⟩ : ∃ ye, ys_.getD x5.toNat z40 = ye := ⟨_, rfl⟩
          rw [hye] at hM
          obtain ⟨v4, rfl, hR⟩ := k40_openM hM
          obtain ⟨A4, c4, rfl⟩ := Kd.R_slice hR
          have hc4 : w1_.cell? ⟨go, x5.toNat * 5 + 4, none⟩ = some (.slice A4 ye.f4.length c4) := hcc 4 _ rfl
          have hb4 : ye.f4.length ≤ 9223372036854775807 := by
            obtain ⟨inner, hin⟩ := Kd.R_own hR
            rcases hin.2 with ⟨_, h2⟩ | ⟨_, _, _, _, _, _, h2, h3, _⟩
            · omega
            · simp only [maxLen] at h3; omega
          obtain ⟨l', hm, hl'⟩ := markB_val _ (wrap64 (wrap64 (wrap64 (wrap64 (x1 + 1) + 1) + 1) + 1)) hb4 (wrap_wrap _)
          have hlq : ((rd_T40 l0 x5).f4).length = ye.f4.length := by
            rw [← hye]
            have h3 := congrArg (fun q : List Nat => q.getD x5.toNat z40.f4.length) hy
            have h4 : ∀ zs : List S40, (zs.map fun y : S40 => y.f4.length).getD x5.toNat z40.f4.length = (zs.getD x5.toNat z40).f4.length := by
              intro zs
              simp only [List.getD_eq_getElem?_getD, List.getElem?_map]
              cases zs[x5.toNat]? <;> rfl
            rw [h4, h4] at h3
            exact h3.symm
          clear hcc hcl hM
          have HH := Aside0.mk hH
          have HR4 := Aside0.mk hR
          have Hoki := Aside0.mk hoki
          have hy2 := Aside0.mk hy
          have Hm := Aside0.mk hm
          have Hlq := Aside0.mk hlq
          have Hye := Aside0.mk hye
          clear hH hR hoki hy hm hlq hb4 HS hye
          go_wp2_with (first | ((with_reducible refine gate_callee (f := 27) rfl ?_); refine goesL_ (some 46) rfl rfl Try.func27 (by kernel_rfl) rfl #[.slice A4 ye.f4.length c4, .int .i64 (wrap64 (wrap64 (wrap64 (wrap64 (x1 + 1) + 1) + 1) + 1))] rfl (by (try simp only [List.map_toArray, List.map_cons, List.map_nil]); first | done | rfl) ?_; (with_reducible refine (laws_markByteS.calls _ oki _ _ _ _ _ w0 _ HB.out HR4.out Hm.out).mono ?_); rintro e_ W_ ⟨rfl, hr_, hb_, hk_⟩; refine ⟨_, rfl, ?_⟩))
          clear hc4
          go_roundg k1
          case measure => have := HK1.out; omega
          case rel =>
            have hset : (ys_.set x5.toNat ⟨ye.f0, ye.f1, ye.f2, ye.f3, l'⟩).map (fun y : S40 => y.f4.length) = ys_.map (fun y : S40 => y.f4.length) := by
              apply List.ext_getElem (by simp)
              intro m h1 h2
              rw [List.getElem_map, List.getElem_map, List.getElem_set]
              split
              · rename_i he
                subst he
                show l'.length = _
                rw [hl', ← Hye.out, List.getD_eq_getElem?_getD, List.getElem?_eq_getElem (by simpa using h2)]
                rfl
              · rfl
            have hS : Kd.S k40 40 W_ w0.heap.size (fun k_ => P0_ k_ ∨ w.heap.size ≤ k_) (.slice (some ⟨go, 0, none⟩) xs.length c0) (ys_.set x5.toNat ⟨ye.f0, ye.f1, ye.f2, ye.f3, l'⟩) :=
              Kd.H_back (okp := fun k_ => oki k_ ∨ w1_.heap.size ≤ k_) (Kd.H_step (Kd.H_widen HH.out) (fun k_ _ hn hlt_ => hk_.2 k_ hlt_ (fun h => hn (.inl h)))) (k40_mkM W_ w0.heap.size _ ⟨ye.f0, ye.f1, ye.f2, ye.f3, l'⟩ hr_)
                (fun k_ hk => hk.elim .inl (fun h => .inr ⟨.inr (Nat.le_trans HK.out.1 h), h⟩))
            exact ⟨_, _, _, rfl, rfl, wrap_wrap _, ⟨by have h := H'.out; rw [Hlq.out] at h; exact h⟩, ⟨by have := HK1.out; omega⟩, hset.trans hy2.out, ⟨hS⟩, ⟨hb_⟩, ⟨HK.out.then_ hk_ (fun k_ hk => (Hoki.out k_ hk).1)⟩⟩
        · rw [if_neg c4] at H
          exact absurd H (by simp)
      · rw [if_neg c3] at H
        have c3b0 : decide (x5 < (xs.length : Int)) = false := decide_eq_false c3
        clear c3
        injection H with H
        subst H
        have hl_ := Aside0.mk hl
        clear hl
        go_wp2
        go_ret
        exact ⟨rfl, HB.out, HK.out⟩

end Go.Proofs.Ytoeijldmebocmaa.J
