/- The walk of laws.markInstS over the true code: a row of the call's own, no two of whose elements lead to one block; whatever is not the row's stays as it was. -/
import Derived.Test.YtpehcdeaboagbaaQx6
namespace Go.Proofs.Ytpehcdeaboagbaa.Q
open Go.RowKit Go.Proofs.YtpehcdeaboagbaaW.PrintWords Go.Proofs.YtpehcdeaboagbaaW.PrintLast Go.Proofs.YtpehcdeaboagbaaW.PrintMore
set_option linter.unusedVariables false
set_option linter.unusedSimpArgs false

theorem mark_blk {w W : World} {S : Nat → Prop} {g : Nat} {b : Obj} (h : Kept w W S) (hb : w.heap[g]? = some b) (hn : ¬ S g) : W.heap[g]? = some b := (h.2 g (by obtain ⟨h1, _⟩ := Array.getElem?_eq_some_iff.mp hb; exact h1) hn).trans hb
theorem wrap_wrap (a : Int) : wrap64 (wrap64 a) = wrap64 a := by unfold wrap64; omega
theorem markD_at : ∀ (n i : Nat) (l : List S54) (a : Int), i + n = l.length → l.length ≤ 9223372036854775807 → wrap64 a = a → ∃ l', laws_markDevArgS.l0 (n + 1) l a (i : Int) = some (wrap64 (a + 3 * n), l') ∧ l'.length = l.length
  | 0, i, l, a, h, hb, ha => by
    refine ⟨l, ?_, rfl⟩
    simp only [laws_markDevArgS.l0]
    rw [if_neg (by omega), Int.natCast_zero, Int.mul_zero, Int.add_zero, ha]
  | n + 1, i, l, a, h, hb, ha => by
    obtain ⟨z, hz, hzl⟩ : ∃ z : List S54, laws_markDevArgS.l0 (n + 1 + 1) l a (i : Int) = laws_markDevArgS.l0 (n + 1) z (wrap64 (wrap64 (wrap64 (a + 1) + 1) + 1)) ((i + 1 : Nat) : Int) ∧ z.length = l.length := by
      rw [laws_markDevArgS.l0, if_pos (by omega), if_pos (by omega), Option.bind_some, Option.bind_some, show wrap64 ((i : Int) + 1) = ((i + 1 : Nat) : Int) from by unfold wrap64; omega]
      exact ⟨_, rfl, by rw [List.length_set, List.length_set, List.length_set]⟩
    obtain ⟨l', h1, h2⟩ := markD_at n (i + 1) z (wrap64 (wrap64 (wrap64 (a + 1) + 1) + 1)) (by omega) (by omega) (wrap_wrap _)
    refine ⟨l', ?_, by rw [h2, hzl]⟩
    rw [hz, h1]
    have e : wrap64 (wrap64 (wrap64 (wrap64 (a + 1) + 1) + 1) + 3 * (n : Int)) = wrap64 (a + 3 * ((n + 1 : Nat) : Int)) := by unfold wrap64; omega
    rw [e]
theorem markD_val (l : List S54) (a : Int) (hb : l.length ≤ 9223372036854775807) (ha : wrap64 a = a) : ∃ l', laws_markDevArgS.f (l.length + 1) l a = some (wrap64 (a + wrap64 ((l.length : Int) * 3)), l') ∧ l'.length = l.length := by
  obtain ⟨l', h1, h2⟩ := markD_at l.length 0 l a (by omega) hb ha
  refine ⟨l', ?_, h2⟩
  have e : wrap64 (a + wrap64 ((l.length : Int) * 3)) = wrap64 (a + 3 * (l.length : Int)) := by unfold wrap64; omega
  rw [e]
  exact h1
section
variable {P : Program} {ops : Array Oper} {rest : List Oper} {o : Oper} {a : Act} {Q : Exit → Act → World → Prop} {w0 W : World} {base g n cap o' : Nat} {ok : Nat → Prop} {xs : List S52} {i : Int}
/-- a[i].f = v, f one of the two whole numbers. -/
theorem st52 {j : Nat} {v : Int} (hN : o.dst = none) (hgd : o.guard = none) (ht : (P.info? 3).map (·.size) = some 1) (p x : Operand) (ho : o.op = .store 3 p x) (haddr : a.eval p = .pointer (some ⟨g, o', none⟩)) (hoff : o' = i.toNat * 3 + j) (hj : j < 2) (hx : a.eval x = .int .i64 v)
    (HO : Kd.S k52 52 W base ok (.slice (some ⟨g, 0, none⟩) n cap) xs) (h0 : 0 ≤ i) (hi : i < n) (HB : Below base w0 W)
    (h : ∀ w1 ys, Kd.S k52 52 w1 base ok (.slice (some ⟨g, 0, none⟩) n cap) ys → ys.map (fun y => y.f1.f1.length) = xs.map (fun y => y.f1.f1.length) → Below base w0 w1 → W.grownBy w1 (some g) → wpList P ops Q rest a w1) : wpList P ops Q (o :: rest) a W := by
  obtain ⟨oki, c, hcl, hM, hcc, hoki, hH⟩ := Kd.S_lend HO z52 i h0 hi
  obtain ⟨v4, rfl, hR⟩ := k52_openM hM
  have hlen : ∀ q : S52, q.f1.f1 = (xs.getD i.toNat z52).f1.f1 → (xs.set i.toNat q).map (fun y => y.f1.f1.length) = xs.map (fun y => y.f1.f1.length) := by
    intro q hq
    apply List.ext_getElem (by simp)
    intro m h1 h2
    rw [List.getElem_map, List.getElem_map, List.getElem_set]
    split
    · rename_i he
      subst he
      rw [hq, List.getD_eq_getElem?_getD, List.getElem?_eq_getElem (by simpa using h2)]
      rfl
    · rfl
  have key : ∀ q : S52, q.f1.f1 = (xs.getD i.toNat z52).f1.f1 → ([.int .i64 q.f0, .int .i64 q.f1.f0, v4] : List Value) = [.int .i64 (xs.getD i.toNat z52).f0, .int .i64 (xs.getD i.toNat z52).f1.f0, v4].take j ++ [.int .i64 v] ++ [.int .i64 (xs.getD i.toNat z52).f0, .int .i64 (xs.getD i.toNat z52).f1.f0, v4].drop (j + ([.int .i64 v] : List Value).length) → wpList P ops Q (o :: rest) a W := by
    intro q hq he
    refine Kd.H_store k52 base hN hgd 3 p x ho 52 i j xs q (.int .i64 v) [.int .i64 v] _ ok oki oki haddr hoff hx rfl ht (fun y hy => by rw [List.mem_singleton] at hy; subst hy; rfl) hH h0 hi (by show j + 1 ≤ 3; omega) ?_ (fun _ hk => hk) HB (fun w1 hS hb hg => h w1 _ hS (hlen q hq) hb hg)
    rw [← he]
    exact k52_mkM W base oki q (by rw [hq]; exact hR)
  rcases j with _ | _ | j
  · exact key ⟨v, (xs.getD i.toNat z52).f1⟩ rfl rfl
  · exact key ⟨(xs.getD i.toNat z52).f0, ⟨v, (xs.getD i.toNat z52).f1.f1⟩⟩ rfl rfl
  · omega
end
theorem rd_len {xs ys : List S52} (h : xs.map (fun y : S52 => y.f1.f1.length) = ys.map (fun y : S52 => y.f1.f1.length)) (n : Nat) : (xs.getD n z52).f1.f1.length = (ys.getD n z52).f1.f1.length := by
  have h3 := congrArg (fun q : List Nat => q.getD n z52.f1.f1.length) h
  have h4 : ∀ zs : List S52, (zs.map fun y : S52 => y.f1.f1.length).getD n z52.f1.f1.length = (zs.getD n z52).f1.f1.length := by
    intro zs
    simp only [List.getD_eq_getElem?_getD, List.getElem?_map]
    cases zs[n]? <;> rfl
  rw [h4, h4] at h3
  exact h3
theorem mark_lens : ∀ k (xs ys : List S52) (x i : Int), xs.map (fun y => y.f1.f1.length) = ys.map (fun y => y.f1.f1.length) → laws_markInstS.l0 k xs x i = laws_markInstS.l0 k ys x i
  | 0, _, _, _, _, _ => rfl
  | k + 1, xs, ys, x, i, h => by
    have hl : xs.length = ys.length := by simpa using congrArg List.length h
    have hr : (rd_T52 xs i).f1.f1.length = (rd_T52 ys i).f1.f1.length := rd_len h _
    rw [laws_markInstS.l0, laws_markInstS.l0, hl, hr]
    by_cases c1 : i < (ys.length : Int)
    · rw [if_pos c1, if_pos c1]
      by_cases c2 : 0 ≤ i
      · rw [if_pos c2, if_pos c2]
        exact mark_lens k xs ys _ _ h
      · rw [if_neg c2, if_neg c2]
    · rw [if_neg c1, if_neg c1]

set_option maxHeartbeats 8000000 in
set_option maxRecDepth 100000 in
theorem laws_markInstS.calls (k : Nat) (P0_ : Nat → Prop) (u_ : Value) (l0 : List S52) (a1 r : Int) (w0 w : World) (hB : Below w0.heap.size w0 w) (ho0 : Kd.S k52 52 w w0.heap.size P0_ u_ l0) (ha : wrap64 a1 = a1) (h : laws_markInstS.f k l0 a1 = some r) :
    Calls Try.prog 14 #[u_, .int .i64 a1] w fun e w' => e = .returned (.int .i64 r) ∧ Below w0.heap.size w0 w' ∧ Kept w w' (fun k_ => P0_ k_) := by
  have HS := Aside0.mk (Kd.S_mono ho0 (ok' := fun k_ => P0_ k_ ∨ w.heap.size ≤ k_) (fun k_ hk => .inl hk))
  have HK := Aside0.mk (Kept.refl w (fun k_ => P0_ k_))
  have HB := Aside0.mk hB
  have hy : l0.map (fun y : S52 => y.f1.f1.length) = l0.map (fun y : S52 => y.f1.f1.length) := rfl
  clear hB ho0
  have H' := Aside0.mk (show laws_markInstS.l0 k l0 a1 0 = some r from h)
  clear h
  go_enter Try.func14, Try.ntmps14
  go_wp2
  go_loopg [1, 5] k (fun kq v1 v5 w' => ∃ (x1 x5 : Int) (xs : List S52), v1 = .int .i64 x1 ∧ v5 = .int .i64 x5 ∧ wrap64 x1 = x1 ∧ Aside0 (laws_markInstS.l0 kq l0 x1 x5 = some r) ∧ Aside0 (kq ≤ k) ∧ xs.map (fun y : S52 => y.f1.f1.length) = l0.map (fun y : S52 => y.f1.f1.length) ∧ Aside0 (Kd.S k52 52 w' w0.heap.size (fun k_ => P0_ k_ ∨ w.heap.size ≤ k_) u_ xs) ∧ Aside0 (Below w0.heap.size w0 w') ∧ Aside0 (Kept w w' (fun k_ => P0_ k_)))
  case atStart => exact ⟨a1, 0, l0, rfl, rfl, ha, H', ⟨Nat.le_refl _⟩, rfl, HS, HB, HK⟩
  case round =>
    clear H' HS HB HK hy ha
    obtain ⟨x1, x5, xs, rfl, rfl, ha, HA, HK1, hy, HS, HB, HK⟩ := hrel
    cases gk with
    | zero => exact absurd HA.out (by simp [laws_markInstS.l0])
    | succ k1 =>
      have H := HA.out
      clear HA
      have hl : xs.length = l0.length := by simpa using congrArg List.length hy
      rw [← mark_lens _ _ _ _ _ hy, laws_markInstS.l0] at H
      obtain ⟨A0, c0, eu⟩ := Kd.S_slice HS.out
      subst eu
      by_cases c3 : x5 < (xs.length : Int)
      · rw [if_pos c3] at H
        have c3b0 : decide (x5 < (xs.length : Int)) = true := decide_eq_true c3
        by_cases c4 : 0 ≤ x5
        · rw [if_pos c4, mark_lens _ _ _ _ _ hy, show (rd_T52 xs x5).f1.f1.length = (rd_T52 l0 x5).f1.f1.length from rd_len hy _] at H
          have H' := Aside0.mk H
          clear H
          have c4b0 : decide (0 ≤ x5) = true := decide_eq_true c4
          obtain ⟨go, co, eo, -, -, -⟩ := Kd.S_form HS.out (by omega)
          injection eo with ea en ec
          subst ea ec
          have x50 : 0 ≤ x5 := c4
          have hlt : x5 < (xs.length : Int) := c3
          have hlt2 := Aside0.mk hlt
          have p5 := eq_true c4
          have q5 := eq_true c3
          clear c3 c4
          have hl_ := Aside0.mk hl
          clear hl
          go_upto_region 8 with (first | ((with_reducible refine gate_store (t := 3) (p := 16) rfl ?_); refine st52 (g := go) (i := x5) (j := 0) (v := x1) rfl rfl (by kernel_rfl) _ _ rfl rfl (by omega) (by decide) rfl HS.out x50 hlt HB.out ?_; intro w1_ ys_ HS2 hl2 HB2 hg2; have HK2 := Aside0.mk (Kept.of_grown (S := fun k_ => P0_ k_) hg2 HK.out (fun k_ e_ => (Kd.S_R HS.out).1 k_ e_)); clear HS HB HK; have HS := Aside0.mk HS2; have HB := Aside0.mk HB2; have HK := HK2; have hy_ := hl2.trans hy; clear HS2 HB2 HK2 hg2 hl2 hy; have hy := hy_; clear hy_) | ((with_reducible refine gate_store (t := 3) (p := 24) rfl ?_); refine st52 (g := go) (i := x5) (j := 1) (v := wrap64 (x1 + 1)) rfl rfl (by kernel_rfl) _ _ rfl rfl (by omega) (by decide) rfl HS.out x50 hlt HB.out ?_; intro w1_ ys_ HS2 hl2 HB2 hg2; have HK2 := Aside0.mk (Kept.of_grown (S := fun k_ => P0_ k_) hg2 HK.out (fun k_ e_ => (Kd.S_R HS.out).1 k_ e_)); clear HS HB HK; have HS := Aside0.mk HS2; have HB := Aside0.mk HB2; have HK := HK2; have hy_ := hl2.trans hy; clear HS2 HB2 HK2 hg2 hl2 hy; have hy := hy_; clear hy_))
          obtain ⟨oki, c, hcl, hM, hcc, hoki, hH⟩ := Kd.S_lend HS.out z52 x5 x50 hlt2.out
          obtain ⟨ye, hye⟩ : ∃ ye, ys_.getD x5.toNat z52 = ye := ⟨_, rfl⟩
          rw [hye] at hM
          obtain ⟨v4, rfl, hR⟩ := k52_openM hM
          obtain ⟨A4, c4, rfl⟩ := Kd.R_slice hR
          have hc4 : w1_.cell? ⟨go, x5.toNat * 3 + 2, none⟩ = some (.slice A4 ye.f1.f1.length c4) := hcc 2 _ rfl
          have hb4 : ye.f1.f1.length ≤ 9223372036854775807 := by
            obtain ⟨inner, hin⟩ := Kd.R_own hR
            rcases hin.2 with ⟨_, h2⟩ | ⟨_, _, _, _, _, _, h2, h3, _⟩
            · omega
            · simp only [maxLen] at h3; omega
          obtain ⟨l', hm, hl'⟩ := markD_val ye.f1.f1 (wrap64 (wrap64 (x1 + 1) + 1)) hb4 (wrap_wrap _)
          have hlq : ((rd_T52 l0 x5).f1.f1).length = ye.f1.f1.length := by
            rw [← hye]
            exact (rd_len hy _).symm
          clear hcc hcl hM
          have HH := Aside0.mk hH
          have HR4 := Aside0.mk hR
          have Hoki := Aside0.mk hoki
          have hy2 := Aside0.mk hy
          have Hm := Aside0.mk hm
          have Hlq := Aside0.mk hlq
          have Hye := Aside0.mk hye
          clear hH hR hoki hy hm hlq hb4 HS hye
          go_wp2_with (first | ((with_reducible refine gate_callee (f := 31) rfl ?_); refine goesL_ (some 34) rfl rfl Try.func31 (by kernel_rfl) rfl #[.slice A4 ye.f1.f1.length c4, .int .i64 (wrap64 (wrap64 (x1 + 1) + 1))] rfl (by (try simp only [List.map_toArray, List.map_cons, List.map_nil]); first | done | rfl) ?_; (with_reducible refine (laws_markDevArgS.calls _ oki _ _ _ _ _ w0 _ HB.out HR4.out Hm.out).mono ?_); rintro e_ W_ ⟨rfl, hr_, hb_, hk_⟩; refine ⟨_, rfl, ?_⟩))
          clear hc4
          go_roundg k1
          case measure => have := HK1.out; omega
          case rel =>
            have hset : (ys_.set x5.toNat ⟨ye.f0, ⟨ye.f1.f0, l'⟩⟩).map (fun y : S52 => y.f1.f1.length) = ys_.map (fun y : S52 => y.f1.f1.length) := by
              apply List.ext_getElem (by simp)
              intro m h1 h2
              rw [List.getElem_map, List.getElem_map, List.getElem_set]
              split
              · rename_i he
                subst he
                show l'.length = _
                rw [hl', ← Hye.out, List.getD_eq_getElem?_getD, List.getElem?_eq_getElem (by simpa using h2)]
                rfl
              · rfl
            have hS : Kd.S k52 52 W_ w0.heap.size (fun k_ => P0_ k_ ∨ w.heap.size ≤ k_) (.slice (some ⟨go, 0, none⟩) xs.length c0) (ys_.set x5.toNat ⟨ye.f0, ⟨ye.f1.f0, l'⟩⟩) :=
              Kd.H_back (okp := fun k_ => oki k_ ∨ w1_.heap.size ≤ k_) (Kd.H_step (Kd.H_widen HH.out) (fun k_ _ hn hlt_ => hk_.2 k_ hlt_ (fun h => hn (.inl h)))) (k52_mkM W_ w0.heap.size _ ⟨ye.f0, ⟨ye.f1.f0, l'⟩⟩ hr_)
                (fun k_ hk => hk.elim .inl (fun h => .inr ⟨.inr (Nat.le_trans HK.out.1 h), h⟩))
            exact ⟨_, _, _, rfl, rfl, wrap_wrap _, ⟨by have h := H'.out; rw [Hlq.out] at h; exact h⟩, ⟨by have := HK1.out; omega⟩, hset.trans hy2.out, ⟨hS⟩, ⟨hb_⟩, ⟨HK.out.then_ hk_ (fun k_ hk => (Hoki.out k_ hk).1)⟩⟩
        · rw [if_neg c4] at H
          exact absurd H (by simp)
      · rw [if_neg c3] at H
        have c3b0 : decide (x5 < (xs.length : Int)) = false := decide_eq_false c3
        clear c3
        injection H with H
        subst H
        have hl_ := Aside0.mk hl
        clear hl
        go_wp2
        go_ret
        exact ⟨rfl, HB.out, HK.out⟩

end Go.Proofs.Ytpehcdeaboagbaa.Q
