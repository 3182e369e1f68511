/- spec.DrawWireJoin: its own walk: it hands back some words, to be read: no more of them and no longer than they can be. -/
import Derived.Test.YtongoeifppllnaaBitsFnWireJoin
import Derived.Test.YtongoeifppllnaaJx8
namespace Go.Proofs.Ytongoeifppllnaa.J
set_option linter.unusedVariables false
set_option linter.unusedSimpArgs false
open Go Go.RowKit Go.Proofs.Ytongoeifppllnaa.Tell Go.Proofs.Ytongoeifppllnaa.BFnWireJoin Go.Proofs.YtongoeifppllnaaW.PrintWords Go.Proofs.YtongoeifppllnaaW.PrintLast Go.Proofs.YtongoeifppllnaaW.PrintMore

/-- While the words are drawn: the reader (at p), the row of words, which is not the reader. -/
structure Dj (w : World) (g : Nat) (b : List Int) (p : Int) (v : Value) (xs : List S36) (W : World) : Prop where mk ::
  B : Below w.heap.size w W
  I : IsS58 w W g b p
  S : Kd.S k36 36 W w.heap.size (fun k => k ≠ g) v xs
theorem Dj.of {w : World} {g : Nat} {b : List Int} {p : Int} {v : Value} {xs : List S36} {W W1 : World} (hB : Below w.heap.size w W) (hI : IsS58 w W g b p) (hS : Kd.S k36 36 W1 W.heap.size (fun _ => True) v xs) (hb : Below W.heap.size W W1) : Dj w g b p v xs W1 := by
  refine ⟨below_then hB hB.size hb, hI.below hb, ?_⟩
  obtain ⟨_, _, h, _⟩ := hI
  exact Kd.S_mono (Kd.S_lower (Kd.S_newB hS h) hB.size) (fun k hk => hk.2)
theorem Dj.pick {w : World} {g : Nat} {b : List Int} {p q : Int} {v : Value} {xs : List S36} {W W1 : World} (h : Dj w g b p v xs W) (hI : IsS58 w W1 g b q) (hB : Below w.heap.size w W1) (hk : KeepBut W W1 g none) : Dj w g b q v xs W1 :=
  ⟨hB, hI, Kd.S_keep h.S hk (fun _ h => h)⟩
/-- The cells of the words. -/
theorem Dj.cells {w : World} {g : Nat} {b : List Int} {p : Int} {go n c : Nat} {xs : List S36} {W : World} (h : Dj w g b p (.slice (some ⟨go, 0, none⟩) n c) xs W) (m : Nat) (hm : m < xs.length) :
    ∃ A4 c4, W.cell? ⟨go, m * 5, none⟩ = some (.int .i64 (xs.getD m z36).f0) ∧ W.cell? ⟨go, m * 5 + 1, none⟩ = some (.int .i64 (xs.getD m z36).f1) ∧ W.cell? ⟨go, m * 5 + 2, none⟩ = some (.int .i64 (xs.getD m z36).f2) ∧ W.cell? ⟨go, m * 5 + 3, none⟩ = some (.int .i64 (xs.getD m z36).f3) ∧ W.cell? ⟨go, m * 5 + 4, none⟩ = some (.slice A4 (xs.getD m z36).f4.length c4) := by
  have hn := (Kd.S_reads' h.S).1
  obtain ⟨oki, c, _, hM, hcc, _⟩ := Kd.S_lend h.S z36 (m : Int) (by omega) (by omega)
  rw [Int.toNat_natCast] at hM hcc
  obtain ⟨v4, rfl, hR⟩ := k36_openM hM
  obtain ⟨A4, c4, rfl⟩ := Kd.R_slice hR
  exact ⟨A4, c4, hcc 0 _ rfl, hcc 1 _ rfl, hcc 2 _ rfl, hcc 3 _ rfl, hcc 4 _ rfl⟩
/-- What is handed back. -/
def Drawn (w : World) (e : Ending) (w' : World) : Prop := ∃ (A : Option Addr) (xs : List S36) (c : Nat), e = .returned (.slice A xs.length c) ∧ xs.length ≤ c ∧ Kd.C k36 w' A xs.length xs ∧ xs.length ≤ 1000 ∧ (∀ y ∈ xs, y.f4.length ≤ 1000) ∧ Below w.heap.size w w'
theorem Dj.drawn {w : World} {g : Nat} {b : List Int} {p : Int} {A : Option Addr} {c : Nat} {xs : List S36} {W : World} (h : Dj w g b p (.slice A xs.length c) xs W) (hl : xs.length ≤ 1000) (hf : ∀ y ∈ xs, y.f4.length ≤ 1000) : Drawn w (.returned (.slice A xs.length c)) W :=
  ⟨A, xs, c, rfl, (Kd.S_reads' h.S).2.1, (Kd.S_reads' h.S).2.2, hl, hf, h.B⟩

theorem Drawn.ofN {w : World} {go n c base : Nat} {ok : Nat → Prop} {ys : List S36} {W1 : World} (hN : Kd.N k36 36 W1 base ok (.slice (some ⟨go, 0, none⟩) n c) ys) (hl : ys.length ≤ 1000) (hf : ∀ y ∈ ys, y.f4.length ≤ 1000) (hB : Below w.heap.size w W1) : Drawn w (.returned (.slice (some ⟨go, 0, none⟩) n c)) W1 := by
  obtain ⟨rfl, hc, hC⟩ := Kd.N_reads' hN
  exact ⟨_, ys, c, rfl, hc, hC, hl, hf, hB⟩
theorem FK_num {W : World} {ok : Nat → Prop} {x : S36} {c : List Value} (h : Kd.FK k36 W ok x c) (v : Int) : ∃ A4 c4, c = [.int .i64 x.f0, .int .i64 x.f1, .int .i64 x.f2, .int .i64 x.f3, .slice A4 x.f4.length c4] ∧ Kd.FK k36 W ok ⟨x.f0, v, x.f2, x.f3, x.f4⟩ [.int .i64 x.f0, .int .i64 v, .int .i64 x.f2, .int .i64 x.f3, .slice A4 x.f4.length c4] := by
  obtain ⟨A4, c4, rfl, l4, g4⟩ := k36_open (Kd.FK_now h)
  refine ⟨A4, c4, rfl, fun W' hW => ?_⟩
  obtain ⟨A5, c5, e, l5, g5⟩ := k36_open (h W' hW)
  simp only [List.cons.injEq, Value.slice.injEq, and_true, true_and] at e
  obtain ⟨rfl, rfl⟩ := e
  exact k36_mk W' ⟨x.f0, v, x.f2, x.f3, x.f4⟩ l5 g5
theorem set_lens {xs : List S36} {m : Nat} {x : S36} (hf : ∀ y ∈ xs, y.f4.length ≤ 1000) (hx : x.f4.length ≤ 1000) : ∀ y ∈ xs.set m x, y.f4.length ≤ 1000 := fun y hy => by
  rcases List.mem_or_eq_of_mem_set hy with h | rfl
  · exact hf y h
  · exact hx
theorem getD_len {xs : List S36} (m : Nat) (hf : ∀ y ∈ xs, y.f4.length ≤ 1000) : (xs.getD m z36).f4.length ≤ 1000 := by
  rw [List.getD_eq_getElem?_getD]
  cases h : xs[m]? with
  | none => simp [z36]
  | some y => exact hf y (List.mem_of_getElem? h)
section
variable {P : Program} {ops : Array Oper} {rest : List Oper} {o : Oper} {a : Act} {Q : Exit → Act → World → Prop} {w W : World} {g go n c : Nat} {b : List Int} {q : Int} {xs : List S36}
/-- out[m].Number = v. -/
theorem Dj.number (h : Dj w g b q (.slice (some ⟨go, 0, none⟩) n c) xs W) (m : Nat) (hm : m < xs.length) (hl : xs.length ≤ 1000) (hf : ∀ y ∈ xs, y.f4.length ≤ 1000) {v : Int} {o' : Nat} (hN : o.dst = none) (hgd : o.guard = none) (ht : (P.info? 3).map (·.size) = some 1) (p x : Operand) (ho : o.op = .store 3 p x) (haddr : a.eval p = .pointer (some ⟨go, o', none⟩)) (hoff : o' = m * 5 + 1) (hx : a.eval x = .int .i64 v)
    (h2 : ∀ w1, Drawn w (.returned (.slice (some ⟨go, 0, none⟩) n c)) w1 → wpList P ops Q rest a w1) : wpList P ops Q (o :: rest) a W := by
  have HN := Kd.S_N h.S
  have hn := (Kd.N_reads' HN).1
  obtain ⟨cs, hcl, hFK, hcc, _⟩ := Kd.N_elem HN z36 (m : Int) (by omega) (by omega)
  obtain ⟨A4, c4, rfl, hF2⟩ := FK_num hFK v
  rw [Int.toNat_natCast] at hF2
  refine Kd.N_store k36 w.heap.size hN hgd 3 p x ho 36 (m : Int) 1 xs _ (.int .i64 v) [.int .i64 v] _ _ _ haddr (by rw [hoff, Int.toNat_natCast]; rfl) hx rfl ht (fun y hy => by rw [List.mem_singleton] at hy; subst hy; rfl) HN (by omega) (by omega) hcl hcc (by show 1 + 1 ≤ 5; omega) hF2 (fun _ hk => hk) h.B (fun w1 hr hb _ => h2 w1 ?_)
  rw [Int.toNat_natCast] at hr
  exact Drawn.ofN hr (by rw [List.length_set]; exact hl) (set_lens hf (by have := getD_len m hf; exact this)) hb
end

/-- A block of one struct, all of it stored. -/
theorem raw_box {W : World} {g base : Nat} {t : TypeId} {cs : Array Value} (hb : W.heap[g]? = some (.cells cs t (0, 0))) (hc : cs.size = 5) (h1 : ∀ u ∈ cs.toList, u.oneCell' = true) (hbase : base ≤ g) : (Kd.raw 5).R t W base (fun _ => True) (.slice (some ⟨g, 0, none⟩) 1 1) [cs.toList] := by
  have hl : cs.toList.length = 5 := by simpa using hc
  refine ⟨fun _ _ => trivial, cs.toList, ⟨by rw [hl]; rfl, .inr ⟨g, 1, cs, rfl, hbase, hb, Nat.le_refl _, by decide, by rw [hc]; rfl, ?_⟩⟩, ?_⟩
  · show cs.toList.take (1 * 5) = cs.toList
    exact List.take_of_length_le (by rw [hl]; decide)
  · refine ⟨by rw [hl]; rfl, fun j p hj => ?_⟩
    have hj0 : j = 0 := by
      cases j with
      | zero => rfl
      | succ j => simp at hj
    subst hj0
    have hp : p = cs.toList := by simpa using hj.symm
    subst hp
    have e : (cs.toList.drop (0 * (Kd.raw 5).sz)).take (Kd.raw 5).sz = cs.toList := by
      rw [Nat.zero_mul, List.drop_zero]
      exact List.take_of_length_le (by show cs.toList.length ≤ 5; omega)
    rw [e]
    exact ⟨rfl, hl, h1⟩
section
variable {P : Program} {ops : Array Oper} {rest : List Oper} {o : Oper} {a : Act} {Q : Exit → Act → World → Prop} {w0 W : World} {g base : Nat}
theorem st_box {t : TypeId} {cs : Array Value} {u : Value} {seg : List Value} (hN : o.dst = none) (hgd : o.guard = none) (p x : Operand) (ho : o.op = .store t p x) (haddr : a.eval p = .pointer (some ⟨g, 0, none⟩)) (hx : a.eval x = u) (hu : u.cells.toList = seg) (hl : seg.length = 5) (ht : (P.info? t).map (·.size) = some 5) (h1 : ∀ q ∈ seg, q.oneCell' = true)
    (hb : W.heap[g]? = some (.cells cs t (0, 0))) (hc : cs.size = 5) (h1c : ∀ u ∈ cs.toList, u.oneCell' = true) (hbase : base ≤ g) (HB : Below base w0 W)
    (h : ∀ w1, w1.heap[g]? = some (.cells seg.toArray t (0, 0)) → Below base w0 w1 → W.grownBy w1 (some g) → wpList P ops Q rest a w1) : wpList P ops Q (o :: rest) a W := by
  have hcl : cs.toList.length = 5 := by simpa using hc
  refine Kd.R_store (Kd.raw 5) base hN hgd t p x ho t (0 : Int) 0 [cs.toList] seg u seg cs.toList (fun _ => True) (fun _ => False) haddr rfl hx hu (by rw [ht, hl]) h1 (raw_box hb hc h1c hbase) (by omega) (by omega) hcl (fun j u hj => ?_) (by show 0 + seg.length ≤ 5; omega) ?_ (fun _ hk => hk.elim) HB (fun w1 hr hb1 hg => h w1 ?_ hb1 hg)
  · have e : (⟨g, (0 : Int).toNat * (Kd.raw 5).sz + j, none⟩ : Addr) = ⟨g, j, none⟩ := by simp
    rw [e, blk_cell hb]
    simpa using hj
  · have e : cs.toList.take 0 ++ seg ++ cs.toList.drop (0 + seg.length) = seg := by rw [List.take_zero, List.nil_append, List.drop_eq_nil_of_le (by omega), List.append_nil]
    rw [e]
    exact ⟨rfl, hl, h1⟩
  · obtain ⟨_, inner, ho2, hr2⟩ := hr
    rcases ho2.2 with ⟨hv, _⟩ | ⟨g2, cap, cur, hv, _, hh, _, _, hcs, htk⟩
    · cases hv
    · injection hv with e1 e2 e3
      injection e1 with e1
      injection e1 with e1 _ _
      subst e1 e3
      have hin : inner = seg := by
        have h3 := (hr2.2 0 seg (by simp)).1
        have h4 : inner.length = 5 := hr2.1
        rw [Nat.zero_mul, List.drop_zero, List.take_of_length_le (by show inner.length ≤ 5; omega)] at h3
        exact h3
      have hcl2 : cur.toList.length = 5 := by
        have : cur.size = 1 * 5 := hcs
        simpa using this
      have h5 : cur.toList = seg := by
        rw [← hin, ← htk]
        exact (List.take_of_length_le (by rw [hcl2]; show 5 ≤ 1 * 5; omega)).symm
      rw [hh, ← h5]
end
/-- An element of the words: what it leads to, its cells. -/
theorem N_cells {go n c base : Nat} {ok : Nat → Prop} {xs : List S36} {W : World} (h : Kd.N k36 36 W base ok (.slice (some ⟨go, 0, none⟩) n c) xs) (m : Nat) (hm : m < xs.length) :
    ∃ A4 c4, Kd.FK k36 W (fun k => ok k ∧ k ≠ go) (xs.getD m z36) [.int .i64 (xs.getD m z36).f0, .int .i64 (xs.getD m z36).f1, .int .i64 (xs.getD m z36).f2, .int .i64 (xs.getD m z36).f3, .slice A4 (xs.getD m z36).f4.length c4] ∧
      W.cell? ⟨go, m * 5, none⟩ = some (.int .i64 (xs.getD m z36).f0) ∧ W.cell? ⟨go, m * 5 + 1, none⟩ = some (.int .i64 (xs.getD m z36).f1) ∧ W.cell? ⟨go, m * 5 + 2, none⟩ = some (.int .i64 (xs.getD m z36).f2) ∧ W.cell? ⟨go, m * 5 + 3, none⟩ = some (.int .i64 (xs.getD m z36).f3) ∧ W.cell? ⟨go, m * 5 + 4, none⟩ = some (.slice A4 (xs.getD m z36).f4.length c4) := by
  have hn := (Kd.N_reads' h).1
  obtain ⟨cs, hcl, hFK, hcc, _⟩ := Kd.N_elem h z36 (m : Int) (by omega) (by omega)
  rw [Int.toNat_natCast] at hFK hcc
  obtain ⟨A4, c4, rfl, _⟩ := k36_open (Kd.FK_now hFK)
  exact ⟨A4, c4, hFK, hcc 0 _ rfl, hcc 1 _ rfl, hcc 2 _ rfl, hcc 3 _ rfl, hcc 4 _ rfl⟩
section
variable {P : Program} {ops : Array Oper} {rest : List Oper} {o : Oper} {a : Act} {Q : Exit → Act → World → Prop} {w W : World} {go n c : Nat} {xs : List S36} {ok : Nat → Prop}
/-- out[m] = x. -/
theorem st_word (HN : Kd.N k36 36 W w.heap.size ok (.slice (some ⟨go, 0, none⟩) n c) xs) (m : Nat) (hm : m < xs.length) (x' : S36) {u : Value} {seg : List Value} {o' : Nat} (hN : o.dst = none) (hgd : o.guard = none) (ht : (P.info? 36).map (·.size) = some 5) (p x : Operand) (ho : o.op = .store 36 p x) (haddr : a.eval p = .pointer (some ⟨go, o', none⟩)) (hoff : o' = m * 5) (hx : a.eval x = u) (hu : u.cells.toList = seg) (hl : seg.length = 5)
    (hF : Kd.FK k36 W (fun k => ok k ∧ k ≠ go) x' seg) (HB : Below w.heap.size w W)
    (h2 : ∀ w1, Kd.N k36 36 w1 w.heap.size ok (.slice (some ⟨go, 0, none⟩) n c) (xs.set m x') → Below w.heap.size w w1 → W.grownBy w1 (some go) → wpList P ops Q rest a w1) : wpList P ops Q (o :: rest) a W := by
  have hn := (Kd.N_reads' HN).1
  obtain ⟨cs, hcl, _, hcc, _⟩ := Kd.N_elem HN z36 (m : Int) (by omega) (by omega)
  have hcl5 : cs.length = 5 := hcl
  refine Kd.N_store k36 w.heap.size hN hgd 36 p x ho 36 (m : Int) 0 xs x' u seg cs ok (fun k => ok k ∧ k ≠ go) haddr (by rw [hoff, Int.toNat_natCast]; rfl) hx hu (by rw [ht, hl]) (Kd.FK_raw hF).2.2 HN (by omega) (by omega) hcl hcc (by show 0 + seg.length ≤ 5; omega) ?_ (fun _ hk => hk) HB (fun w1 hr hb hg => h2 w1 (by rw [Int.toNat_natCast] at hr; exact hr) hb hg)
  rw [List.take_zero, List.nil_append, List.drop_eq_nil_of_le (by omega), List.append_nil]
  exact hF
end

theorem Dj.lend {w : World} {g : Nat} {b : List Int} {p : Int} {go n c : Nat} {xs : List S36} {W : World} (h : Dj w g b p (.slice (some ⟨go, 0, none⟩) n c) xs W) (m : Nat) (hm : m < xs.length) :
    ∃ oki A4 c4, Kd.R (Kd.int .u8) 5 W w.heap.size oki (.slice A4 (xs.getD m z36).f4.length c4) (xs.getD m z36).f4 ∧ Kd.H k36 36 W w.heap.size (fun k => k ≠ g) (.slice (some ⟨go, 0, none⟩) n c) xs (m : Int) oki [.int .i64 (xs.getD m z36).f0, .int .i64 (xs.getD m z36).f1, .int .i64 (xs.getD m z36).f2, .int .i64 (xs.getD m z36).f3, .slice A4 (xs.getD m z36).f4.length c4] ∧
      W.cell? ⟨go, m * 5, none⟩ = some (.int .i64 (xs.getD m z36).f0) ∧ W.cell? ⟨go, m * 5 + 1, none⟩ = some (.int .i64 (xs.getD m z36).f1) ∧ W.cell? ⟨go, m * 5 + 2, none⟩ = some (.int .i64 (xs.getD m z36).f2) ∧ W.cell? ⟨go, m * 5 + 3, none⟩ = some (.int .i64 (xs.getD m z36).f3) ∧ W.cell? ⟨go, m * 5 + 4, none⟩ = some (.slice A4 (xs.getD m z36).f4.length c4) := by
  have hn := (Kd.S_reads' h.S).1
  obtain ⟨oki, c, _, hM, hcc, _, hH⟩ := Kd.S_lend h.S z36 (m : Int) (by omega) (by omega)
  rw [Int.toNat_natCast] at hM hcc
  obtain ⟨v4, rfl, hR⟩ := k36_openM hM
  obtain ⟨A4, c4, rfl⟩ := Kd.R_slice hR
  exact ⟨oki, A4, c4, hR, hH, hcc 0 _ rfl, hcc 1 _ rfl, hcc 2 _ rfl, hcc 3 _ rfl, hcc 4 _ rfl⟩

/-- What the code draws, before the words are spoilt. -/
structure Dr (l0 b : List Int) (kn kd ks ku : Nat) (n p1 : Int) (d : List Int) (p2 : Int) (xs : List S36) (bb : Bool) (u p3 : Int) : Prop where mk ::
  O : spec_l26Open.f l0 = some (b, 0)
  N : spec_l20Number.f kn b 0 = some (n, p1)
  D : spec_l20Data.f kd b p1 = some (d, p2)
  S : spec_WireCut.f ks n d = some (xs, bb)
  U : spec_l26Rd_pick.f ku b p2 2 = some (u, p3)
  L : xs.length ≤ 1000
  F : ∀ y ∈ xs, y.f4.length ≤ 1000

set_option maxHeartbeats 8000000 in
set_option maxRecDepth 100000 in
theorem draw_nil (A0 : Option Addr) (c0 : Nat) (l0 : List Int) (w : World) (hr0 : Kd.C (Kd.int .u8) w A0 l0.length l0) (hc0 : l0.length ≤ c0) (b : List Int) (kn kd ks ku : Nat) (n p1 : Int) (d : List Int) (p2 : Int) (xs : List S36) (bb : Bool) (u p3 : Int) (hD : Dr l0 b kn kd ks ku n p1 d p2 xs bb u p3) (hx : xs.length = 0) :
    Calls Try.prog 19 #[.slice A0 l0.length c0] w fun e w' => Drawn w e w' := by
  have HR := Aside0.mk hr0
  have HC := Aside0.mk hc0
  have HO := Aside0.mk hD.O
  have HN := Aside0.mk hD.N
  have HD := Aside0.mk hD.D
  have HS := Aside0.mk hD.S
  have HU := Aside0.mk hD.U
  have HL := Aside0.mk hD.L
  have HF := Aside0.mk hD.F
  have HB := Aside0.mk (Below.refl w.heap.size w)
  have hu36 := Try.underlying36
  clear hr0 hc0 hD
  have q0 : (((xs.length : Nat) : Int) == 0) = true := by rw [hx]; rfl
  have HX := Aside0.mk hx
  clear hx
  go_enter Try.func19, Try.ntmps19
  go_wp2_with (first | ((with_reducible refine gate_callee (f := 28) rfl ?_); refine goesL_ (some 10) rfl rfl Try.func28 (by kernel_rfl) rfl #[.slice A0 l0.length c0] rfl (by (try simp only [List.map_toArray, List.map_cons, List.map_nil]); first | done | rfl) ?_; refine (spec_l26Open.calls A0 c0 l0 b 0 w _ HB.out HR.out HC.out HO.out).mono ?_; rintro e w1 ⟨g, rfl, hI, hB, _⟩; refine ⟨_, rfl, ?_⟩; have HI := Aside0.mk hI; have HB1 := Aside0.mk hB; clear hI hB HB) | ((with_reducible refine gate_callee (f := 29) rfl ?_); refine goesL_ (some 13) rfl rfl Try.func29 (by kernel_rfl) rfl #[.pointer (some ⟨g, 0, none⟩)] rfl (by (try simp only [List.map_toArray, List.map_cons, List.map_nil]); first | done | rfl) ?_; refine (spec_l20Number.calls kn g b 0 n p1 w _ HI.out HB1.out HN.out).mono ?_; rintro e w2 ⟨rfl, hI, hB, _⟩; refine ⟨_, rfl, ?_⟩; have HI2 := Aside0.mk hI; have HB2 := Aside0.mk hB; clear hI hB HB1 HI) | ((with_reducible refine gate_callee (f := 32) rfl ?_); refine goesL_ (some 15) rfl rfl Try.func32 (by kernel_rfl) rfl #[.pointer (some ⟨g, 0, none⟩)] rfl (by (try simp only [List.map_toArray, List.map_cons, List.map_nil]); first | done | rfl) ?_; refine (spec_l20Data.calls kd g b p1 d p2 w _ HI2.out HB2.out HD.out).mono ?_; rintro e w3 ⟨v15, rfl, hR, hI, hB, _⟩; refine ⟨_, rfl, ?_⟩; obtain ⟨A15, c15, rfl⟩ := Kd.R_slice hR; have G15 := Aside0.mk (Kd.R_reads' hR); have HI3 := Aside0.mk hI; have HB3 := Aside0.mk hB; clear hR hI hB HB2 HI2) | ((with_reducible refine gate_callee (f := 6) rfl ?_); refine goesL_ (some 16) rfl rfl Try.func6 (by kernel_rfl) rfl #[.int .i64 n, .slice A15 d.length c15] rfl (by (try simp only [List.map_toArray, List.map_cons, List.map_nil]); first | done | rfl) ?_; refine (spec_WireCut.calls ks n A15 c15 d xs bb _ G15.out.2.2 G15.out.2.1 HS.out).mono ?_; rintro e w4 ⟨v16, rfl, hS, hb⟩; refine ⟨_, rfl, ?_⟩; obtain ⟨A4, c4, rfl⟩ := Kd.S_slice hS; have DJ := Aside0.mk (Dj.of HB3.out HI3.out hS hb); clear hS hb HB3 HI3 G15))
  go_ret
  exact DJ.out.drawn HL.out HF.out

set_option maxHeartbeats 8000000 in
set_option maxRecDepth 100000 in
theorem draw_as (A0 : Option Addr) (c0 : Nat) (l0 : List Int) (w : World) (hr0 : Kd.C (Kd.int .u8) w A0 l0.length l0) (hc0 : l0.length ≤ c0) (b : List Int) (kn kd ks ku : Nat) (n p1 : Int) (d : List Int) (p2 : Int) (xs : List S36) (bb : Bool) (u p3 : Int) (hD : Dr l0 b kn kd ks ku n p1 d p2 xs bb u p3) (hx : 0 < xs.length) (hu : u = 0) :
    Calls Try.prog 19 #[.slice A0 l0.length c0] w fun e w' => Drawn w e w' := by
  have HR := Aside0.mk hr0
  have HC := Aside0.mk hc0
  have HO := Aside0.mk hD.O
  have HN := Aside0.mk hD.N
  have HD := Aside0.mk hD.D
  have HS := Aside0.mk hD.S
  have HU := Aside0.mk hD.U
  have HL := Aside0.mk hD.L
  have HF := Aside0.mk hD.F
  have HB := Aside0.mk (Below.refl w.heap.size w)
  have hu36 := Try.underlying36
  clear hr0 hc0 hD
  have q0 : (((xs.length : Nat) : Int) == 0) = false := by rw [beq_eq_false_iff_ne]; omega
  have q1 : (u == 0) = true := by rw [hu]; rfl
  have HX := Aside0.mk hx
  go_enter Try.func19, Try.ntmps19
  go_wp2_with (first | ((with_reducible refine gate_callee (f := 28) rfl ?_); refine goesL_ (some 10) rfl rfl Try.func28 (by kernel_rfl) rfl #[.slice A0 l0.length c0] rfl (by (try simp only [List.map_toArray, List.map_cons, List.map_nil]); first | done | rfl) ?_; refine (spec_l26Open.calls A0 c0 l0 b 0 w _ HB.out HR.out HC.out HO.out).mono ?_; rintro e w1 ⟨g, rfl, hI, hB, _⟩; refine ⟨_, rfl, ?_⟩; have HI := Aside0.mk hI; have HB1 := Aside0.mk hB; clear hI hB HB) | ((with_reducible refine gate_callee (f := 29) rfl ?_); refine goesL_ (some 13) rfl rfl Try.func29 (by kernel_rfl) rfl #[.pointer (some ⟨g, 0, none⟩)] rfl (by (try simp only [List.map_toArray, List.map_cons, List.map_nil]); first | done | rfl) ?_; refine (spec_l20Number.calls kn g b 0 n p1 w _ HI.out HB1.out HN.out).mono ?_; rintro e w2 ⟨rfl, hI, hB, _⟩; refine ⟨_, rfl, ?_⟩; have HI2 := Aside0.mk hI; have HB2 := Aside0.mk hB; clear hI hB HB1 HI) | ((with_reducible refine gate_callee (f := 32) rfl ?_); refine goesL_ (some 15) rfl rfl Try.func32 (by kernel_rfl) rfl #[.pointer (some ⟨g, 0, none⟩)] rfl (by (try simp only [List.map_toArray, List.map_cons, List.map_nil]); first | done | rfl) ?_; refine (spec_l20Data.calls kd g b p1 d p2 w _ HI2.out HB2.out HD.out).mono ?_; rintro e w3 ⟨v15, rfl, hR, hI, hB, _⟩; refine ⟨_, rfl, ?_⟩; obtain ⟨A15, c15, rfl⟩ := Kd.R_slice hR; have G15 := Aside0.mk (Kd.R_reads' hR); have HI3 := Aside0.mk hI; have HB3 := Aside0.mk hB; clear hR hI hB HB2 HI2) | ((with_reducible refine gate_callee (f := 6) rfl ?_); refine goesL_ (some 16) rfl rfl Try.func6 (by kernel_rfl) rfl #[.int .i64 n, .slice A15 d.length c15] rfl (by (try simp only [List.map_toArray, List.map_cons, List.map_nil]); first | done | rfl) ?_; refine (spec_WireCut.calls ks n A15 c15 d xs bb _ G15.out.2.2 G15.out.2.1 HS.out).mono ?_; rintro e w4 ⟨v16, rfl, hS, hb⟩; refine ⟨_, rfl, ?_⟩; obtain ⟨go, c4, rfl, _, _, _⟩ := Kd.S_form hS HX.out; have DJ := Aside0.mk (Dj.of HB3.out HI3.out hS hb); clear hS hb HB3 HI3 G15) | (go_at_call 30; refine (spec_l26Rd_pick.calls ku g b p2 2 u p3 w _ DJ.out.I DJ.out.B HU.out).mono ?_; rintro e w5 ⟨rfl, hI, hB, hk⟩; have DJ2 := Aside0.mk (DJ.out.pick hI hB hk); clear hI hB hk DJ; have DJ := DJ2; clear DJ2))
  go_ret
  exact DJ.out.drawn HL.out HF.out

set_option maxHeartbeats 8000000 in
set_option maxRecDepth 100000 in
theorem draw_cut (A0 : Option Addr) (c0 : Nat) (l0 : List Int) (w : World) (hr0 : Kd.C (Kd.int .u8) w A0 l0.length l0) (hc0 : l0.length ≤ c0) (b : List Int) (kn kd ks ku : Nat) (n p1 : Int) (d : List Int) (p2 : Int) (xs : List S36) (bb : Bool) (u p3 : Int) (hD : Dr l0 b kn kd ks ku n p1 d p2 xs bb u p3) (hx : 0 < xs.length) (hu : ¬ u = 0) (km kc : Nat) (m : Nat) (p4 c p5 : Int) (hm : spec_l26Rd_pick.f km b p3 (xs.length : Int) = some ((m : Int), p4)) (hml : m < xs.length) (hc4 : spec_l26Rd_pick.f kc b p4 4 = some (c, p5)) (hc : c = 1) :
    Calls Try.prog 19 #[.slice A0 l0.length c0] w fun e w' => Drawn w e w' := by
  have HR := Aside0.mk hr0
  have HC := Aside0.mk hc0
  have HO := Aside0.mk hD.O
  have HN := Aside0.mk hD.N
  have HD := Aside0.mk hD.D
  have HS := Aside0.mk hD.S
  have HU := Aside0.mk hD.U
  have HL := Aside0.mk hD.L
  have HF := Aside0.mk hD.F
  have HB := Aside0.mk (Below.refl w.heap.size w)
  have hu36 := Try.underlying36
  clear hr0 hc0 hD
  have q0 : (((xs.length : Nat) : Int) == 0) = false := by rw [beq_eq_false_iff_ne]; omega
  have q1 : (u == 0) = false := by simpa using hu
  have HX := Aside0.mk hx
  have HM := Aside0.mk hm
  have HMl := Aside0.mk hml
  have HC4 := Aside0.mk hc4
  have hml0 : (0 : Int) ≤ (m : Int) := by omega
  have hml1 : (m : Int) < (xs.length : Int) := by omega
  clear hm hc4
  have q2 : (c == 0) = false := by rw [hc]; rfl
  have q3 : (c == 1) = true := by rw [hc]; rfl
  go_enter Try.func19, Try.ntmps19
  go_wp2_with (first | ((with_reducible refine gate_callee (f := 28) rfl ?_); refine goesL_ (some 10) rfl rfl Try.func28 (by kernel_rfl) rfl #[.slice A0 l0.length c0] rfl (by (try simp only [List.map_toArray, List.map_cons, List.map_nil]); first | done | rfl) ?_; refine (spec_l26Open.calls A0 c0 l0 b 0 w _ HB.out HR.out HC.out HO.out).mono ?_; rintro e w1 ⟨g, rfl, hI, hB, _⟩; refine ⟨_, rfl, ?_⟩; have HI := Aside0.mk hI; have HB1 := Aside0.mk hB; clear hI hB HB) | ((with_reducible refine gate_callee (f := 29) rfl ?_); refine goesL_ (some 13) rfl rfl Try.func29 (by kernel_rfl) rfl #[.pointer (some ⟨g, 0, none⟩)] rfl (by (try simp only [List.map_toArray, List.map_cons, List.map_nil]); first | done | rfl) ?_; refine (spec_l20Number.calls kn g b 0 n p1 w _ HI.out HB1.out HN.out).mono ?_; rintro e w2 ⟨rfl, hI, hB, _⟩; refine ⟨_, rfl, ?_⟩; have HI2 := Aside0.mk hI; have HB2 := Aside0.mk hB; clear hI hB HB1 HI) | ((with_reducible refine gate_callee (f := 32) rfl ?_); refine goesL_ (some 15) rfl rfl Try.func32 (by kernel_rfl) rfl #[.pointer (some ⟨g, 0, none⟩)] rfl (by (try simp only [List.map_toArray, List.map_cons, List.map_nil]); first | done | rfl) ?_; refine (spec_l20Data.calls kd g b p1 d p2 w _ HI2.out HB2.out HD.out).mono ?_; rintro e w3 ⟨v15, rfl, hR, hI, hB, _⟩; refine ⟨_, rfl, ?_⟩; obtain ⟨A15, c15, rfl⟩ := Kd.R_slice hR; have G15 := Aside0.mk (Kd.R_reads' hR); have HI3 := Aside0.mk hI; have HB3 := Aside0.mk hB; clear hR hI hB HB2 HI2) | ((with_reducible refine gate_callee (f := 6) rfl ?_); refine goesL_ (some 16) rfl rfl Try.func6 (by kernel_rfl) rfl #[.int .i64 n, .slice A15 d.length c15] rfl (by (try simp only [List.map_toArray, List.map_cons, List.map_nil]); first | done | rfl) ?_; refine (spec_WireCut.calls ks n A15 c15 d xs bb _ G15.out.2.2 G15.out.2.1 HS.out).mono ?_; rintro e w4 ⟨v16, rfl, hS, hb⟩; refine ⟨_, rfl, ?_⟩; obtain ⟨go, c4, rfl, _, _, _⟩ := Kd.S_form hS HX.out; have DJ := Aside0.mk (Dj.of HB3.out HI3.out hS hb); clear hS hb HB3 HI3 G15) | ((with_reducible refine gate_callee (f := 30) rfl ?_); refine goesL_ (some 31) rfl rfl Try.func30 (by kernel_rfl) rfl #[.pointer (some ⟨g, 0, none⟩), .int .i64 (xs.length : Int)] rfl (by (try simp only [List.map_toArray, List.map_cons, List.map_nil]); first | done | rfl) ?_; refine (spec_l26Rd_pick.calls km g b p3 (xs.length : Int) (m : Int) p4 w _ DJ.out.I DJ.out.B HM.out).mono ?_; rintro e w5 ⟨rfl, hI, hB, hk⟩; refine ⟨_, rfl, ?_⟩; have DJ2 := Aside0.mk (DJ.out.pick hI hB hk); clear hI hB hk DJ; have DJ := DJ2; clear DJ2) | ((with_reducible refine gate_callee (f := 30) rfl ?_); refine goesL_ (some 33) rfl rfl Try.func30 (by kernel_rfl) rfl #[.pointer (some ⟨g, 0, none⟩), .int .i64 4] rfl (by (try simp only [List.map_toArray, List.map_cons, List.map_nil]); first | done | rfl) ?_; refine (spec_l26Rd_pick.calls kc g b p4 4 c p5 w _ DJ.out.I DJ.out.B HC4.out).mono ?_; rintro e w5 ⟨rfl, hI, hB, hk⟩; refine ⟨_, rfl, ?_⟩; have DJ2 := Aside0.mk (DJ.out.pick hI hB hk); clear hI hB hk DJ; have DJ := DJ2; clear DJ2; have hm0 : m ≤ c4 := (by have h_ := (Kd.S_reads' DJ.out.S).2.1; have := HMl.out; omega); have hm1 : (m : Int) ≤ (c4 : Int) := (by omega)) | (go_at_call 30; refine (spec_l26Rd_pick.calls ku g b p2 2 u p3 w _ DJ.out.I DJ.out.B HU.out).mono ?_; rintro e w5 ⟨rfl, hI, hB, hk⟩; have DJ2 := Aside0.mk (DJ.out.pick hI hB hk); clear hI hB hk DJ; have DJ := DJ2; clear DJ2))
  go_ret
  have hN := Kd.S_take DJ.out.S (m := m) (Nat.le_of_lt HMl.out)
  have hlm : (xs.take m).length = m := by rw [List.length_take]; have := HMl.out; omega
  have hr := Kd.S_reads' hN
  refine ⟨some ⟨go, 0, none⟩, xs.take m, c4, by rw [hlm]; rfl, by rw [hlm]; exact hm0, hr.2.2, by rw [hlm]; have := HMl.out; have := HL.out; omega, fun y hy => HF.out y (List.mem_of_mem_take hy), DJ.out.B⟩

set_option maxHeartbeats 8000000 in
set_option maxRecDepth 100000 in
theorem draw_number (A0 : Option Addr) (c0 : Nat) (l0 : List Int) (w : World) (hr0 : Kd.C (Kd.int .u8) w A0 l0.length l0) (hc0 : l0.length ≤ c0) (b : List Int) (kn kd ks ku : Nat) (n p1 : Int) (d : List Int) (p2 : Int) (xs : List S36) (bb : Bool) (u p3 : Int) (hD : Dr l0 b kn kd ks ku n p1 d p2 xs bb u p3) (hx : 0 < xs.length) (hu : ¬ u = 0) (km kc : Nat) (m : Nat) (p4 c p5 : Int) (hm : spec_l26Rd_pick.f km b p3 (xs.length : Int) = some ((m : Int), p4)) (hml : m < xs.length) (hc4 : spec_l26Rd_pick.f kc b p4 4 = some (c, p5)) (hc : ¬ c = 0 ∧ ¬ c = 1 ∧ ¬ c = 2) :
    Calls Try.prog 19 #[.slice A0 l0.length c0] w fun e w' => Drawn w e w' := by
  have HR := Aside0.mk hr0
  have HC := Aside0.mk hc0
  have HO := Aside0.mk hD.O
  have HN := Aside0.mk hD.N
  have HD := Aside0.mk hD.D
  have HS := Aside0.mk hD.S
  have HU := Aside0.mk hD.U
  have HL := Aside0.mk hD.L
  have HF := Aside0.mk hD.F
  have HB := Aside0.mk (Below.refl w.heap.size w)
  have hu36 := Try.underlying36
  clear hr0 hc0 hD
  have q0 : (((xs.length : Nat) : Int) == 0) = false := by rw [beq_eq_false_iff_ne]; omega
  have q1 : (u == 0) = false := by simpa using hu
  have HX := Aside0.mk hx
  have HM := Aside0.mk hm
  have HMl := Aside0.mk hml
  have HC4 := Aside0.mk hc4
  have hml0 : (0 : Int) ≤ (m : Int) := by omega
  have hml1 : (m : Int) < (xs.length : Int) := by omega
  clear hm hc4
  have q2 : (c == 0) = false := by simpa using hc.1
  have q3 : (c == 1) = false := by simpa using hc.2.1
  have q4 : (c == 2) = false := by simpa using hc.2.2
  go_enter Try.func19, Try.ntmps19
  go_wp2_with (first | ((with_reducible refine gate_callee (f := 28) rfl ?_); refine goesL_ (some 10) rfl rfl Try.func28 (by kernel_rfl) rfl #[.slice A0 l0.length c0] rfl (by (try simp only [List.map_toArray, List.map_cons, List.map_nil]); first | done | rfl) ?_; refine (spec_l26Open.calls A0 c0 l0 b 0 w _ HB.out HR.out HC.out HO.out).mono ?_; rintro e w1 ⟨g, rfl, hI, hB, _⟩; refine ⟨_, rfl, ?_⟩; have HI := Aside0.mk hI; have HB1 := Aside0.mk hB; clear hI hB HB) | ((with_reducible refine gate_callee (f := 29) rfl ?_); refine goesL_ (some 13) rfl rfl Try.func29 (by kernel_rfl) rfl #[.pointer (some ⟨g, 0, none⟩)] rfl (by (try simp only [List.map_toArray, List.map_cons, List.map_nil]); first | done | rfl) ?_; refine (spec_l20Number.calls kn g b 0 n p1 w _ HI.out HB1.out HN.out).mono ?_; rintro e w2 ⟨rfl, hI, hB, _⟩; refine ⟨_, rfl, ?_⟩; have HI2 := Aside0.mk hI; have HB2 := Aside0.mk hB; clear hI hB HB1 HI) | ((with_reducible refine gate_callee (f := 32) rfl ?_); refine goesL_ (some 15) rfl rfl Try.func32 (by kernel_rfl) rfl #[.pointer (some ⟨g, 0, none⟩)] rfl (by (try simp only [List.map_toArray, List.map_cons, List.map_nil]); first | done | rfl) ?_; refine (spec_l20Data.calls kd g b p1 d p2 w _ HI2.out HB2.out HD.out).mono ?_; rintro e w3 ⟨v15, rfl, hR, hI, hB, _⟩; refine ⟨_, rfl, ?_⟩; obtain ⟨A15, c15, rfl⟩ := Kd.R_slice hR; have G15 := Aside0.mk (Kd.R_reads' hR); have HI3 := Aside0.mk hI; have HB3 := Aside0.mk hB; clear hR hI hB HB2 HI2) | ((with_reducible refine gate_callee (f := 6) rfl ?_); refine goesL_ (some 16) rfl rfl Try.func6 (by kernel_rfl) rfl #[.int .i64 n, .slice A15 d.length c15] rfl (by (try simp only [List.map_toArray, List.map_cons, List.map_nil]); first | done | rfl) ?_; refine (spec_WireCut.calls ks n A15 c15 d xs bb _ G15.out.2.2 G15.out.2.1 HS.out).mono ?_; rintro e w4 ⟨v16, rfl, hS, hb⟩; refine ⟨_, rfl, ?_⟩; obtain ⟨go, c4, rfl, _, _, _⟩ := Kd.S_form hS HX.out; have DJ := Aside0.mk (Dj.of HB3.out HI3.out hS hb); clear hS hb HB3 HI3 G15) | ((with_reducible refine gate_callee (f := 30) rfl ?_); refine goesL_ (some 31) rfl rfl Try.func30 (by kernel_rfl) rfl #[.pointer (some ⟨g, 0, none⟩), .int .i64 (xs.length : Int)] rfl (by (try simp only [List.map_toArray, List.map_cons, List.map_nil]); first | done | rfl) ?_; refine (spec_l26Rd_pick.calls km g b p3 (xs.length : Int) (m : Int) p4 w _ DJ.out.I DJ.out.B HM.out).mono ?_; rintro e w5 ⟨rfl, hI, hB, hk⟩; refine ⟨_, rfl, ?_⟩; have DJ2 := Aside0.mk (DJ.out.pick hI hB hk); clear hI hB hk DJ; have DJ := DJ2; clear DJ2) | ((with_reducible refine gate_callee (f := 30) rfl ?_); refine goesL_ (some 33) rfl rfl Try.func30 (by kernel_rfl) rfl #[.pointer (some ⟨g, 0, none⟩), .int .i64 4] rfl (by (try simp only [List.map_toArray, List.map_cons, List.map_nil]); first | done | rfl) ?_; refine (spec_l26Rd_pick.calls kc g b p4 4 c p5 w _ DJ.out.I DJ.out.B HC4.out).mono ?_; rintro e w5 ⟨rfl, hI, hB, hk⟩; refine ⟨_, rfl, ?_⟩; have DJ2 := Aside0.mk (DJ.out.pick hI hB hk); clear hI hB hk DJ; have DJ := DJ2; clear DJ2; obtain ⟨A_, c_, hq0, hq1, hq2, hq3, hq4⟩ := DJ.out.cells m HMl.out) | ((with_reducible refine gate_store (t := 3) (p := 43) rfl ?_); refine Dj.number DJ.out m HMl.out HL.out HF.out rfl rfl (by kernel_rfl) _ _ rfl rfl rfl rfl ?_; intro w6 hdr; have DW := Aside0.mk hdr; clear hdr DJ) | (go_at_call 30; refine (spec_l26Rd_pick.calls ku g b p2 2 u p3 w _ DJ.out.I DJ.out.B HU.out).mono ?_; rintro e w5 ⟨rfl, hI, hB, hk⟩; have DJ2 := Aside0.mk (DJ.out.pick hI hB hk); clear hI hB hk DJ; have DJ := DJ2; clear DJ2))
  go_ret
  exact DW.out

set_option maxHeartbeats 8000000 in
set_option maxRecDepth 100000 in
theorem draw_swap (A0 : Option Addr) (c0 : Nat) (l0 : List Int) (w : World) (hr0 : Kd.C (Kd.int .u8) w A0 l0.length l0) (hc0 : l0.length ≤ c0) (b : List Int) (kn kd ks ku : Nat) (n p1 : Int) (d : List Int) (p2 : Int) (xs : List S36) (bb : Bool) (u p3 : Int) (hD : Dr l0 b kn kd ks ku n p1 d p2 xs bb u p3) (hx : 0 < xs.length) (hu : ¬ u = 0) (km kc : Nat) (m : Nat) (p4 c p5 : Int) (hm : spec_l26Rd_pick.f km b p3 (xs.length : Int) = some ((m : Int), p4)) (hml : m < xs.length) (hc4 : spec_l26Rd_pick.f kc b p4 4 = some (c, p5)) (hc : c = 2) (kj j : Nat) (p6 : Int) (hj : spec_l26Rd_pick.f kj b p5 (xs.length : Int) = some ((j : Int), p6)) (hjl : j < xs.length) :
    Calls Try.prog 19 #[.slice A0 l0.length c0] w fun e w' => Drawn w e w' := by
  have HR := Aside0.mk hr0
  have HC := Aside0.mk hc0
  have HO := Aside0.mk hD.O
  have HN := Aside0.mk hD.N
  have HD := Aside0.mk hD.D
  have HS := Aside0.mk hD.S
  have HU := Aside0.mk hD.U
  have HL := Aside0.mk hD.L
  have HF := Aside0.mk hD.F
  have HB := Aside0.mk (Below.refl w.heap.size w)
  have hu36 := Try.underlying36
  clear hr0 hc0 hD
  have q0 : (((xs.length : Nat) : Int) == 0) = false := by rw [beq_eq_false_iff_ne]; omega
  have q1 : (u == 0) = false := by simpa using hu
  have HX := Aside0.mk hx
  have HM := Aside0.mk hm
  have HMl := Aside0.mk hml
  have HC4 := Aside0.mk hc4
  have hml0 : (0 : Int) ≤ (m : Int) := by omega
  have hml1 : (m : Int) < (xs.length : Int) := by omega
  clear hm hc4
  have q2 : (c == 0) = false := by rw [hc]; rfl
  have q3 : (c == 1) = false := by rw [hc]; rfl
  have q4 : (c == 2) = true := by rw [hc]; rfl
  have HJ := Aside0.mk hj
  have HJl := Aside0.mk hjl
  have hjl0 : (0 : Int) ≤ (j : Int) := by omega
  have hjl1 : (j : Int) < (xs.length : Int) := by omega
  clear hj
  go_enter Try.func19, Try.ntmps19
  go_wp2_with (first | ((with_reducible refine gate_callee (f := 28) rfl ?_); refine goesL_ (some 10) rfl rfl Try.func28 (by kernel_rfl) rfl #[.slice A0 l0.length c0] rfl (by (try simp only [List.map_toArray, List.map_cons, List.map_nil]); first | done | rfl) ?_; refine (spec_l26Open.calls A0 c0 l0 b 0 w _ HB.out HR.out HC.out HO.out).mono ?_; rintro e w1 ⟨g, rfl, hI, hB, _⟩; refine ⟨_, rfl, ?_⟩; have HI := Aside0.mk hI; have HB1 := Aside0.mk hB; clear hI hB HB) | ((with_reducible refine gate_callee (f := 29) rfl ?_); refine goesL_ (some 13) rfl rfl Try.func29 (by kernel_rfl) rfl #[.pointer (some ⟨g, 0, none⟩)] rfl (by (try simp only [List.map_toArray, List.map_cons, List.map_nil]); first | done | rfl) ?_; refine (spec_l20Number.calls kn g b 0 n p1 w _ HI.out HB1.out HN.out).mono ?_; rintro e w2 ⟨rfl, hI, hB, _⟩; refine ⟨_, rfl, ?_⟩; have HI2 := Aside0.mk hI; have HB2 := Aside0.mk hB; clear hI hB HB1 HI) | ((with_reducible refine gate_callee (f := 32) rfl ?_); refine goesL_ (some 15) rfl rfl Try.func32 (by kernel_rfl) rfl #[.pointer (some ⟨g, 0, none⟩)] rfl (by (try simp only [List.map_toArray, List.map_cons, List.map_nil]); first | done | rfl) ?_; refine (spec_l20Data.calls kd g b p1 d p2 w _ HI2.out HB2.out HD.out).mono ?_; rintro e w3 ⟨v15, rfl, hR, hI, hB, _⟩; refine ⟨_, rfl, ?_⟩; obtain ⟨A15, c15, rfl⟩ := Kd.R_slice hR; have G15 := Aside0.mk (Kd.R_reads' hR); have HI3 := Aside0.mk hI; have HB3 := Aside0.mk hB; clear hR hI hB HB2 HI2) | ((with_reducible refine gate_callee (f := 6) rfl ?_); refine goesL_ (some 16) rfl rfl Try.func6 (by kernel_rfl) rfl #[.int .i64 n, .slice A15 d.length c15] rfl (by (try simp only [List.map_toArray, List.map_cons, List.map_nil]); first | done | rfl) ?_; refine (spec_WireCut.calls ks n A15 c15 d xs bb _ G15.out.2.2 G15.out.2.1 HS.out).mono ?_; rintro e w4 ⟨v16, rfl, hS, hb⟩; refine ⟨_, rfl, ?_⟩; obtain ⟨go, c4, rfl, _, _, _⟩ := Kd.S_form hS HX.out; have DJ := Aside0.mk (Dj.of HB3.out HI3.out hS hb); clear hS hb HB3 HI3 G15) | ((with_reducible refine gate_callee (f := 30) rfl ?_); refine goesL_ (some 31) rfl rfl Try.func30 (by kernel_rfl) rfl #[.pointer (some ⟨g, 0, none⟩), .int .i64 (xs.length : Int)] rfl (by (try simp only [List.map_toArray, List.map_cons, List.map_nil]); first | done | rfl) ?_; refine (spec_l26Rd_pick.calls km g b p3 (xs.length : Int) (m : Int) p4 w _ DJ.out.I DJ.out.B HM.out).mono ?_; rintro e w5 ⟨rfl, hI, hB, hk⟩; refine ⟨_, rfl, ?_⟩; have DJ2 := Aside0.mk (DJ.out.pick hI hB hk); clear hI hB hk DJ; have DJ := DJ2; clear DJ2) | ((with_reducible refine gate_callee (f := 30) rfl ?_); refine goesL_ (some 33) rfl rfl Try.func30 (by kernel_rfl) rfl #[.pointer (some ⟨g, 0, none⟩), .int .i64 4] rfl (by (try simp only [List.map_toArray, List.map_cons, List.map_nil]); first | done | rfl) ?_; refine (spec_l26Rd_pick.calls kc g b p4 4 c p5 w _ DJ.out.I DJ.out.B HC4.out).mono ?_; rintro e w5 ⟨rfl, hI, hB, hk⟩; refine ⟨_, rfl, ?_⟩; have DJ2 := Aside0.mk (DJ.out.pick hI hB hk); clear hI hB hk DJ; have DJ := DJ2; clear DJ2; have hm0 : m ≤ c4 := (by have h_ := (Kd.S_reads' DJ.out.S).2.1; have := HMl.out; omega); have hm1 : (m : Int) ≤ (c4 : Int) := (by omega)) | ((with_reducible refine gate_callee (f := 30) rfl ?_); refine goesL_ (some 65) rfl rfl Try.func30 (by kernel_rfl) rfl #[.pointer (some ⟨g, 0, none⟩), .int .i64 (xs.length : Int)] rfl (by (try simp only [List.map_toArray, List.map_cons, List.map_nil]); first | done | rfl) ?_; refine (spec_l26Rd_pick.calls kj g b p5 (xs.length : Int) (j : Int) p6 w _ DJ.out.I DJ.out.B HJ.out).mono ?_; rintro e w5 ⟨rfl, hI, hB, hk⟩; refine ⟨_, rfl, ?_⟩; have DJ2 := Aside0.mk (DJ.out.pick hI hB hk); clear hI hB hk DJ; have DJ := DJ2; clear DJ2; obtain ⟨A_, c_, hFm, hq0, hq1, hq2, hq3, hq4⟩ := N_cells (Kd.N_bound (Kd.S_N DJ.out.S)) m HMl.out; have HXM := Aside0.mk (getD_len m HF.out); generalize xs.getD m z36 = xm at hFm hq0 hq1 hq2 hq3 hq4 HXM; have FM := Aside0.mk hFm; have WB := Aside0.mk DJ.out.B; have SN := Aside0.mk (Kd.N_bound (Kd.S_N DJ.out.S)); clear hFm DJ) | ((with_reducible refine gate_dst (N := 8) rfl ?_); refine box_event ?hg (N := 8) ?hd (cs := #[.int .i64 0, .int .i64 0, .int .i64 0, .int .i64 0, .slice none 0 0]) (t := 36) ?hr ?_; (case hd => rfl); (case hg => rfl); (case hr => first | (go_simp; done) | (go_simp; rfl)); intro gb hg w6 hbox hb; have SN2 := Aside0.mk (Kd.N_mono (Kd.N_below SN.out hb) (ok' := fun k => k ≠ gb) (fun k hk => by have := hk.2; omega)); have FM2 := Aside0.mk (Kd.FK_mono (Kd.FK_below FM.out hb) (ok' := fun k => k ≠ gb ∧ k ≠ go) (fun k hk => ⟨by have := hk.1.2; omega, hk.2⟩)); have GB := Aside0.mk (show w.heap.size ≤ gb by rw [hg]; exact WB.out.size); have GN := Aside0.mk (show go ≠ gb by have := Kd.N_lt SN.out go rfl; omega); have WB2 := Aside0.mk (below_then WB.out WB.out.size hb); have BX := Aside0.mk hbox; clear hg hbox hb SN FM WB) | ((with_reducible refine gate_store (t := 36) (p := 8) rfl ?_); refine st_box (g := gb) (cs := #[.int .i64 0, .int .i64 0, .int .i64 0, .int .i64 0, .slice none 0 0]) (seg := [.int .i64 xm.f0, .int .i64 xm.f1, .int .i64 xm.f2, .int .i64 xm.f3, .slice A_ xm.f4.length c_]) rfl rfl _ _ rfl rfl rfl rfl rfl (by kernel_rfl) (fun q hq => by simp only [List.mem_cons, List.not_mem_nil, or_false] at hq; rcases hq with rfl | rfl | rfl | rfl | rfl <;> rfl) BX.out rfl (fun q hq => by simp only [List.mem_cons, List.not_mem_nil, or_false] at hq; rcases hq with rfl | rfl | rfl | rfl | rfl <;> rfl) GB.out WB2.out ?_; intro w7 hbox hb hg; have SN3 := Aside0.mk (Kd.N_grown SN2.out hg (fun k hk e => hk (Option.some.inj e))); have FM3 := Aside0.mk (Kd.FK_grown FM2.out hg (fun k hk e => hk.1 (Option.some.inj e))); have BX2 := Aside0.mk hbox; have WB3 := Aside0.mk hb; clear hbox hb hg SN2 FM2 WB2 BX; obtain ⟨B_, d_, hFj, hj0, hj1, hj2, hj3, hj4⟩ := N_cells SN3.out j HJl.out; have HXJ := Aside0.mk (getD_len j HF.out); generalize xs.getD j z36 = xj at hFj hj0 hj1 hj2 hj3 hj4 HXJ; have FJ := Aside0.mk hFj; clear hFj) | ((with_reducible refine gate_store (t := 36) (p := 76) rfl ?_); refine st_word SN3.out m HMl.out xj (seg := [.int .i64 xj.f0, .int .i64 xj.f1, .int .i64 xj.f2, .int .i64 xj.f3, .slice B_ xj.f4.length d_]) rfl rfl (by kernel_rfl) _ _ rfl rfl rfl rfl rfl rfl FJ.out WB3.out ?_; intro w8 hn8 hb8 hg8; have SN4 := Aside0.mk hn8; have WB4 := Aside0.mk hb8; have FM4 := Aside0.mk (Kd.FK_grown FM3.out hg8 (fun k hk e => hk.2 (Option.some.inj e))); have BX3 := Aside0.mk (blk_grown BX2.out hg8 (fun e => GN.out (Option.some.inj e).symm)); clear hn8 hb8 hg8 SN3 FM3 WB3 BX2 FJ; have hx0 := (blk_cell BX3.out 0); have hx1 := (blk_cell BX3.out 1); have hx2 := (blk_cell BX3.out 2); have hx3 := (blk_cell BX3.out 3); have hx4 := (blk_cell BX3.out 4); replace hx0 : w8.cell? ⟨gb, 0, none⟩ = some (.int .i64 xm.f0) := hx0; replace hx1 : w8.cell? ⟨gb, 1, none⟩ = some (.int .i64 xm.f1) := hx1; replace hx2 : w8.cell? ⟨gb, 2, none⟩ = some (.int .i64 xm.f2) := hx2; replace hx3 : w8.cell? ⟨gb, 3, none⟩ = some (.int .i64 xm.f3) := hx3; replace hx4 : w8.cell? ⟨gb, 4, none⟩ = some (.slice A_ xm.f4.length c_) := hx4) | ((with_reducible refine gate_store (t := 36) (p := 80) rfl ?_); refine st_word SN4.out j (by rw [List.length_set]; exact HJl.out) xm (seg := [.int .i64 xm.f0, .int .i64 xm.f1, .int .i64 xm.f2, .int .i64 xm.f3, .slice A_ xm.f4.length c_]) rfl rfl (by kernel_rfl) _ _ rfl rfl rfl rfl rfl rfl FM4.out WB4.out ?_; intro w9 hn9 hb9 hg9; have DW := Aside0.mk (Drawn.ofN hn9 (by rw [List.length_set, List.length_set]; exact HL.out) (set_lens (set_lens HF.out HXJ.out) HXM.out) hb9); clear hn9 hb9 hg9 SN4 FM4 WB4) | (go_at_call 30; refine (spec_l26Rd_pick.calls ku g b p2 2 u p3 w _ DJ.out.I DJ.out.B HU.out).mono ?_; rintro e w5 ⟨rfl, hI, hB, hk⟩; have DJ2 := Aside0.mk (DJ.out.pick hI hB hk); clear hI hB hk DJ; have DJ := DJ2; clear DJ2))
  go_ret
  exact DW.out

set_option maxHeartbeats 8000000 in
set_option maxRecDepth 100000 in
theorem draw_spoil (A0 : Option Addr) (c0 : Nat) (l0 : List Int) (w : World) (hr0 : Kd.C (Kd.int .u8) w A0 l0.length l0) (hc0 : l0.length ≤ c0) (b : List Int) (kn kd ks ku : Nat) (n p1 : Int) (d : List Int) (p2 : Int) (xs : List S36) (bb : Bool) (u p3 : Int) (hD : Dr l0 b kn kd ks ku n p1 d p2 xs bb u p3) (hx : 0 < xs.length) (hu : ¬ u = 0) (km kc : Nat) (m : Nat) (p4 c p5 : Int) (hm : spec_l26Rd_pick.f km b p3 (xs.length : Int) = some ((m : Int), p4)) (hml : m < xs.length) (hc4 : spec_l26Rd_pick.f kc b p4 4 = some (c, p5)) (hc : c = 0) (kp : Nat) (r1 r2 r3 r4 : Int) (r5 : List Int) (r6 : Int) (hsp : spec_l20Spoil.f kp b p5 (xs.getD m z36).f0 (xs.getD m z36).f1 (xs.getD m z36).f2 (xs.getD m z36).f3 (xs.getD m z36).f4 = some (r1, r2, r3, r4, r5, r6)) (hsl : r5.length ≤ 1000) :
    Calls Try.prog 19 #[.slice A0 l0.length c0] w fun e w' => Drawn w e w' := by
  have HR := Aside0.mk hr0
  have HC := Aside0.mk hc0
  have HO := Aside0.mk hD.O
  have HN := Aside0.mk hD.N
  have HD := Aside0.mk hD.D
  have HS := Aside0.mk hD.S
  have HU := Aside0.mk hD.U
  have HL := Aside0.mk hD.L
  have HF := Aside0.mk hD.F
  have HB := Aside0.mk (Below.refl w.heap.size w)
  have hu36 := Try.underlying36
  clear hr0 hc0 hD
  have q0 : (((xs.length : Nat) : Int) == 0) = false := by rw [beq_eq_false_iff_ne]; omega
  have q1 : (u == 0) = false := by simpa using hu
  have HX := Aside0.mk hx
  have HM := Aside0.mk hm
  have HMl := Aside0.mk hml
  have HC4 := Aside0.mk hc4
  have hml0 : (0 : Int) ≤ (m : Int) := by omega
  have hml1 : (m : Int) < (xs.length : Int) := by omega
  clear hm hc4
  have q2 : (c == 0) = true := by rw [hc]; rfl
  have HSP := Aside0.mk hsp
  have HSL := Aside0.mk hsl
  clear hsp hsl
  go_enter Try.func19, Try.ntmps19
  go_wp2_with (first | ((with_reducible refine gate_callee (f := 28) rfl ?_); refine goesL_ (some 10) rfl rfl Try.func28 (by kernel_rfl) rfl #[.slice A0 l0.length c0] rfl (by (try simp only [List.map_toArray, List.map_cons, List.map_nil]); first | done | rfl) ?_; refine (spec_l26Open.calls A0 c0 l0 b 0 w _ HB.out HR.out HC.out HO.out).mono ?_; rintro e w1 ⟨g, rfl, hI, hB, _⟩; refine ⟨_, rfl, ?_⟩; have HI := Aside0.mk hI; have HB1 := Aside0.mk hB; clear hI hB HB) | ((with_reducible refine gate_callee (f := 29) rfl ?_); refine goesL_ (some 13) rfl rfl Try.func29 (by kernel_rfl) rfl #[.pointer (some ⟨g, 0, none⟩)] rfl (by (try simp only [List.map_toArray, List.map_cons, List.map_nil]); first | done | rfl) ?_; refine (spec_l20Number.calls kn g b 0 n p1 w _ HI.out HB1.out HN.out).mono ?_; rintro e w2 ⟨rfl, hI, hB, _⟩; refine ⟨_, rfl, ?_⟩; have HI2 := Aside0.mk hI; have HB2 := Aside0.mk hB; clear hI hB HB1 HI) | ((with_reducible refine gate_callee (f := 32) rfl ?_); refine goesL_ (some 15) rfl rfl Try.func32 (by kernel_rfl) rfl #[.pointer (some ⟨g, 0, none⟩)] rfl (by (try simp only [List.map_toArray, List.map_cons, List.map_nil]); first | done | rfl) ?_; refine (spec_l20Data.calls kd g b p1 d p2 w _ HI2.out HB2.out HD.out).mono ?_; rintro e w3 ⟨v15, rfl, hR, hI, hB, _⟩; refine ⟨_, rfl, ?_⟩; obtain ⟨A15, c15, rfl⟩ := Kd.R_slice hR; have G15 := Aside0.mk (Kd.R_reads' hR); have HI3 := Aside0.mk hI; have HB3 := Aside0.mk hB; clear hR hI hB HB2 HI2) | ((with_reducible refine gate_callee (f := 6) rfl ?_); refine goesL_ (some 16) rfl rfl Try.func6 (by kernel_rfl) rfl #[.int .i64 n, .slice A15 d.length c15] rfl (by (try simp only [List.map_toArray, List.map_cons, List.map_nil]); first | done | rfl) ?_; refine (spec_WireCut.calls ks n A15 c15 d xs bb _ G15.out.2.2 G15.out.2.1 HS.out).mono ?_; rintro e w4 ⟨v16, rfl, hS, hb⟩; refine ⟨_, rfl, ?_⟩; obtain ⟨go, c4, rfl, _, _, _⟩ := Kd.S_form hS HX.out; have DJ := Aside0.mk (Dj.of HB3.out HI3.out hS hb); clear hS hb HB3 HI3 G15) | ((with_reducible refine gate_callee (f := 30) rfl ?_); refine goesL_ (some 31) rfl rfl Try.func30 (by kernel_rfl) rfl #[.pointer (some ⟨g, 0, none⟩), .int .i64 (xs.length : Int)] rfl (by (try simp only [List.map_toArray, List.map_cons, List.map_nil]); first | done | rfl) ?_; refine (spec_l26Rd_pick.calls km g b p3 (xs.length : Int) (m : Int) p4 w _ DJ.out.I DJ.out.B HM.out).mono ?_; rintro e w5 ⟨rfl, hI, hB, hk⟩; refine ⟨_, rfl, ?_⟩; have DJ2 := Aside0.mk (DJ.out.pick hI hB hk); clear hI hB hk DJ; have DJ := DJ2; clear DJ2) | ((with_reducible refine gate_callee (f := 30) rfl ?_); refine goesL_ (some 33) rfl rfl Try.func30 (by kernel_rfl) rfl #[.pointer (some ⟨g, 0, none⟩), .int .i64 4] rfl (by (try simp only [List.map_toArray, List.map_cons, List.map_nil]); first | done | rfl) ?_; refine (spec_l26Rd_pick.calls kc g b p4 4 c p5 w _ DJ.out.I DJ.out.B HC4.out).mono ?_; rintro e w5 ⟨rfl, hI, hB, hk⟩; refine ⟨_, rfl, ?_⟩; have DJ2 := Aside0.mk (DJ.out.pick hI hB hk); clear hI hB hk DJ; have DJ := DJ2; clear DJ2; obtain ⟨oki, A_, c_, hR_, hH_, hq0, hq1, hq2, hq3, hq4⟩ := DJ.out.lend m HMl.out; generalize xs.getD m z36 = xm at hR_ hH_ hq0 hq1 hq2 hq3 hq4 HSP; have HRm := Aside0.mk hR_; have HH := Aside0.mk hH_; have DI := Aside0.mk DJ.out.I; have DB := Aside0.mk DJ.out.B; clear hR_ hH_ DJ) | ((with_reducible refine gate_callee (f := 34) rfl ?_); refine goesL_ (some 53) rfl rfl Try.func34 (by kernel_rfl) rfl #[.pointer (some ⟨g, 0, none⟩), .agg #[.int .i64 xm.f0, .int .i64 xm.f1, .int .i64 xm.f2, .int .i64 xm.f3, .slice A_ xm.f4.length c_]] rfl (by (try simp only [List.map_toArray, List.map_cons, List.map_nil]); first | done | rfl) ?_; refine (spec_l20Spoil.calls kp g b p5 xm.f0 xm.f1 xm.f2 xm.f3 oki _ xm.f4 r1 r2 r3 r4 r5 r6 w _ DI.out DB.out HRm.out HSP.out).mono ?_; rintro e w6 ⟨v53, rfl, hR2, hI2, hB2, hk2⟩; refine ⟨_, rfl, ?_⟩; obtain ⟨A5, c5, rfl⟩ := Kd.R_slice hR2; have HH2 := Aside0.mk (Kd.H_step (Kd.H_widen HH.out) (fun k hk hn hlt => hk2.2 k hlt (fun h => h.elim (fun h => hn (.inl h)) (fun h => hk h)))); have HR2 := Aside0.mk hR2; have DB2 := Aside0.mk hB2; clear hR2 hI2 hB2 hk2 HH HRm DB) | ((with_reducible refine gate_store (t := 36) (p := 54) rfl ?_); refine Kd.H_store k36 (w0 := w) w.heap.size rfl rfl 36 _ _ rfl 36 (m : Int) 0 xs (⟨r1, r2, r3, r4, r5⟩ : S36) _ [.int .i64 r1, .int .i64 r2, .int .i64 r3, .int .i64 r4, .slice A5 r5.length c5] _ _ _ (fun k => oki k ∨ w5.heap.size ≤ k) rfl (by rw [Int.toNat_natCast]; rfl) rfl rfl (by kernel_rfl) (fun q hq => by simp only [List.mem_cons, List.not_mem_nil, or_false] at hq; rcases hq with rfl | rfl | rfl | rfl | rfl <;> rfl) HH2.out (by omega) (by omega) (by show 0 + 5 ≤ 5; omega) (k36_mkM _ _ _ (⟨r1, r2, r3, r4, r5⟩ : S36) HR2.out) (fun k hk => hk.elim .inl (fun h => .inr ⟨(fun e => by have := DI.out.lt; omega), h⟩)) DB2.out ?_; intro w7 hS7 hb7 hg7; have DW := Aside0.mk (Drawn.ofN (Kd.S_N hS7) (by rw [List.length_set]; exact HL.out) (set_lens HF.out HSL.out) hb7); clear hS7 hb7 hg7) | (go_at_call 30; refine (spec_l26Rd_pick.calls ku g b p2 2 u p3 w _ DJ.out.I DJ.out.B HU.out).mono ?_; rintro e w5 ⟨rfl, hI, hB, hk⟩; have DJ2 := Aside0.mk (DJ.out.pick hI hB hk); clear hI hB hk DJ; have DJ := DJ2; clear DJ2))
  go_ret
  exact DW.out

/-- Some words. -/
theorem drawJ (A0 : Option Addr) (c0 : Nat) (l0 : List Int) (w : World) (hr0 : Kd.C (Kd.int .u8) w A0 l0.length l0) (hc0 : l0.length ≤ c0) (hb : Bytes l0) (hlen : l0.length ≤ 1048576) : Calls Try.prog 19 #[.slice A0 l0.length c0] w fun e w' => Drawn w e w' := by
  obtain ⟨b, he, hb2, hbl⟩ := open_tells l0 hb hlen
  obtain ⟨⟨n, p1⟩, hn, hp1⟩ := number_tells hb2 hbl (p := 0) (by omega) (by omega)
  obtain ⟨kn, hkn⟩ := hn.rounds
  dsimp only at hp1
  obtain ⟨⟨d, p2⟩, hd, hdl, hp2, hp3⟩ := l20Data_tells hb2 hbl (p := p1) (by omega) (by omega)
  obtain ⟨kd, hkd⟩ := hd.rounds
  dsimp only at hdl hp2 hp3
  obtain ⟨ks, hks⟩ := (spec_WireCut_ev n d).rounds
  obtain ⟨xs, bb, hxs, hl, hf⟩ : ∃ (xs : List S36) (b : Bool), (if wof d ≠ 0 ∧ 1 ≤ n ∧ n ≤ 1000000 then (pieces n d (ofn d), true) else ([], false)) = (xs, b) ∧ xs.length ≤ 1000 ∧ ∀ y ∈ xs, y.f4.length ≤ 1000 := by
    by_cases h : wof d ≠ 0 ∧ 1 ≤ n ∧ n ≤ 1000000
    · obtain ⟨h1, h2, h3⟩ := wof_pos h.1
      refine ⟨_, _, if_pos h, by rw [pieces_length]; unfold ofn; omega, fun y hy => ?_⟩
      obtain ⟨i, _, rfl⟩ := List.mem_map.1 hy
      show (chunk d i).length ≤ 1000
      rw [chunk_len]
      omega
    · exact ⟨_, _, if_neg h, by simp, fun y hy => by simp at hy⟩
  rw [hxs] at hks
  obtain ⟨⟨u, p3⟩, hu, _, _, hp4⟩ := pick_tells hb2 hbl (p := p2) (n := 2) (by omega) (by omega) (by omega) (by omega)
  obtain ⟨ku, hku⟩ := hu.rounds
  dsimp only at hp4
  have hD : Dr l0 b kn kd ks ku n p1 d p2 xs bb u p3 := ⟨he, hkn, hkd, hks, hku, hl, hf⟩
  by_cases hx0 : xs.length = 0
  · exact draw_nil A0 c0 l0 w hr0 hc0 b kn kd ks ku n p1 d p2 xs bb u p3 hD hx0
  · have hx : 0 < xs.length := by omega
    by_cases hu0 : u = 0
    · exact draw_as A0 c0 l0 w hr0 hc0 b kn kd ks ku n p1 d p2 xs bb u p3 hD hx hu0
    · obtain ⟨⟨mi, p4⟩, hm, hm0, hm1, hp5⟩ := pick_tells hb2 hbl (p := p3) (n := (xs.length : Int)) (by omega) (by omega) (by omega) (by omega)
      obtain ⟨km, hkm⟩ := hm.rounds
      dsimp only at hm0 hm1 hp5
      obtain ⟨m, rfl⟩ := Int.eq_ofNat_of_zero_le hm0
      have hml : m < xs.length := by omega
      obtain ⟨⟨c, p5⟩, hc, hc0', hc1, hp6⟩ := pick_tells hb2 hbl (p := p4) (n := 4) (by omega) (by omega) (by omega) (by omega)
      obtain ⟨kc, hkc⟩ := hc.rounds
      dsimp only at hc0' hc1 hp6
      by_cases h0 : c = 0
      · obtain ⟨⟨r1, r2, r3, r4, r5, r6⟩, hs, hsl⟩ := l20Spoil_tells hb2 hbl (p := p5) (by omega) (by omega) (xs.getD m z36).f0 (xs.getD m z36).f1 (xs.getD m z36).f2 (xs.getD m z36).f3 (xs.getD m z36).f4 (getD_len m hf)
        obtain ⟨kp, hkp⟩ := hs.rounds
        exact draw_spoil A0 c0 l0 w hr0 hc0 b kn kd ks ku n p1 d p2 xs bb u p3 hD hx hu0 km kc m p4 c p5 hkm hml hkc h0 kp r1 r2 r3 r4 r5 r6 hkp hsl
      · by_cases h1 : c = 1
        · exact draw_cut A0 c0 l0 w hr0 hc0 b kn kd ks ku n p1 d p2 xs bb u p3 hD hx hu0 km kc m p4 c p5 hkm hml hkc h1
        · by_cases h2 : c = 2
          · obtain ⟨⟨ji, p6⟩, hj, hj0, hj1, _⟩ := pick_tells hb2 hbl (p := p5) (n := (xs.length : Int)) (by omega) (by omega) (by omega) (by omega)
            obtain ⟨kj, hkj⟩ := hj.rounds
            dsimp only at hj0 hj1
            obtain ⟨j, rfl⟩ := Int.eq_ofNat_of_zero_le hj0
            exact draw_swap A0 c0 l0 w hr0 hc0 b kn kd ks ku n p1 d p2 xs bb u p3 hD hx hu0 km kc m p4 c p5 hkm hml hkc h2 kj j p6 hkj (by omega)
          · exact draw_number A0 c0 l0 w hr0 hc0 b kn kd ks ku n p1 d p2 xs bb u p3 hD hx hu0 km kc m p4 c p5 hkm hml hkc ⟨h0, h1, h2⟩

end Go.Proofs.Ytongoeifppllnaa.J
