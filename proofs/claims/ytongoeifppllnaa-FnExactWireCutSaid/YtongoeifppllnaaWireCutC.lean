/- The law FnExactWireCut: the walk of its own code over the contracts of what it calls: it answers true at every number and all data; no further condition. -/
import Derived.Test.YtongoeifppllnaaBitsFnExactWireCut
namespace Go.Proofs.Ytongoeifppllnaa.C
set_option linter.unusedVariables false
set_option linter.unusedSimpArgs false
open Go Go.RowKit Go.Proofs.Ytongoeifppllnaa.Tell Go.Proofs.Ytongoeifppllnaa.BFnExactWireCut Go.Proofs.YtongoeifppllnaaW.PrintWords Go.Proofs.YtongoeifppllnaaW.PrintLast Go.Proofs.YtongoeifppllnaaW.PrintMore

/-- What lies while the law runs: the model's words (v0), the copy that is handed in (vx), the words told (vg): apart from each other by when they were laid. -/
structure St (w : World) (N0 N1 : Nat) (v0 vx vg : Value) (xs ys : List S36) (lx : List Int) (W : World) : Prop where mk ::
  B : Below w.heap.size w W
  h0 : w.heap.size ≤ N0
  h01 : N0 ≤ N1
  h1 : N1 ≤ W.heap.size
  S0 : Kd.S k36 36 W w.heap.size (fun k => k < N0) v0 xs
  X : Kd.R (Kd.int .u8) 5 W w.heap.size (fun k => N0 ≤ k ∧ k < N1) vx lx
  G : Kd.S k36 36 W w.heap.size (fun k => N1 ≤ k) vg ys
theorem St.below {w : World} {N0 N1 : Nat} {v0 vx vg : Value} {xs ys : List S36} {lx : List Int} {W W1 : World} (h : St w N0 N1 v0 vx vg xs ys lx W) (hb : Below W.heap.size W W1) : St w N0 N1 v0 vx vg xs ys lx W1 :=
  ⟨below_then h.B h.B.size hb, h.h0, h.h01, Nat.le_trans h.h1 hb.size, Kd.S_below h.S0 hb, Kd.R_below h.X hb, Kd.S_below h.G hb⟩
theorem St.markX {w : World} {N0 N1 : Nat} {v0 vx vg : Value} {xs ys : List S36} {lx ly : List Int} {W W1 : World} (h : St w N0 N1 v0 vx vg xs ys lx W) (hb : Below w.heap.size w W1) (hr : Kd.R (Kd.int .u8) 5 W1 w.heap.size (fun k => (N0 ≤ k ∧ k < N1) ∨ W.heap.size ≤ k) vx ly) (hk : Kept W W1 (fun k => N0 ≤ k ∧ k < N1)) : St w N0 N1 v0 vx vg xs ys ly W1 := by
  have ho : ∀ k, vx.ownBlock = some k → N0 ≤ k ∧ k < N1 := h.X.1
  refine ⟨hb, h.h0, h.h01, Nat.le_trans h.h1 hk.1, Kd.S_kept h.S0 hk (fun k hk hs => by omega), Kd.R_mono (Kd.R_tight rfl hr) (fun k hk => ho k hk.symm), Kd.S_kept h.G hk (fun k hk hs => by omega)⟩
theorem St.markG {w : World} {N0 N1 : Nat} {v0 vx vg : Value} {xs ys zs : List S36} {lx : List Int} {W W1 : World} (h : St w N0 N1 v0 vx vg xs ys lx W) (hb : Below w.heap.size w W1) (hr : Kd.S k36 36 W1 w.heap.size (fun k => N1 ≤ k ∨ W.heap.size ≤ k) vg zs) (hk : Kept W W1 (fun k => N1 ≤ k)) : St w N0 N1 v0 vx vg xs zs lx W1 :=
  ⟨hb, h.h0, h.h01, Nat.le_trans h.h1 hk.1, Kd.S_kept h.S0 hk (fun k hk hs => by have := h.h01; omega), Kd.R_kept h.X hk (fun k hk hs => by omega), Kd.S_mono hr (fun k hk => hk.elim id (fun h2 => Nat.le_trans h.h1 h2))⟩
theorem held_calls (kh : Nat) (A : Option Addr) (c : Nat) (xs : List S36) (r : Int) (w : World) (hr : xs.length = (mkA 1 xs).length ∧ xs.length ≤ c ∧ Kd.C k36 w A (mkA 1 xs).length (mkA 1 xs)) (h : laws_heldWireWordS.f kh (mkA 1 xs) 1 = some r) :
    Calls Try.prog 13 #[.slice A xs.length c, .int .i64 1] w fun e w' => e = .returned (.int .i64 r) ∧ Drawn0 w w' := by
  have := laws_heldWireWordS.calls kh A c (mkA 1 xs) 1 r w hr.2.2 (by rw [← hr.1]; exact hr.2.1) h
  rwa [← hr.1] at this

set_option maxHeartbeats 8000000 in
set_option maxRecDepth 100000 in
theorem lawWireCut (a0 : Int) (A1 : Option Addr) (c1 : Nat) (l1 : List Int) (w : World) (hr1 : Kd.C (Kd.int .u8) w A1 l1.length l1) (hc1 : l1.length ≤ c1) :
    Calls Try.prog 3 #[.int .i64 a0, .slice A1 l1.length c1] w fun e w' => e = .returned (.bool true) ∧ Below w.heap.size w w' := by
  have HR := Aside0.mk hr1
  have HC := Aside0.mk hc1
  clear hr1 hc1
  by_cases hbig : (l1.length : Int) > 1048576
  · have d1 : decide (1048576 < (l1.length : Int)) = true := decide_eq_true hbig
    go_enter Try.func3, Try.ntmps3
    go_wp2
    go_ret
    exact ⟨rfl, Below.refl _ _⟩
  · have hlen : l1.length ≤ 1048576 := by omega
    have d1 : decide (1048576 < (l1.length : Int)) = false := decide_eq_false hbig
    clear hbig
    obtain ⟨kt, hkt⟩ := Ev.rounds (toByteS_ev l1 (by omega))
    obtain ⟨ks, hks⟩ := Ev.rounds (spec_WireCut_ev a0 l1)
    obtain ⟨ki, hki⟩ := Ev.rounds (impl_WireCut_ev a0 l1)
    obtain ⟨xs, b, hxs, hl, hf⟩ : ∃ (xs : List S36) (b : Bool), (if wof l1 ≠ 0 ∧ 1 ≤ a0 ∧ a0 ≤ 1000000 then (pieces a0 l1 (ofn l1), true) else ([], false)) = (xs, b) ∧ xs.length ≤ 1000 ∧ ∀ y ∈ xs, y.f4.length ≤ 1000 := by
      by_cases h : wof l1 ≠ 0 ∧ 1 ≤ a0 ∧ a0 ≤ 1000000
      · obtain ⟨h1, h2, h3⟩ := wof_pos h.1
        refine ⟨_, _, if_pos h, by rw [pieces_length]; unfold ofn; omega, fun y hy => ?_⟩
        obtain ⟨i, _, rfl⟩ := List.mem_map.1 hy
        show (chunk l1 i).length ≤ 1000
        rw [chunk_len]
        omega
      · exact ⟨_, _, if_neg h, by simp, fun y hy => by simp at hy⟩
    rw [hxs] at hks hki
    obtain ⟨ke, hke⟩ := Ev.rounds (eqWireWordS_self xs (by omega) (fun y hy => by have := hf y hy; omega))
    obtain ⟨kb, hkb⟩ := Ev.rounds (eqByteS_self l1 (by omega))
    obtain ⟨kh, hkh⟩ := Ev.rounds (heldW_ev xs hl hf)
    have HM := Aside0.mk (mkB_val l1 1 (by omega) (by omega) (by omega))
    have HT := Aside0.mk hkt
    have HS := Aside0.mk hks
    have HI := Aside0.mk hki
    have HE := Aside0.mk hke
    have HQ := Aside0.mk hkb
    have HH := Aside0.mk hkh
    have HL := Aside0.mk hl
    have HF := Aside0.mk hf
    have hcg : ¬ (cntA 1 xs < 0) := by have := cntA_ge 1 xs; omega
    have d2 : decide (cntA 1 xs < 0) = false := decide_eq_false hcg
    have d3 : ¬ ((1 + (l1.length : Int)) < 0) := by omega
    have d4 : decide ((1 + (l1.length : Int)) < 0) = false := decide_eq_false d3
    clear hkt hks hki hke hkb hkh hl hf hxs
    have HB := Aside0.mk (Below.refl w.heap.size w)
    go_enter Try.func3, Try.ntmps3
    go_wp2_with (first | ((with_reducible refine gate_callee (f := 7) rfl ?_); refine goesL_ (some 21) rfl rfl Try.func7 (by kernel_rfl) rfl #[.slice A1 l1.length c1] rfl (by (try simp only [List.map_toArray, List.map_cons, List.map_nil]); first | done | rfl) ?_; refine (laws_toByteS.calls kt A1 c1 l1 l1 _ (Kd.C_below HR.out HB.out) HC.out HT.out).mono ?_; rintro e w1 ⟨v21, rfl, h21, hb21⟩; refine ⟨_, rfl, ?_⟩; obtain ⟨A21, c21, rfl⟩ := Kd.R_slice h21; have G21 := Aside0.mk (Kd.R_reads' h21); have HB1 := Aside0.mk (below_then HB.out HB.out.size hb21); clear h21 hb21 HB) | ((with_reducible refine gate_callee (f := 6) rfl ?_); refine goesL_ (some 22) rfl rfl Try.func6 (by kernel_rfl) rfl #[.int .i64 a0, .slice A21 l1.length c21] rfl (by (try simp only [List.map_toArray, List.map_cons, List.map_nil]); first | done | rfl) ?_; refine (spec_WireCut.calls ks a0 A21 c21 l1 xs b _ G21.out.2.2 G21.out.2.1 HS.out).mono ?_; rintro e w2 ⟨v22, rfl, h22, hb22⟩; refine ⟨_, rfl, ?_⟩; obtain ⟨A5, c5, rfl⟩ := Kd.S_slice h22; have HB2 := Aside0.mk (below_then HB1.out HB1.out.size hb22); have G0 := Aside0.mk (Kd.S_mono (Kd.S_bound (Kd.S_lower h22 HB1.out.size)) (ok' := fun k => k < w2.heap.size) (fun k hk => hk.2.2.1)); clear h22 hb22 HB1 G21) | ((with_reducible refine gate_callee (f := 7) rfl ?_); refine goesL_ (some 26) rfl rfl Try.func7 (by kernel_rfl) rfl #[.slice A1 l1.length c1] rfl (by (try simp only [List.map_toArray, List.map_cons, List.map_nil]); first | done | rfl) ?_; refine (laws_toByteS.calls kt A1 c1 l1 l1 _ (Kd.C_below HR.out HB2.out) HC.out HT.out).mono ?_; rintro e w3 ⟨v26, rfl, h26, hb26⟩; refine ⟨_, rfl, ?_⟩; obtain ⟨A7, c7, rfl⟩ := Kd.R_slice h26; have HB3 := Aside0.mk (below_then HB2.out HB2.out.size hb26); have GX := Aside0.mk (Kd.R_mono (Kd.R_bound (Kd.R_lower (Kd.R_mono (Kd.R_bound h26) (ok' := fun k => w2.heap.size ≤ k) (fun k hk => hk.2.1)) HB2.out.size)) (ok' := fun k => w2.heap.size ≤ k ∧ k < w3.heap.size) (fun k hk => ⟨hk.1, hk.2.2.1⟩)); have G0' := Aside0.mk (Kd.S_below G0.out hb26); have GN := Aside0.mk hb26.size; clear h26 hb26 G0; have HB2' := HB2; clear HB2) | ((with_reducible refine gate_callee (f := 8) rfl ?_); refine goesL_ (some 30) rfl rfl Try.func8 (by kernel_rfl) rfl #[.int .i64 a0, .slice A7 l1.length c7] rfl (by (try simp only [List.map_toArray, List.map_cons, List.map_nil]); first | done | rfl) ?_; refine (impl_WireCut.calls ki a0 A7 c7 l1 xs b _ (Kd.R_reads' GX.out).2.2 (Kd.R_reads' GX.out).2.1 (by omega) HI.out).mono ?_; rintro e w4 ⟨v30, rfl, h30, hb30⟩; refine ⟨_, rfl, ?_⟩; obtain ⟨A8, c8, rfl⟩ := Kd.S_slice h30; have ST := Aside0.mk (St.mk (below_then HB3.out HB3.out.size hb30) HB2'.out.size GN.out hb30.size (Kd.S_below G0'.out hb30) (Kd.R_below GX.out hb30) (Kd.S_lower (Kd.S_mono (Kd.S_bound h30) (ok' := fun k => w3.heap.size ≤ k) (fun k hk => hk.2.1)) HB3.out.size)); clear h30 hb30 G0' GX GN HB2' HB3) | ((with_reducible refine gate_callee (f := 9) rfl ?_); refine goesL_ (some 35) rfl rfl Try.func9 (by kernel_rfl) rfl #[.slice A8 xs.length c8, .slice A5 xs.length c5] rfl (by (try simp only [List.map_toArray, List.map_cons, List.map_nil]); first | done | rfl) ?_; refine (laws_eqWireWordS.calls ke A8 c8 xs A5 c5 xs true _ (Kd.S_reads' ST.out.G).2.2 (Kd.S_reads' ST.out.G).2.1 (Kd.S_reads' ST.out.S0).2.2 (Kd.S_reads' ST.out.S0).2.1 HE.out).mono ?_; rintro e w5 ⟨rfl, hb35⟩; refine ⟨_, rfl, ?_⟩; have ST2 := Aside0.mk (ST.out.below hb35); clear hb35 ST; have ST := ST2; clear ST2) | ((with_reducible refine gate_callee (f := 7) rfl ?_); refine goesL_ (some 44) rfl rfl Try.func7 (by kernel_rfl) rfl #[.slice A1 l1.length c1] rfl (by (try simp only [List.map_toArray, List.map_cons, List.map_nil]); first | done | rfl) ?_; refine (laws_toByteS.calls kt A1 c1 l1 l1 _ (Kd.C_below HR.out ST.out.B) HC.out HT.out).mono ?_; rintro e w6 ⟨v44, rfl, h44, hb44⟩; refine ⟨_, rfl, ?_⟩; obtain ⟨A44, c44, rfl⟩ := Kd.R_slice h44; have G44 := Aside0.mk (Kd.R_reads' h44); have ST2 := Aside0.mk (ST.out.below hb44); clear h44 hb44 ST; have ST := ST2; clear ST2) | ((with_reducible refine gate_callee (f := 10) rfl ?_); refine goesL_ (some 45) rfl rfl Try.func10 (by kernel_rfl) rfl #[.slice A7 l1.length c7, .slice A44 l1.length c44] rfl (by (try simp only [List.map_toArray, List.map_cons, List.map_nil]); first | done | rfl) ?_; refine (laws_eqByteS.calls kb A7 c7 l1 A44 c44 l1 true _ (Kd.R_reads' ST.out.X).2.2 (Kd.R_reads' ST.out.X).2.1 G44.out.2.2 G44.out.2.1 HQ.out).mono ?_; rintro e w7 ⟨rfl, hd45⟩; refine ⟨_, rfl, ?_⟩; have ST2 := Aside0.mk (ST.out.below hd45.below); clear hd45 ST G44; have ST := ST2; clear ST2) | ((with_reducible refine gate_callee (f := 11) rfl ?_); refine goesL_ (some 49) rfl rfl Try.func11 (by kernel_rfl) rfl #[.slice A7 l1.length c7, .int .i64 1] rfl (by (try simp only [List.map_toArray, List.map_cons, List.map_nil]); first | done | rfl) ?_; refine (laws_markByteS.calls _ _ _ _ _ _ _ w _ ST.out.B ST.out.X HM.out).mono ?_; rintro e w8 ⟨rfl, hr49, hb49, hk49⟩; refine ⟨_, rfl, ?_⟩; have ST2 := Aside0.mk (ST.out.markX hb49 hr49 hk49); clear hr49 hb49 hk49 ST; have ST := ST2; clear ST2) | ((with_reducible refine gate_callee (f := 12) rfl ?_); refine goesL_ (some 65) rfl rfl Try.func12 (by kernel_rfl) rfl #[.slice A8 xs.length c8, .int .i64 1] rfl (by (try simp only [List.map_toArray, List.map_cons, List.map_nil]); first | done | rfl) ?_; refine (markWire _ _ xs w _ ST.out.B ST.out.G HL.out HF.out).mono ?_; rintro e w9 ⟨rfl, hr65, hb65, hk65⟩; refine ⟨_, rfl, ?_⟩; have ST2 := Aside0.mk (ST.out.markG hb65 hr65 hk65); clear hr65 hb65 hk65 ST; have ST := ST2; clear ST2) | ((with_reducible refine gate_callee (f := 13) rfl ?_); refine goesL_ (some 68) rfl rfl Try.func13 (by kernel_rfl) rfl #[.slice A8 xs.length c8, .int .i64 1] rfl (by (try simp only [List.map_toArray, List.map_cons, List.map_nil]); first | done | rfl) ?_; refine (held_calls kh A8 c8 xs (cntA 1 xs) _ (Kd.S_reads' ST.out.G) HH.out).mono ?_; rintro e w10 ⟨rfl, hd68⟩; refine ⟨_, rfl, ?_⟩; have ST2 := Aside0.mk (ST.out.below hd68.below); clear hd68 ST; have ST := ST2; clear ST2) | ((with_reducible refine gate_callee (f := 7) rfl ?_); refine goesL_ (some 77) rfl rfl Try.func7 (by kernel_rfl) rfl #[.slice A1 l1.length c1] rfl (by (try simp only [List.map_toArray, List.map_cons, List.map_nil]); first | done | rfl) ?_; refine (laws_toByteS.calls kt A1 c1 l1 l1 _ (Kd.C_below HR.out ST.out.B) HC.out HT.out).mono ?_; rintro e w11 ⟨v77, rfl, h77, hb77⟩; refine ⟨_, rfl, ?_⟩; obtain ⟨A77, c77, rfl⟩ := Kd.R_slice h77; have G77 := Aside0.mk (Kd.R_reads' h77); have ST2 := Aside0.mk (ST.out.below hb77); clear h77 hb77 ST; have ST := ST2; clear ST2) | ((with_reducible refine gate_callee (f := 8) rfl ?_); refine goesL_ (some 78) rfl rfl Try.func8 (by kernel_rfl) rfl #[.int .i64 a0, .slice A77 l1.length c77] rfl (by (try simp only [List.map_toArray, List.map_cons, List.map_nil]); first | done | rfl) ?_; refine (impl_WireCut.calls ki a0 A77 c77 l1 xs b _ G77.out.2.2 G77.out.2.1 (by omega) HI.out).mono ?_; rintro e w12 ⟨v78, rfl, h78, hb78⟩; refine ⟨_, rfl, ?_⟩; obtain ⟨A13, c13, rfl⟩ := Kd.S_slice h78; have G13 := Aside0.mk (Kd.S_reads' h78); have ST2 := Aside0.mk (ST.out.below hb78); clear h78 hb78 ST G77; have ST := ST2; clear ST2) | ((with_reducible refine gate_callee (f := 9) rfl ?_); refine goesL_ (some 83) rfl rfl Try.func9 (by kernel_rfl) rfl #[.slice A13 xs.length c13, .slice A5 xs.length c5] rfl (by (try simp only [List.map_toArray, List.map_cons, List.map_nil]); first | done | rfl) ?_; refine (laws_eqWireWordS.calls ke A13 c13 xs A5 c5 xs true _ G13.out.2.2 G13.out.2.1 (Kd.S_reads' ST.out.S0).2.2 (Kd.S_reads' ST.out.S0).2.1 HE.out).mono ?_; rintro e w13 ⟨rfl, hb83⟩; refine ⟨_, rfl, ?_⟩; have ST2 := Aside0.mk (ST.out.below hb83); clear hb83 ST G13; have ST := ST2; clear ST2) | ((with_reducible refine gate_callee (f := 13) rfl ?_); refine goesL_ (some 92) rfl rfl Try.func13 (by kernel_rfl) rfl #[.slice A8 xs.length c8, .int .i64 1] rfl (by (try simp only [List.map_toArray, List.map_cons, List.map_nil]); first | done | rfl) ?_; refine (held_calls kh A8 c8 xs (cntA 1 xs) _ (Kd.S_reads' ST.out.G) HH.out).mono ?_; rintro e w10 ⟨rfl, hd68⟩; refine ⟨_, rfl, ?_⟩; have ST2 := Aside0.mk (ST.out.below hd68.below); clear hd68 ST; have ST := ST2; clear ST2) | (go_at_call 9; refine (laws_eqWireWordS.calls ke A8 c8 xs A5 c5 xs true _ (Kd.S_reads' ST.out.G).2.2 (Kd.S_reads' ST.out.G).2.1 (Kd.S_reads' ST.out.S0).2.2 (Kd.S_reads' ST.out.S0).2.1 HE.out).mono ?_; rintro e w5 ⟨rfl, hb35⟩; have ST2 := Aside0.mk (ST.out.below hb35); clear hb35 ST; have ST := ST2; clear ST2))
    go_ret
    exact ⟨rfl, ST.out.B⟩
theorem walkWireCut (a0 : Int) (a1 : Option Addr) (len1 cap1 : Nat) (z1 : List Int) (w : World) (w0 : (Lit.int .i64 a0).wf = true) (w1 : (a1 = none ∧ len1 = 0 ∧ cap1 = 0 ∧ z1 = []) ∨ ∃ x, a1 = some x ∧ len1 ≤ cap1 ∧ cap1 ≤ maxLen ∧ z1.length = cap1 ∧ (∀ i, i < z1.length → w.cell? (x.add i) = some (.int .u8 (z1.getD i 0))) ∧ ∀ n ∈ z1, (Lit.int .u8 n).wf = true) (y1 : len1 * 1 ≤ 140737488351232) :
    Calls Try.prog 3 #[.int .i64 a0, .slice a1 len1 cap1] w fun e w' => e = .returned (.bool true) ∧ Below w.heap.size w w' := by
  obtain ⟨l1, rfl, hr1, hm1, hw1, hc1⟩ := ReadsInt.ofRowC w1
  exact lawWireCut a0 _ _ l1 w (Kd.C_of_reads (d := (0 : Int)) (h1 := fun _ => rfl) hr1) hc1
end Go.Proofs.Ytongoeifppllnaa.C
