/- Functions of this seat as Lean functions, and that the Go code comes to their answers: laid by a program (the kit's printer over all laws of the seat at once, some walks turned by the session's own fix.py). -/
import Derived.Test.YtpjkpmgelmjlnaaShelf
import Derived.Test.YtpjkpmgelmjlnaaBld
import Derived.Test.YtpjkpmgelmjlnaaJx0
import Derived.Test.YtpjkpmgelmjlnaaJx1
import Derived.Test.YtpjkpmgelmjlnaaJx2
import Derived.Test.YtpjkpmgelmjlnaaJx3
namespace Go.Proofs.Ytpjkpmgelmjlnaa.J
open Go.RowKit Go.Proofs.YtpjkpmgelmjlnaaW.PrintWords Go.Proofs.YtpjkpmgelmjlnaaW.PrintLast Go.Proofs.YtpjkpmgelmjlnaaW.PrintMore
attribute [local go_sem] max2_int min2_int max_two min_two max_three min_three max_four min_four   -- for this text's walks alone
set_option linter.unusedVariables false
set_option linter.unusedSimpArgs false

/-! ### impl_BitList: function 31 -/
def impl_BitList.l0 : Nat → List Bool → Int → Int → Int → Int → Option (List Bool)
  | 0, _, _, _, _, _ => none
  | k + 1, x3, x11, x12, x126000, x126001 => if x12 < x11 then (if 0 ≤ (wrap64 ((wrap64 (x126001 - 1)) - x12)) then (if 0 ≤ x12 then (if x12 < (x3.length : Int) then (impl_BitList.l0 k (x3.set (x12 : Int).toNat ((Go.bits .and .u16 (shr .u16 x126000 (wrap64 ((wrap64 (x126001 - 1)) - x12))) 1) == 1)) x11 (wrap64 (x12 + 1)) x126000 x126001) else (none)) else (none)) else (none)) else (some x3)
def impl_BitList.f (k : Nat) (a0_0 : Int) (a0_1 : Int) : Option (List Bool) := (impl_BitStack_taken.f a0_0 a0_1).bind fun bt126 => (if 0 ≤ bt126.2 then (if (bt126.2 : Int).toNat ≤ 281474976710656 then ((some (List.replicate (bt126.2 : Int).toNat false : List Bool)).bind fun y128 => (impl_BitList.l0 k y128 (y128.length : Int) 0 bt126.1 bt126.2)) else (none)) else (none))
theorem impl_BitList.mono_l : ∀ k, (∀ y0 y1 y2 y3 y4, LeO (impl_BitList.l0 k y0 y1 y2 y3 y4) (impl_BitList.l0 (k + 1) y0 y1 y2 y3 y4))
  | 0 => fun _ _ _ _ _ r h => by simp [impl_BitList.l0] at h
  | k + 1 => by
    have ih0 := impl_BitList.mono_l k
    · intro y0 y1 y2 y3 y4
      unfold impl_BitList.l0
      repeat' first
      | (with_reducible exact ih0 _ _ _ _ _)
      | (with_reducible exact LeO.refl _)
      | (with_reducible exact LeO.none _)
      | (with_reducible refine LeO.ite ?_ ?_)
      | (with_reducible refine LeO.bind ?_ (fun _ => ?_))
      | exact ih0 _ _ _ _ _
      | exact LeO.none _
      | refine LeO.ite ?_ ?_
      | refine LeO.bind ?_ (fun _ => ?_)
theorem impl_BitList.mono : ∀ a0 a1 k, LeO (impl_BitList.f k a0 a1) (impl_BitList.f (k + 1) a0 a1) := by
  intro a0 a1 k
  have ih0 := impl_BitList.mono_l k
  unfold impl_BitList.f
  repeat' first
      | (with_reducible exact ih0 _ _ _ _ _)
      | (with_reducible exact LeO.refl _)
      | (with_reducible exact LeO.none _)
      | (with_reducible refine LeO.ite ?_ ?_)
      | (with_reducible refine LeO.bind ?_ (fun _ => ?_))
      | exact ih0 _ _ _ _ _
      | exact LeO.none _
      | refine LeO.ite ?_ ?_
      | refine LeO.bind ?_ (fun _ => ?_)
set_option maxHeartbeats 8000000 in
set_option maxRecDepth 100000 in
theorem impl_BitList.calls (k : Nat) (a0_0 : Int) (a0_1 : Int) (r : List Bool) (w : World) (h : impl_BitList.f k a0_0 a0_1 = some r) :
    Calls Try.prog 31 #[.agg #[.int .u16 a0_0, .int .i64 a0_1]] w fun e w' => ∃ v0_ : Value, e = .returned (v0_) ∧ Kd.R Kd.bool 4 w' w.heap.size (fun _ => True) v0_ r ∧ Below w.heap.size w w' := by
  have hu26 := Try.underlying26
  have HB := Aside0.mk (Below.refl w.heap.size w)
  have H : ((impl_BitStack_taken.f a0_0 a0_1).bind fun bt126 => (if 0 ≤ bt126.2 then (if (bt126.2 : Int).toNat ≤ 281474976710656 then ((some (List.replicate (bt126.2 : Int).toNat false : List Bool)).bind fun y128 => (impl_BitList.l0 k y128 (y128.length : Int) 0 bt126.1 bt126.2)) else (none)) else (none))) = some r := h
  clear h
  replace H := Option.bind_eq_some_iff.mp H
  obtain ⟨⟨t126, t127⟩, A20, H⟩ := H
  replace H : (if 0 ≤ t127 then (if (t127 : Int).toNat ≤ 281474976710656 then ((some (List.replicate (t127 : Int).toNat false : List Bool)).bind fun y128 => (impl_BitList.l0 k y128 (y128.length : Int) 0 t126 t127)) else (none)) else (none)) = some r := H
  have A2 := Aside0.mk A20
  clear A20
  by_cases c3 : 0 ≤ t127
  · rw [if_pos c3] at H
    have c3b0 := eq_true c3
    have c3b1 : decide (0 ≤ t127) = true := decide_eq_true c3
    clear c3
    by_cases c4 : (t127 : Int).toNat ≤ 281474976710656
    · rw [if_pos c4] at H
      have c4b0 := eq_true c4
      have c4b1 : decide ((t127 : Int).toNat ≤ 281474976710656) = true := decide_eq_true c4
      clear c4
      obtain ⟨y128, hy128⟩ : ∃ y_ : List Bool, y_ = (List.replicate (t127 : Int).toNat false) := ⟨_, rfl⟩
      replace H : (impl_BitList.l0 k y128 (y128.length : Int) 0 t126 t127) = some r := by first | (rw [hy128]; with_reducible exact H) | (have H2_ := (Option.bind_some _ _).symm.trans H; rw [hy128]; with_reducible exact H2_) | (have H2_ := (Option.bind_some _ _).symm.trans H; with_reducible exact H2_) | with_reducible exact H | (rw [hy128]; exact H) | exact H
      have Ny128 := Aside0.mk hy128
      clear hy128
      have H' := Aside0.mk H
      clear H
      go_enter Try.func31, Try.ntmps31
      go_wp2_with (first | ((with_reducible refine gate_dst (N := 1) rfl ?_); refine box_event ?hg (N := 1) ?hd (cs := #[.int .u16 a0_0, .int .i64 a0_1]) (t := 26) ?hr ?_; (case hd => rfl); (case hg => rfl); (case hr => first | (go_simp; done) | (go_simp; rfl)); intro gb125 hg w5 hbox hb; have n0_ := Aside0.mk (below_step (by repeat (first | (with_reducible first | exact HB.out | apply below_alloc | apply pw_below_drewN | apply below_drew1) | exact HB.out)) hb); have n1_ := Aside0.mk (hbox); have n2_ := Aside0.mk ((by rw [hg]; exact (below_size (by repeat (first | (with_reducible first | exact HB.out | apply below_alloc | apply pw_below_drewN | apply below_drew1) | exact HB.out))) : w.heap.size ≤ gb125)); have n3_ := Aside0.mk ((by rw [hg]; exact (below_size (by repeat (first | (with_reducible first | exact HB.out | apply below_alloc | apply pw_below_drewN | apply below_drew1) | exact HB.out))) : w.heap.size ≤ gb125)); clear HB; have HB := n0_; have BK125 := n1_; have GW125 := n2_; have GE125 := n3_; clear n0_ n1_ n2_ n3_; clear hb hbox hg; have hcz6_0 : w5.cell? ⟨gb125, 0, none⟩ = some (.int .u16 a0_0) := (blk_cell BK125.out 0).trans rfl; have hcz6_1 : w5.cell? ⟨gb125, 1, none⟩ = some (.int .i64 a0_1) := (blk_cell BK125.out 1).trans rfl; have hfz6_0 := blk_frozen BK125.out 0; have hfz6_1 := blk_frozen BK125.out 1) | ((with_reducible refine gate_callee (f := 55) rfl ?_); refine goesL_ (some 6) rfl rfl Try.func55 (by kernel_rfl) rfl #[.agg #[.int .u16 a0_0, .int .i64 a0_1]] rfl (by (try simp only [List.map_toArray, List.map_cons, List.map_nil]); first | done | rfl | (simp only [List.length_drop, List.length_take]; rfl)) ?_; (with_reducible refine (impl_BitStack_taken.calls a0_0 a0_1 t126 t127 _ A2.out).mono ?_); rintro e w7 ⟨rfl, hb⟩; refine ⟨_, rfl, ?_⟩; have n0_ := Aside0.mk (blk_below (g := gb125) (o := .cells #[.int .u16 a0_0, .int .i64 a0_1] 26 (0, 0)) (by (with_reducible repeat (first | refine blk_drewN ?_ _ | refine blk_drew ?_ | refine blk_alloc ?_ _)); exact BK125.out) hb); have n1_ := Aside0.mk (below_step (by repeat (first | (with_reducible first | exact HB.out | apply below_alloc | apply pw_below_drewN | apply below_drew1 | refine below_set ?_ GE125.out) | exact HB.out)) hb); clear BK125; clear HB; have BK125 := n0_; have HB := n1_; clear n0_ n1_; (try clear hb); (try clear hb2); (try clear hk); (try clear hi); have hcz8_0 : w7.cell? ⟨gb125, 0, none⟩ = some (.int .u16 a0_0) := (blk_cell BK125.out 0).trans rfl; have hcz8_1 : w7.cell? ⟨gb125, 1, none⟩ = some (.int .i64 a0_1) := (blk_cell BK125.out 1).trans rfl; have hfz8_0 := blk_frozen BK125.out 0; have hfz8_1 := blk_frozen BK125.out 1) | ((with_reducible refine gate_dst (N := 9) rfl ?_); refine Kd.R_make Kd.bool _ 4 rfl (N := 9) rfl 36 _ _ rfl t127 rfl rfl Try.underlying36 (.bool false) 1 info4 rfl (by decide) (by omega) false (ok := fun _ => True) (okp := fun _ => True) rfl (fun _ hk => hk) trivial (of_decide_eq_true (by first | (with_reducible assumption) | assumption)) (Nat.le_trans (Nat.mul_le_mul_right _ (of_decide_eq_true (by first | (with_reducible assumption) | assumption) : t127.toNat ≤ 281474976710656)) (by omega)) (Below.refl _ _) (Nat.le_refl _) ?_; intro v129 w9 ho10 hb hg_ hnew_; clear hg_ hnew_; (first | rw [← Ny128.out] at ho10 | (simp only [Int.reduceToNat] at ho10; rw [← Ny128.out] at ho10)); have n0_ := Aside0.mk (Kd.R_lower ho10 (below_size (by repeat (first | (with_reducible first | exact HB.out | apply below_alloc | apply pw_below_drewN | apply below_drew1 | refine below_set ?_ GE125.out) | exact HB.out)))); have n1_ := Aside0.mk (blk_below (g := gb125) (o := .cells #[.int .u16 t126, .int .i64 t127] 26 (0, 0)) (by (with_reducible repeat (first | refine blk_drewN ?_ _ | refine blk_drew ?_ | refine blk_alloc ?_ _)); refine blk_put (cs := #[.int .u16 t126, .int .i64 a0_1]) ?_ 1 _ rfl; (with_reducible repeat (first | refine blk_drewN ?_ _ | refine blk_drew ?_ | refine blk_alloc ?_ _)); refine blk_put (cs := #[.int .u16 a0_0, .int .i64 a0_1]) ?_ 0 _ rfl; (with_reducible repeat (first | refine blk_drewN ?_ _ | refine blk_drew ?_ | refine blk_alloc ?_ _)); exact BK125.out) hb); have n2_ := Aside0.mk (below_step (by repeat (first | (with_reducible first | exact HB.out | apply below_alloc | apply pw_below_drewN | apply below_drew1 | refine below_set ?_ GE125.out) | exact HB.out)) hb); clear BK125; clear HB; have HO130 := n0_; have BK125 := n1_; have HB := n2_; clear n0_ n1_ n2_; clear hb ho10; obtain ⟨Ao11, co11, eo11⟩ := Kd.R_slice HO130.out; subst eo11))
      go_loopg [12] k (fun kq v12 w' => ∃ (x3_1 : List Bool) (x12_1 : Int), v12 = .int .i64 x12_1 ∧ Aside0 (impl_BitList.l0 kq x3_1 (y128.length : Int) x12_1 t126 t127 = some r) ∧ Aside0 (kq ≤ k) ∧ Aside0 (Kd.R Kd.bool 4 w' w.heap.size (fun _ => True) (.slice Ao11 y128.length co11) x3_1) ∧ Aside0 (w'.heap[gb125]? = some (.cells #[.int .u16 t126, .int .i64 t127] 26 (0, 0))) ∧ Aside0 (Below w.heap.size w w'))
      case atStart => exact ⟨(y128), (0), (by first | rfl | (simp; done) | (simp [*]; done)), H', ⟨Nat.le_refl _⟩, ⟨by (with_reducible repeat (first | apply Kd.R_alloc | apply Kd.R_drewN | apply Kd.R_drew)); exact HO130.out⟩, ⟨by (with_reducible repeat (first | refine blk_drewN ?_ _ | refine blk_drew ?_ | refine blk_alloc ?_ _)); exact BK125.out⟩, ⟨by repeat (first | (with_reducible first | exact HB.out | apply below_alloc | apply pw_below_drewN | apply below_drew1 | refine below_set ?_ GE125.out) | exact HB.out)⟩⟩
      case round =>
        clear H'
        try clear p2
        try clear c3
        try clear c3b0
        try clear c3b1
        try clear c4
        try clear c4b0
        try clear c4b1
        try clear c5
        try clear hcz6_0
        try clear hcz6_1
        try clear hcz8_0
        try clear hcz8_1
        try clear hfz6_0
        try clear hfz6_1
        try clear hfz8_0
        try clear hfz8_1
        obtain ⟨x3_1, x12_1, rfl, HA, HK1, HO_3, BK125, HB⟩ := hrel
        have hl3_1 := (Kd.R_reads' HO_3.out).1
        rw [hl3_1] at HO_3
        (try simp only [hl3_1])
        (try simp only [hl3_1] at BK125)
        cases gk with
        | zero => exact absurd HA.out (by simp [impl_BitList.l0])
        | succ k1 =>
          have H := HA.out
          clear HA
          simp only [impl_BitList.l0] at H
          by_cases c12 : x12_1 < (y128.length : Int)
          · rw [if_pos c12] at H
            have c12b0 : decide (x12_1 < (y128.length : Int)) = true := decide_eq_true c12
            clear c12
            obtain ⟨ji13, hji13⟩ : ∃ j_ : Int, (wrap64 ((wrap64 (t127 - 1)) - x12_1)) = j_ := ⟨_, rfl⟩
            replace H : (if 0 ≤ (ji13) then (if 0 ≤ x12_1 then (if x12_1 < (x3_1.length : Int) then (impl_BitList.l0 k1 (x3_1.set (x12_1 : Int).toNat ((Go.bits .and .u16 (shr .u16 t126 (ji13)) 1) == 1)) (y128.length : Int) (wrap64 (x12_1 + 1)) t126 t127) else (none)) else (none)) else (none)) = some r := by first | (rw [hji13] at H; exact H) | (simp only [hji13] at H ⊢; exact H)
            have hji13w : (IntKind.i64.wrap ((wrap64 (t127 - 1)) - x12_1)) = ji13 := (i64_w _).trans hji13
            by_cases c14 : 0 ≤ (ji13)
            · rw [if_pos c14] at H
              have c14b0 := eq_true c14
              have c14b1 : decide (0 ≤ (ji13)) = true := decide_eq_true c14
              clear c14
              obtain ⟨ji15, hji15⟩ : ∃ j_ : Int, (shr .u16 t126 (ji13)) = j_ := ⟨_, rfl⟩
              replace H : (if 0 ≤ x12_1 then (if x12_1 < (x3_1.length : Int) then (impl_BitList.l0 k1 (x3_1.set (x12_1 : Int).toNat ((Go.bits .and .u16 (ji15) 1) == 1)) (y128.length : Int) (wrap64 (x12_1 + 1)) t126 t127) else (none)) else (none)) = some r := by first | (rw [hji15] at H; exact H) | (simp only [hji15] at H ⊢; exact H)
              have hji15_ : (t126 / 2 ^ min (ji13).toNat 16) = ji15 := hji15
              have hji15z : (ji13) ≤ 16 → (t126 / 2 ^ (ji13).toNat) = ji15 := shr_small hji15
              by_cases c16 : 0 ≤ x12_1
              · rw [if_pos c16] at H
                have c16b0 : decide (0 ≤ x12_1) = true := decide_eq_true c16
                clear c16
                by_cases c17 : x12_1 < (x3_1.length : Int)
                · rw [if_pos c17] at H
                  have c17b0 : decide (x12_1 < (x3_1.length : Int)) = true := decide_eq_true c17
                  clear c17
                  obtain ⟨y131, hy131⟩ : ∃ y_ : List Bool, y_ = (x3_1.set (x12_1 : Int).toNat ((Go.bits .and .u16 (ji15) 1) == 1)) := ⟨_, rfl⟩
                  replace H : (impl_BitList.l0 k1 y131 (y128.length : Int) (wrap64 (x12_1 + 1)) t126 t127) = some r := by first | (rw [hy131]; with_reducible exact H) | (have H2_ := (Option.bind_some _ _).symm.trans H; rw [hy131]; with_reducible exact H2_) | (have H2_ := (Option.bind_some _ _).symm.trans H; with_reducible exact H2_) | with_reducible exact H | (rw [hy131]; exact H) | exact H
                  have Ny131 := Aside0.mk hy131
                  clear hy131
                  have H' := Aside0.mk H
                  clear H
                  have hcz19_0 : wr.cell? ⟨gb125, 0, none⟩ = some (.int .u16 t126) := (blk_cell BK125.out 0).trans rfl
                  have hcz19_1 : wr.cell? ⟨gb125, 1, none⟩ = some (.int .i64 t127) := (blk_cell BK125.out 1).trans rfl
                  have hfz19_0 := blk_frozen BK125.out 0
                  have hfz19_1 := blk_frozen BK125.out 1
                  have p18 : 0 ≤ (x12_1 : Int) := of_decide_eq_true (by first | (with_reducible assumption) | assumption)
                  have q18 : (x12_1 : Int) < ((x3_1.length : Int) : Int) := of_decide_eq_true (by first | (with_reducible assumption) | assumption)
                  obtain ⟨go18, co18, eo18, gb18, gl18, cl18, HG18⟩ := Kd.R_form HO_3.out (by omega)
                  (first | cases eo18 | (injection eo18 with ea_ en_ ec_; (first | subst ea_ | (injection ea_ with ea_; subst ea_)); subst ec_; clear en_))
                  have GB18 := Aside0.mk gb18
                  have GG18 := Aside0.mk HG18
                  clear gb18 gl18 HG18
                  obtain ⟨hx18_0, hf18_0⟩ := Kd.R_celln false HO_3.out (x12_1 : Int) p18 q18
                  replace p18 := eq_true p18
                  replace q18 := eq_true q18
                  have HP20 := Kd.R_putg HO_3.out (x12_1 : Int) ((Go.bits .and .u16 (ji15) 1) == 1)
                  go_wp2_with (first | ((with_reducible refine gate_store (t := 4) (p := 27) rfl ?_); refine store_event (t := 4) (p := 27) (v := ?vo_w21) (w1 := (wr.setCell ⟨go18, (x12_1 : Int).toNat, none⟩ (.bool ((Go.bits .and .u16 (ji15) 1) == 1)))) ?hg ?ho ?hn ?hr ?_; (case ho => rfl); (case hg => rfl); (case hn => rfl); (case hr => first | (go_simp; done) | (go_simp; rfl)); intro w21 hw; have hg : wr.grownBy w21 (some go18) := (by rw [hw]; exact HP20.2); have hp_ : Kd.R Kd.bool 4 w21 w.heap.size (fun _ => True) (.slice (some ⟨go18, 0, none⟩) x3_1.length co11) y131 := (by rw [hw, Ny131.out]; exact HP20.1); clear HP20; have n0_ := Aside0.mk (hp_); have n1_ := Aside0.mk (blk_grown (g := gb125) (o := .cells #[.int .u16 t126, .int .i64 t127] 26 (0, 0)) (by (with_reducible repeat (first | refine blk_drewN ?_ _ | refine blk_drew ?_ | refine blk_alloc ?_ _)); exact BK125.out) hg (Kd.R_ne HO_3.out BK125.out (by decide))); have n2_ := Aside0.mk ((by rw [hw]; exact below_set (HB.out) GB18.out : Below w.heap.size w w21)); clear HO_3; clear BK125; clear HB; have HO_3 := n0_; have BK125 := n1_; have HB := n2_; clear n0_ n1_ n2_; clear hg hw hp_))
                  (try simp only [← hl3_1])
                  go_roundg k1
                  case measure => have := HK1.out; omega
                  case rel => exact ⟨(y131), (wrap64 (x12_1 + 1)), (by first | rfl | (simp; done) | (simp [*]; done)), H', ⟨by have := HK1.out; omega⟩, ⟨by (try simp only [hl3_1]); (with_reducible repeat (first | apply Kd.R_alloc | apply Kd.R_drewN | apply Kd.R_drew)); exact HO_3.out⟩, ⟨by (try simp only [hl3_1]); (with_reducible repeat (first | refine blk_drewN ?_ _ | refine blk_drew ?_ | refine blk_alloc ?_ _)); exact BK125.out⟩, ⟨by repeat (first | (with_reducible first | exact HB.out | apply below_alloc | apply pw_below_drewN | apply below_drew1 | refine below_set ?_ GE125.out) | exact HB.out)⟩⟩
                · rw [if_neg c17] at H
                  exact absurd H (by simp)
              · rw [if_neg c16] at H
                exact absurd H (by simp)
            · rw [if_neg c14] at H
              exact absurd H (by simp)
          · rw [if_neg c12] at H
            have c12b0 : decide (x12_1 < (y128.length : Int)) = false := decide_eq_false c12
            clear c12
            (try rw [hl3_1] at c12b0)
            obtain rfl := Option.some.inj H
            go_wp2
            go_ret
            exact ⟨_, by first | rfl | (simp [errW_none, errW_some] <;> rfl) | (simp [*, errW_none, errW_some] <;> rfl), by (with_reducible repeat (first | apply Kd.R_alloc | apply Kd.R_drewN | apply Kd.R_drew)); exact HO_3.out, by repeat (first | (with_reducible first | exact HB.out | apply below_alloc | apply pw_below_drewN | apply below_drew1 | refine below_set ?_ GE125.out) | exact HB.out)⟩
    · rw [if_neg c4] at H
      exact absurd H (by simp)
  · rw [if_neg c3] at H
    exact absurd H (by simp)

/-! ### impl_bit: function 58 -/
def impl_bit.f (a0 : Bool) : Option (Int) := if a0 = true then (some 1) else (some 0)
set_option maxHeartbeats 8000000 in
set_option maxRecDepth 100000 in
theorem impl_bit.calls (a0 : Bool) (r : Int) (w : World) (h : impl_bit.f a0 = some r) :
    Calls Try.prog 58 #[.bool a0] w fun e w' => e = .returned (.int .u64 r) ∧ Drawn0 w w' := by
  have H : (if a0 = true then (some 1) else (some 0)) = some r := h
  clear h
  by_cases c2 : a0 = true
  · subst c2
    have H1 : (some 1) = some r := by rw [if_pos rfl] at H; exact H
    clear H
    have H := H1
    clear H1
    obtain rfl := Option.some.inj H
    go_enter Try.func58, Try.ntmps58
    go_wp2
    go_ret
    exact ⟨by first | rfl | (simp; done) | (simp [*]; done), by repeat (first | exact Drawn0.refl _ | apply Drawn0.step)⟩
  · replace c2 := Bool.eq_false_iff.mpr c2
    subst c2
    have H1 : (some 0) = some r := by rw [if_neg (show ¬ (false = true) by decide)] at H; exact H
    clear H
    have H := H1
    clear H1
    obtain rfl := Option.some.inj H
    go_enter Try.func58, Try.ntmps58
    go_wp2
    go_ret
    exact ⟨by first | rfl | (simp; done) | (simp [*]; done), by repeat (first | exact Drawn0.refl _ | apply Drawn0.step)⟩

-- NOT PRINTED: function 75 (abi_NoEscape)

-- NOT PRINTED: function 72 (strings_Builder_copyCheck)

-- NOT PRINTED: function 64 (strings_Builder_WriteByte)

-- NOT PRINTED: function 65 (strings_Builder_String)

/-! ### impl_BitText: function 47 -/
theorem bld_below {T e : TypeId} {B b : Nat} {bs : List Value} {W W' : World} (h : Lib.IsBuilderF T e B b bs W) (hb : Below W.heap.size W W') : Lib.IsBuilderF T e B b bs W' := by
  have one : ∀ p, Lib.BuilderAtF T e B b p bs W → Lib.BuilderAtF T e B b p bs W' := by
    intro p h
    obtain ⟨hB, v, hv, hown, hne⟩ := h
    exact ⟨hB, v, (hb.block b (blk_lt hv)).trans hv, hown.kept (row := none) ⟨hb.os, hb.tape, hb.output, hb.size, fun k hk _ => hb.block k hk⟩ (Classical.em _), hne⟩
  exact h.imp (one _) (one _)
theorem byte_step (l : List Bool) (i : Nat) (h : i < l.length) (f : Bool → UInt8) (c : UInt8) (n : Int) (hn : n = ((f l[i]).toNat : Int)) : Lib.byteCells (c :: (l.take i).map f) ++ [.int .u8 n] = Lib.byteCells (c :: (l.take (i + 1)).map f) := by
  subst hn
  rw [List.take_succ_eq_append_getElem h]
  simp only [Lib.byteCells, List.map_cons, List.map_append, List.map_nil, List.cons_append]
def bitChar (c : Bool) : UInt8 := if c then 49 else 48
def impl_BitText.f (k : Nat) (a0_0 : Int) (a0_1 : Int) : Option (ByteArray) := (impl_BitOk.f a0_0 a0_1).bind fun t133 => (if t133 = true then ((impl_BitList.f k a0_0 a0_1).bind fun t134 => (if t134.length ≤ 1000000 then (some (⟨(124 :: t134.map bitChar).toArray⟩ : ByteArray)) else none)) else (some (⟨#[]⟩ : ByteArray)))
theorem row_other {w w1 : World} {base : Nat} {ok : Nat → Prop} {v : Value} {xs : List Bool} {b : Nat} (h : Kd.R Kd.bool 4 w base ok v xs) (hne : ∀ k, ok k → k ≠ b) (hk : Lib.OthersKept 5 (some b) w w1) : Kd.R Kd.bool 4 w1 base ok v xs := by
  refine Kd.R_mono (Kd.R_move (Kd.R_bound h) (fun k hk' => ?_)) (fun _ h => h.1)
  obtain ⟨h1, h2, h3, q, hq, cells, hc⟩ := hk'
  have hq4 : q = 4 := by
    rcases List.mem_cons.1 hq with h5 | h5
    · exact h5
    · have h6 : q ∈ ([] : List Nat) := h5
      cases h6
  subst hq4
  rw [hc]
  exact hk k _ hc (by intro e; exact hne k h1 (Option.some.inj e)) (by intro c fz e; injection e with _ e2 _; cases e2)
theorem box_other {w w1 : World} {g b : Nat} {cs : Array Value} (h : w.heap[g]? = some (.cells cs 26 (0, 0))) (hne : g ≠ b) (hk : Lib.OthersKept 5 (some b) w w1) : w1.heap[g]? = some (.cells cs 26 (0, 0)) :=
  hk g _ h (by intro e; exact hne (Option.some.inj e)) (by intro c fz e; injection e with _ e2 _; cases e2)

theorem impl_BitText.mono : ∀ a0 a1 k, LeO (impl_BitText.f k a0 a1) (impl_BitText.f (k + 1) a0 a1) := by
  intro a0 a1 k
  unfold impl_BitText.f
  repeat' first
      | (with_reducible exact impl_BitList.mono _ _ _)
      | (with_reducible exact LeO.refl _)
      | (with_reducible exact LeO.none _)
      | (with_reducible refine LeO.ite ?_ ?_)
      | (with_reducible refine LeO.bind ?_ (fun _ => ?_))
      | exact impl_BitList.mono _ _ _
      | exact LeO.none _
      | refine LeO.ite ?_ ?_
      | refine LeO.bind ?_ (fun _ => ?_)
set_option maxHeartbeats 8000000 in
set_option maxRecDepth 100000 in
theorem impl_BitText.calls (k : Nat) (a0_0 : Int) (a0_1 : Int) (r : ByteArray) (w : World) (h : impl_BitText.f k a0_0 a0_1 = some r) :
    Calls Try.prog 47 #[.agg #[.int .u16 a0_0, .int .i64 a0_1]] w fun e w' => e = .returned (.string r) ∧ Below w.heap.size w w' := by
  have hu26 := Try.underlying26
  have HB := Aside0.mk (Below.refl w.heap.size w)
  unfold impl_BitText.f at h
  obtain ⟨t133, A20, H⟩ := Option.bind_eq_some_iff.mp h
  clear h
  have A2 := Aside0.mk A20
  clear A20
  by_cases c3 : t133 = true
  · subst c3
    rw [if_pos rfl] at H
    obtain ⟨t134, A40, H⟩ := Option.bind_eq_some_iff.mp H
    have A4 := Aside0.mk A40
    clear A40
    by_cases c4 : t134.length ≤ 1000000
    · rw [if_pos c4] at H
      obtain rfl := Option.some.inj H
      clear H
      have LM := Aside0.mk c4
      clear c4
      go_enter Try.func47, Try.ntmps47
      go_wp2_with (first | ((with_reducible refine gate_dst (N := 1) rfl ?_); refine box_event ?hg (N := 1) ?hd (cs := #[.int .u16 a0_0, .int .i64 a0_1]) (t := 26) ?hr ?_; (case hd => rfl); (case hg => rfl); (case hr => first | (go_simp; done) | (go_simp; rfl)); intro gb132 hg w5 hbox hb; have n0_ := Aside0.mk (below_step (by repeat (first | (with_reducible first | exact HB.out | apply below_alloc | apply pw_below_drewN | apply below_drew1) | exact HB.out)) hb); have n1_ := Aside0.mk (hbox); have n3_ := Aside0.mk ((by rw [hg]; exact (below_size (by repeat (first | (with_reducible first | exact HB.out | apply below_alloc | apply pw_below_drewN | apply below_drew1) | exact HB.out))) : w.heap.size ≤ gb132)); clear HB; have HB := n0_; have BK132 := n1_; have GE132 := n3_; clear n0_ n1_ n3_; clear hb hbox hg; have hcz6_0 : w5.cell? ⟨gb132, 0, none⟩ = some (.int .u16 a0_0) := (blk_cell BK132.out 0).trans rfl; have hcz6_1 : w5.cell? ⟨gb132, 1, none⟩ = some (.int .i64 a0_1) := (blk_cell BK132.out 1).trans rfl) | ((with_reducible refine gate_callee (f := 28) rfl ?_); refine goesL_ (some 7) rfl rfl Try.func28 (by kernel_rfl) rfl #[.agg #[.int .u16 a0_0, .int .i64 a0_1]] rfl (by (try simp only [List.map_toArray, List.map_cons, List.map_nil]); first | done | rfl) ?_; (with_reducible refine (impl_BitOk.calls a0_0 a0_1 true _ A2.out).mono ?_); rintro e w7 ⟨rfl, hb⟩; refine ⟨_, rfl, ?_⟩; have n0_ := Aside0.mk (blk_below (g := gb132) (o := .cells #[.int .u16 a0_0, .int .i64 a0_1] 26 (0, 0)) (by (with_reducible repeat (first | refine blk_drewN ?_ _ | refine blk_drew ?_ | refine blk_alloc ?_ _)); exact BK132.out) hb); have n1_ := Aside0.mk (below_step (by repeat (first | (with_reducible first | exact HB.out | apply below_alloc | apply pw_below_drewN | apply below_drew1 | refine below_set ?_ GE132.out) | exact HB.out)) hb); clear BK132; clear HB; have BK132 := n0_; have HB := n1_; clear n0_ n1_; (try clear hb); have hcz_w7_0 : w7.cell? ⟨gb132, 0, none⟩ = some (.int .u16 a0_0) := (blk_cell BK132.out 0).trans rfl; have hcz_w7_1 : w7.cell? ⟨gb132, 1, none⟩ = some (.int .i64 a0_1) := (blk_cell BK132.out 1).trans rfl))
      refine (Bld.writeByte w7.heap.size w7.heap.size [] 124 _ (Lib.IsBuilderF.of (Lib.fresh_isBuilder 73 5 w7)) (by simp) (by simp)).mono ?_
      rintro e w8 ⟨rfl, hbld, hb8, hk8⟩
      have hsz : w.heap.size ≤ w7.heap.size := below_size HB.out
      have hlt : gb132 < w7.heap.size := blk_lt BK132.out
      have hs8 : w7.heap.size + 1 ≤ w8.heap.size := by have := hb8.size; simp at this; omega
      have BK8 := Aside0.mk (box_other (b := w7.heap.size) (blk_alloc BK132.out _) (by omega) hk8)
      have HB8 := Aside0.mk (((HB.out).alloc hsz _).trans (hb8.mono hsz))
      have HU := Aside0.mk (show Lib.IsBuilderF 73 5 w7.heap.size w7.heap.size (Lib.byteCells (124 :: (t134.take 0).map bitChar)) w8 from Or.inr hbld)
      clear hbld hb8 hk8 BK132 HB
      have BK132 := BK8
      have HB := HB8
      clear BK8 HB8
      have hcz_w8_0 : w8.cell? ⟨gb132, 0, none⟩ = some (.int .u16 a0_0) := (blk_cell BK132.out 0).trans rfl
      have hcz_w8_1 : w8.cell? ⟨gb132, 1, none⟩ = some (.int .i64 a0_1) := (blk_cell BK132.out 1).trans rfl
      obtain ⟨gB, hgB⟩ : ∃ g, g = w7.heap.size := ⟨_, rfl⟩
      rw [← hgB] at hsz hlt hs8 HU ⊢
      clear hgB
      go_wp2_with (first | ((with_reducible refine gate_callee (f := 31) rfl ?_); refine goesL_ (some 11) rfl rfl Try.func31 (by kernel_rfl) rfl #[.agg #[.int .u16 a0_0, .int .i64 a0_1]] rfl (by (try simp only [List.map_toArray, List.map_cons, List.map_nil]); first | done | rfl) ?_; (with_reducible refine (impl_BitList.calls k a0_0 a0_1 t134 _ A4.out).mono ?_); rintro e w9 ⟨v135, rfl, ho0, hb⟩; refine ⟨_, rfl, ?_⟩; obtain ⟨Ao9, co9, eo9⟩ := Kd.R_slice ho0; subst eo9; have HO := Aside0.mk (Kd.R_mono (Kd.R_bound ho0) (ok' := fun k_ => k_ ≠ gB) (fun k_ h_ => by have := h_.2.1; omega)); have n0_ := Aside0.mk (blk_below (g := gb132) (o := .cells #[.int .u16 a0_0, .int .i64 a0_1] 26 (0, 0)) BK132.out hb); have n1_ := Aside0.mk (below_step (by repeat (first | (with_reducible first | exact HB.out | apply below_alloc | apply pw_below_drewN | apply below_drew1 | refine below_set ?_ GE132.out) | exact HB.out)) hb); have n2_ := Aside0.mk (bld_below HU.out hb); have hs9 : gB + 1 ≤ w9.heap.size := Nat.le_trans hs8 hb.size; clear BK132 HB HU hs8; have BK132 := n0_; have HB := n1_; have HU := n2_; clear n0_ n1_ n2_; clear hb ho0))
      have HS := Aside0.mk hs9
      clear hs9 BK132 GE132 hcz6_0 hcz6_1 hcz_w7_0 hcz_w7_1 hcz_w8_0 hcz_w8_1
      go_loopg [13] (t134.length + 1) (fun kq v13 w' => ∃ (i : Nat), v13 = .int .i64 (i : Int) ∧ Aside0 (i + kq = t134.length + 1) ∧ Aside0 (i ≤ t134.length) ∧ Aside0 (Lib.IsBuilderF 73 5 gB gB (Lib.byteCells (124 :: (t134.take i).map bitChar)) w') ∧ Aside0 (Kd.R Kd.bool 4 w' w8.heap.size (fun k_ => k_ ≠ gB) (.slice Ao9 t134.length co9) t134) ∧ Aside0 (Below w.heap.size w w') ∧ Aside0 (gB + 1 ≤ w'.heap.size))
      case atStart => exact ⟨0, rfl, ⟨by omega⟩, ⟨by omega⟩, HU, HO, HB, HS⟩
      case round =>
        clear HU HO HB HS
        obtain ⟨i, rfl, HI, HL, HU, HO, HB, HS⟩ := hrel
        cases gk with
        | zero => have h1 := HI.out; have h2 := HL.out; exact absurd h1 (by omega)
        | succ k1 =>
        by_cases hi : i < t134.length
        · have cb : decide ((i : Int) < (t134.length : Int)) = true := decide_eq_true (by omega)
          have p137 : 0 ≤ (i : Int) := by omega
          have q137 : (i : Int) < (t134.length : Int) := by omega
          obtain ⟨ad137, e137, hx137⟩ := Kd.at_bool (Kd.R_reads' HO.out).2.2 (i : Int) p137 q137
          have hrd : rdOf false t134 (i : Int) = t134[i] := by unfold rdOf; simp [List.getD_eq_getElem?_getD, hi]
          rw [hrd, Int.toNat_natCast] at hx137
          clear hrd
          cases e137
          replace p137 := eq_true p137
          replace q137 := eq_true q137
          cases hbi : t134[i]
          · rw [hbi] at hx137
            have hv_ : ((bitChar t134[i]).toNat : Int) = 48 := by rw [hbi]; rfl
            have hl_ : (Lib.byteCells (124 :: (t134.take i).map bitChar)).length + 1 ≤ 140737488355328 := by have := LM.out; simp [Lib.byteCells]; omega
            go_wp2_with (first | (go_at_call 58; (with_reducible refine (impl_bit.calls false _ _ rfl).mono ?_); rintro e w' ⟨rfl, ⟨nd, rfl⟩⟩) | (go_at_call 64; (refine (Bld.writeByte gB gB (Lib.byteCells (124 :: (t134.take i).map bitChar)) 48 _ (bld_below HU.out (pw_below_drewN (Below.refl _ _) nd)) hl_ (by have := HS.out; simp; omega)).mono ?_); rintro e w'' ⟨rfl, hbld, hb, hk⟩; have hs' := hb.size; have n0_ := Aside0.mk (show Lib.IsBuilderF 73 5 gB gB (Lib.byteCells (124 :: (t134.take (i + 1)).map bitChar)) w'' from Or.inr (by rw [← byte_step t134 i hi bitChar 124 48 hv_.symm]; exact hbld)); have n1_ := Aside0.mk (row_other (Kd.R_drewN HO.out nd) (fun k_ h_ => h_) hk); have n2_ := Aside0.mk ((pw_below_drewN HB.out nd).trans (hb.mono hsz)); have n3_ := Aside0.mk (show gB + 1 ≤ w''.heap.size by have := HS.out; simp at hs'; omega); clear HU HO HB HS hbld hb hk hs'; have HU := n0_; have HO := n1_; have HB := n2_; have HS := n3_; clear n0_ n1_ n2_ n3_))
            go_roundg k1
            case measure => have := HI.out; omega
            case rel => exact ⟨i + 1, by have := LM.out; first | rfl | (simp; done) | (simp [wrap64]; omega), ⟨by have := HI.out; omega⟩, ⟨by omega⟩, HU, HO, HB, HS⟩
          · rw [hbi] at hx137
            have hv_ : ((bitChar t134[i]).toNat : Int) = 49 := by rw [hbi]; rfl
            have hl_ : (Lib.byteCells (124 :: (t134.take i).map bitChar)).length + 1 ≤ 140737488355328 := by have := LM.out; simp [Lib.byteCells]; omega
            go_wp2_with (first | (go_at_call 58; (with_reducible refine (impl_bit.calls true _ _ rfl).mono ?_); rintro e w' ⟨rfl, ⟨nd, rfl⟩⟩) | (go_at_call 64; (refine (Bld.writeByte gB gB (Lib.byteCells (124 :: (t134.take i).map bitChar)) 49 _ (bld_below HU.out (pw_below_drewN (Below.refl _ _) nd)) hl_ (by have := HS.out; simp; omega)).mono ?_); rintro e w'' ⟨rfl, hbld, hb, hk⟩; have hs' := hb.size; have n0_ := Aside0.mk (show Lib.IsBuilderF 73 5 gB gB (Lib.byteCells (124 :: (t134.take (i + 1)).map bitChar)) w'' from Or.inr (by rw [← byte_step t134 i hi bitChar 124 49 hv_.symm]; exact hbld)); have n1_ := Aside0.mk (row_other (Kd.R_drewN HO.out nd) (fun k_ h_ => h_) hk); have n2_ := Aside0.mk ((pw_below_drewN HB.out nd).trans (hb.mono hsz)); have n3_ := Aside0.mk (show gB + 1 ≤ w''.heap.size by have := HS.out; simp at hs'; omega); clear HU HO HB HS hbld hb hk hs'; have HU := n0_; have HO := n1_; have HB := n2_; have HS := n3_; clear n0_ n1_ n2_ n3_))
            go_roundg k1
            case measure => have := HI.out; omega
            case rel => exact ⟨i + 1, by have := LM.out; first | rfl | (simp; done) | (simp [wrap64]; omega), ⟨by have := HI.out; omega⟩, ⟨by omega⟩, HU, HO, HB, HS⟩
        · have cb : decide ((i : Int) < (t134.length : Int)) = false := decide_eq_false (by omega)
          have hil : i = t134.length := by have := HL.out; omega
          have hta : t134.take i = t134 := by rw [hil]; exact List.take_length
          rw [hta] at HU
          clear hta
          go_wp2_with (first | (go_at_call 65; (refine (Try.Builder_String_any_k gB gB (124 :: t134.map bitChar) _ HU.out (by have := HS.out; omega)).mono ?_); rintro e w'' ⟨rfl, hu2, hb, hk⟩; have n2_ := Aside0.mk (HB.out.trans (hb.mono hsz)); clear HB; have HB := n2_; clear n2_ hu2 hb hk))
          go_ret
          exact ⟨rfl, HB.out⟩
    · rw [if_neg c4] at H
      exact absurd H (by simp)
  · replace c3 := Bool.eq_false_iff.mpr c3
    subst c3
    rw [if_neg (by decide)] at H
    obtain rfl := Option.some.inj H
    clear H
    go_enter Try.func47, Try.ntmps47
    go_wp2_with (first | ((with_reducible refine gate_dst (N := 1) rfl ?_); refine box_event ?hg (N := 1) ?hd (cs := #[.int .u16 a0_0, .int .i64 a0_1]) (t := 26) ?hr ?_; (case hd => rfl); (case hg => rfl); (case hr => first | (go_simp; done) | (go_simp; rfl)); intro gb132 hg w5 hbox hb; have n0_ := Aside0.mk (below_step (by repeat (first | (with_reducible first | exact HB.out | apply below_alloc | apply pw_below_drewN | apply below_drew1) | exact HB.out)) hb); have n1_ := Aside0.mk (hbox); have n3_ := Aside0.mk ((by rw [hg]; exact (below_size (by repeat (first | (with_reducible first | exact HB.out | apply below_alloc | apply pw_below_drewN | apply below_drew1) | exact HB.out))) : w.heap.size ≤ gb132)); clear HB; have HB := n0_; have BK132 := n1_; have GE132 := n3_; clear n0_ n1_ n3_; clear hb hbox hg; have hcz6_0 : w5.cell? ⟨gb132, 0, none⟩ = some (.int .u16 a0_0) := (blk_cell BK132.out 0).trans rfl; have hcz6_1 : w5.cell? ⟨gb132, 1, none⟩ = some (.int .i64 a0_1) := (blk_cell BK132.out 1).trans rfl) | ((with_reducible refine gate_callee (f := 28) rfl ?_); refine goesL_ (some 7) rfl rfl Try.func28 (by kernel_rfl) rfl #[.agg #[.int .u16 a0_0, .int .i64 a0_1]] rfl (by (try simp only [List.map_toArray, List.map_cons, List.map_nil]); first | done | rfl) ?_; (with_reducible refine (impl_BitOk.calls a0_0 a0_1 false _ A2.out).mono ?_); rintro e w7 ⟨rfl, hb⟩; refine ⟨_, rfl, ?_⟩; have n0_ := Aside0.mk (blk_below (g := gb132) (o := .cells #[.int .u16 a0_0, .int .i64 a0_1] 26 (0, 0)) (by (with_reducible repeat (first | refine blk_drewN ?_ _ | refine blk_drew ?_ | refine blk_alloc ?_ _)); exact BK132.out) hb); have n1_ := Aside0.mk (below_step (by repeat (first | (with_reducible first | exact HB.out | apply below_alloc | apply pw_below_drewN | apply below_drew1 | refine below_set ?_ GE132.out) | exact HB.out)) hb); clear BK132; clear HB; have BK132 := n0_; have HB := n1_; clear n0_ n1_; (try clear hb); have hcz_w7_0 : w7.cell? ⟨gb132, 0, none⟩ = some (.int .u16 a0_0) := (blk_cell BK132.out 0).trans rfl; have hcz_w7_1 : w7.cell? ⟨gb132, 1, none⟩ = some (.int .i64 a0_1) := (blk_cell BK132.out 1).trans rfl))
    go_ret
    exact ⟨by first | rfl | (simp; done), (by repeat (first | (with_reducible first | exact HB.out | apply below_alloc | apply pw_below_drewN | apply below_drew1 | refine below_set ?_ GE132.out) | exact HB.out))⟩


end Go.Proofs.Ytpjkpmgelmjlnaa.J
