/- slices.Chunk's iterator at rows of bytes, cut by 24: what it hands to each round. -/
import Derived.RangeFuncNested
import Derived.RangeFuncBound
import Derived.RangeFuncCalls
import Derived.RangeFuncLeaves
import Derived.RangeFuncWrites
import Derived.RangeFuncBox
import Derived.Shelf.Abstract
import Derived.Shelf.RegionOpen
import Derived.WalkKit
import Derived.OwnWalkIn
import Derived.TacticsInMore
import Derived.LoopNIn
import Derived.LoopIn
import Derived.Test.YtongoeifppllnaaJx0
namespace Go.Proofs.Ytongoeifppllnaa.J
set_option linter.unusedVariables false
set_option linter.unusedSimpArgs false
open Go Go.RowKit Go.Shelf Go.Proofs.YtongoeifppllnaaW.PrintWords Go.Proofs.YtongoeifppllnaaW.PrintLast Go.Proofs.YtongoeifppllnaaW.PrintMore
attribute [local go_sem] Oper.semAt_some max2_int min2_int max_two min_two

/-- The i-th piece of a row of len bytes at ad: 24 bytes, the last one what is left. -/
def ckLen (len i : Nat) : Nat := min 24 (len - 24 * i)
def ckVal (ad : Addr) (len i : Nat) : Value := .slice (some (ad.add (24 * i))) (ckLen len i) (ckLen len i)
def ckUpto (of k : Nat) (h : k ≤ of) : List { i : Nat // i < of } := (List.range k).attach.map fun i => ⟨i.1, by have := List.mem_range.1 i.2; omega⟩
theorem ckUpto_val (of k : Nat) (h : k ≤ of) : (ckUpto of k h).map (·.1) = List.range k := by simp [ckUpto]
theorem ckUpto_length (of k : Nat) (h : k ≤ of) : (ckUpto of k h).length = k := by simp [ckUpto]
theorem sub_map_inj {of : Nat} : ∀ {xs ys : List { i : Nat // i < of }}, xs.map (·.1) = ys.map (·.1) → xs = ys
  | [], [], _ => rfl
  | [], _ :: _, h => by simp at h
  | _ :: _, [], h => by simp at h
  | x :: xs, y :: ys, h => by
    simp only [List.map_cons, List.cons.injEq] at h
    rw [Subtype.ext h.1, sub_map_inj h.2]
theorem ckUpto_succ (of k : Nat) (h : k + 1 ≤ of) : ckUpto of (k + 1) h = ckUpto of k (by omega) ++ [⟨k, by omega⟩] := by
  apply sub_map_inj
  rw [ckUpto_val, List.map_append, ckUpto_val, List.range_succ]
  rfl

/-- The two boxes lie as they lay. -/
def CkKeeps (Bs Bn : Nat) (W W' : World) : Prop := W'.heap[Bs]? = W.heap[Bs]? ∧ W'.heap[Bn]? = W.heap[Bn]?
theorem CkKeeps.refl (Bs Bn : Nat) (W : World) : CkKeeps Bs Bn W W := ⟨rfl, rfl⟩
theorem CkKeeps.trans {Bs Bn : Nat} {A B C : World} (h : CkKeeps Bs Bn A B) (k : CkKeeps Bs Bn B C) : CkKeeps Bs Bn A C := ⟨k.1.trans h.1, k.2.trans h.2⟩
theorem CkKeeps.cs {Bs Bn : Nat} {A B : World} (h : CkKeeps Bs Bn A B) : B.cell? ⟨Bs, 0, none⟩ = A.cell? ⟨Bs, 0, none⟩ := by simp [World.cell?, h.1]
theorem CkKeeps.cn {Bs Bn : Nat} {A B : World} (h : CkKeeps Bs Bn A B) : B.cell? ⟨Bn, 0, none⟩ = A.cell? ⟨Bn, 0, none⟩ := by simp [World.cell?, h.2]
theorem CkKeeps.drew {Bs Bn : Nat} {A B : World} (h : CkKeeps Bs Bn A B) : CkKeeps Bs Bn A B.drew := h
/-- Every piece has come, in order; some have. -/
def CkAll (of : Nat) (ys : List { i : Nat // i < of }) : Prop := ys.map (·.1) = List.range of
def CkAny (of : Nat) (ys : List { i : Nat // i < of }) : Prop := ys.length ≤ ys.length

set_option maxRecDepth 100000 in
set_option maxHeartbeats 4000000 in
/-- slices.Chunk's closure at n = 24, for every loop body that keeps what lay below n₀. -/
theorem chunk1_in (F : Fence) (n : Nat) (h36 : F.fn 36) (hro : F.round = none) (hn : 1 ≤ n) (l Bs Bn of len cap : Nat) (ad : Addr) (hof : of = (len + 23) / 24) (hcap : len ≤ cap) (hlen : len ≤ 21600)
    (J Jx : List { i : Nat // i < of } → World → Prop) (B0 : Nat) (hJ : AbidesFrom B0 J)
    (hY : ∀ pre x W, J pre W → pre.length < of → YieldAt F (n - 1) Try.prog l #[ckVal ad len x.1] W fun e W' =>
      (e = .returned (.bool true) ∧ J (pre ++ [x]) W' ∧ CkKeeps Bs Bn W W') ∨ (e = .returned (.bool false) ∧ Jx (pre ++ [x]) W'))
    (W : World) (hBs : W.cell? ⟨Bs, 0, none⟩ = some (.slice (some ad) len cap)) (hBn : W.cell? ⟨Bn, 0, none⟩ = some (.int .i64 24)) (h0 : J [] W) :
    CallsIn F n Try.prog 36 #[.func (.yield l) #[] #[], .pointer (some ⟨Bs, 0, none⟩), .pointer (some ⟨Bn, 0, none⟩)] W fun e W' => (∃ v, e = .returned v) ∧
      ((∃ ys, CkAll of ys ∧ J ys W') ∨ (∃ pre, CkAny of pre ∧ Jx pre W')) := by
  refine callsIn_of_wp Try.func36 rfl h36 ?_ hro
  simp only [Try.ntmps36, List.size_toArray, List.length_cons, List.length_nil, Nat.reduceAdd, Nat.reduceSub, Array.replicate_succ, Array.replicate_zero, List.push_toArray, List.append_toArray, List.nil_append, List.cons_append]
  gi_wp2
  gi_loopw [4] (fun i wr => ∃ (k : Nat) (h : k ≤ of), i = .int .i64 (24 * (k : Int)) ∧ J (ckUpto of k h) wr ∧ CkKeeps Bs Bn W wr)
    (fun i _ => of * 24 - (intOf i).toNat)
  case atStart => exact ⟨0, Nat.zero_le _, rfl, by rw [show ckUpto of 0 (Nat.zero_le _) = [] from rfl]; exact h0, CkKeeps.refl _ _ _⟩
  case round =>
    obtain ⟨k, hk, rfl, hJs, hnx⟩ := hrel
    have hcs : wr.cell? ⟨Bs, 0, none⟩ = some (.slice (some ad) len cap) := hnx.cs.trans hBs
    have hcn : wr.cell? ⟨Bn, 0, none⟩ = some (.int .i64 24) := hnx.cn.trans hBn
    by_cases hlt : 24 * k < len
    · have hkof : k < of := by omega
      have hi1 : (24 * (k : Int)) < (len : Int) := by omega
      have hJs2 : J (ckUpto of k hk) wr.drew := hJ _ _ _ none hJs (grown_of_below (below_drew (Below.refl _ _)) none) (fun _ h => by cases h)
      obtain ⟨fn, tmps, assign, body, hy, hR⟩ := hY _ ⟨k, hkof⟩ wr.drew hJs2 (by rw [ckUpto_length]; exact hkof)
      dsimp only at hy
      have hnx2 : CkKeeps Bs Bn W wr.drew := hnx.drew
      have hc0 : cap ≠ 24 * k := by omega
      by_cases h24 : ((len - 24 * k : Nat) : Int) < 24
      · have hv1 : ckVal ad len k = .slice (some (ad.add (24 * k))) (len - 24 * k) (len - 24 * k) := by
          unfold ckVal ckLen
          have e1 : min 24 (len - 24 * k) = len - 24 * k := by omega
          rw [e1]
        rw [hv1] at hy
        gi_wp2
        gi_region
        all_goals gi_wp2
        all_goals
          refine hR.mono ?_
          rintro e W3 (⟨rfl, hJ3, hk3⟩ | ⟨rfl, hJx3⟩)
          · have hcn3 : W3.cell? ⟨Bn, 0, none⟩ = some (.int .i64 24) := hk3.cn.trans hcn
            gi_wp2
            go_roundw
            case rel => exact ⟨k + 1, hkof, by first | (congr 1; done) | (congr 1; omega), by rw [ckUpto_succ]; exact hJ3, hnx2.trans hk3⟩
            case measure => first | (simp [intOf]; done) | (simp [intOf]; omega)
          · gi_wp2
            refine bodyPost_ret (results_none rfl _ _ _) rfl ?_
            exact ⟨⟨_, rfl⟩, .inr ⟨_, Nat.le_refl _, hJx3⟩⟩
      · have hv1 : ckVal ad len k = .slice (some (ad.add (24 * k))) 24 24 := by
          unfold ckVal ckLen
          have e1 : min 24 (len - 24 * k) = 24 := by omega
          rw [e1]
        rw [hv1] at hy
        gi_wp2
        gi_region
        all_goals gi_wp2
        all_goals
          refine hR.mono ?_
          rintro e W3 (⟨rfl, hJ3, hk3⟩ | ⟨rfl, hJx3⟩)
          · have hcn3 : W3.cell? ⟨Bn, 0, none⟩ = some (.int .i64 24) := hk3.cn.trans hcn
            gi_wp2
            go_roundw
            case rel => exact ⟨k + 1, hkof, by first | (congr 1; done) | (congr 1; omega), by rw [ckUpto_succ]; exact hJ3, hnx2.trans hk3⟩
            case measure => first | (simp [intOf]; done) | (simp [intOf]; omega)
          · gi_wp2
            refine bodyPost_ret (results_none rfl _ _ _) rfl ?_
            exact ⟨⟨_, rfl⟩, .inr ⟨_, Nat.le_refl _, hJx3⟩⟩
    · have hkk : k = of := by omega
      have hi1 : ¬ (24 * (k : Int)) < (len : Int) := by omega
      gi_wp2
      go_end0
      refine ⟨⟨_, rfl⟩, .inl ⟨ckUpto of of (Nat.le_refl _), ckUpto_val _ _ _, ?_⟩⟩
      subst hkk
      exact hJs

set_option maxRecDepth 100000 in
set_option maxHeartbeats 1000000 in
/-- slices.Chunk(s, 24): both are boxed; the function value captures the boxes. -/
theorem chunk_in (F : Fence) (n : Nat) (h24 : F.fn 24) (hro : F.round = none) (a : Option Addr) (len cap : Nat) (w : World) :
    CallsIn F n Try.prog 24 #[.slice a len cap, .int .i64 24] w fun e w' => e = .returned (.func (.func 36) #[] #[.pointer (some ⟨w.heap.size, 0, none⟩), .pointer (some ⟨w.heap.size + 1, 0, none⟩)]) ∧ w' = (w.alloc (.cells #[.slice a len cap] 22)).alloc (.cells #[.int .i64 24] 3) := by
  refine callsIn_of_wp Try.func24 rfl h24 ?_ hro
  simp only [Try.ntmps24, List.size_toArray, List.length_cons, List.length_nil, Nat.reduceAdd, Nat.reduceSub, Array.replicate_succ, Array.replicate_zero, List.push_toArray, List.append_toArray, List.nil_append, List.cons_append]
  gi_wp2
  go_ret
  exact ⟨rfl, rfl⟩

/-- .. and what it hands back stops, having handed every piece to its round, in order. -/
theorem chunk_stops (F : Fence) (n : Nat) (h36 : F.fn 36) (hro : F.round = none) (hn : 1 ≤ n) (Bs Bn of len cap : Nat) (ad : Addr) (hof : of = (len + 23) / 24) (hcap : len ≤ cap) (hlen : len ≤ 21600) (w : World) (hBs' : Bs < w.heap.size) (hBn' : Bn < w.heap.size)
    (hBs : w.cell? ⟨Bs, 0, none⟩ = some (.slice (some ad) len cap)) (hBn : w.cell? ⟨Bn, 0, none⟩ = some (.int .i64 24)) :
    SeqStopsK F n Try.prog 36 #[.pointer (some ⟨Bs, 0, none⟩), .pointer (some ⟨Bn, 0, none⟩)] (fun x : { i : Nat // i < of } => #[ckVal ad len x.1]) (CkKeeps Bs Bn) (CkAll of) (CkAny of) of w := fun l J Jx W hW hJ _ hY h0 =>
  chunk1_in F n h36 hro hn l Bs Bn of len cap ad hof hcap hlen J Jx _ hJ hY W ((hW.cell (p := ⟨Bs, 0, none⟩) hBs').trans hBs) ((hW.cell (p := ⟨Bn, 0, none⟩) hBn').trans hBn) h0
end Go.Proofs.Ytongoeifppllnaa.J
