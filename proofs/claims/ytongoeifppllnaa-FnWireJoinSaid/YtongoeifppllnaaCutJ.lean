/- impl.WireCut: its own walk (a range over slices.Chunk's iterator), in the place of the stand-in's. -/
import Derived.Test.YtongoeifppllnaaRound
import Derived.Test.YtongoeifppllnaaChunkJ
import Derived.Test.YtongoeifppllnaaCutPJ
import Derived.Test.YtongoeifppllnaaJx1
import Derived.Test.YtongoeifppllnaaJx3
import Derived.Test.YtongoeifppllnaaJzClip
import Derived.Maps.AppendAt
namespace Go.Proofs.Ytongoeifppllnaa.J
set_option linter.unusedVariables false
set_option linter.unusedSimpArgs false
open Go Go.RowKit Go.Shelf Go.Proofs.YtongoeifppllnaaW.PrintWords Go.Proofs.YtongoeifppllnaaW.PrintLast Go.Proofs.YtongoeifppllnaaW.PrintMore
attribute [local go_sem] Oper.semAt_some max2_int min2_int max_two min_two

/-- The words' kind, their data's capacity cut. -/
def k36c : Kd S36 := Kd.iso (Kd.pair (Kd.int .i64) (Kd.pair (Kd.int .i64) (Kd.pair (Kd.int .i64) (Kd.pair (Kd.int .i64) (Kd.slicec 5 (Kd.int .u8)))))) (fun x : S36 => (x.f0, x.f1, x.f2, x.f3, x.f4))
theorem k36c_mkMc (w : World) (base : Nat) (ok : Nat → Prop) (x : S36) {v4 : Value} (g4 : (Kd.int .u8).Rc 5 w base ok v4 x.f4) : k36c.M w base ok x [.int .i64 x.f0, .int .i64 x.f1, .int .i64 x.f2, .int .i64 x.f3, v4] := ⟨[.int .i64 x.f0], [.int .i64 x.f1, .int .i64 x.f2, .int .i64 x.f3, v4], rfl, rfl, ⟨[.int .i64 x.f1], [.int .i64 x.f2, .int .i64 x.f3, v4], rfl, rfl, ⟨[.int .i64 x.f2], [.int .i64 x.f3, v4], rfl, rfl, ⟨[.int .i64 x.f3], [v4], rfl, rfl, ⟨v4, rfl, g4⟩⟩⟩⟩⟩
theorem impl_WireOf_val (l : List Int) (hl : l.length ≤ 281474976710656) : impl_WireOf.f l = some ((if 900 < ofn l then 0 else ofn l : Nat) : Int) := by
  unfold impl_WireOf.f
  rw [cwof l (by omega)]
  by_cases c : 900 < ofn l
  · rw [if_pos (by omega), if_pos c]; rfl
  · rw [if_neg (by omega), if_neg c]
theorem impl_isNumber_val (a0 : Int) : impl_isNumber.f a0 = some (decide (1 ≤ a0 ∧ a0 ≤ 1000000)) := by
  unfold impl_isNumber.f impl_in.f
  by_cases c : a0 ≥ 1
  · rw [if_pos c, Option.bind_some]; simp [show 1 ≤ a0 from c]
  · rw [if_neg c, Option.bind_some]; simp; omega

theorem make_room36 (of : Nat) (h : of ≤ 900) : ∃ mc : Array Value, mc.size = of * 5 ∧ ∀ W : World, (Instr.makeSlice 23 (.int .i64 0) (.int .i64 (of : Int))).run Try.prog W = .ok (.slice (some ⟨W.heap.size, 0, none⟩) 0 of) (W.alloc (.cells mc 36)) := by
  obtain ⟨i, hi, hz, hs, hb⟩ := info_parts info36
  refine ⟨madeCells (Value.agg #[(.int .i64 0), (.int .i64 0), (.int .i64 0), (.int .i64 0), (.slice none 0 0)]).cells (of * i.size), by rw [size_madeCells, hs], fun W => ?_⟩
  have := run_make (P := Try.prog) W 23 36 i _ Try.underlying23 hi hz .i64 .i64 0 (of : Int) (by omega) (by omega) (by rw [hb]; omega) (by omega)
  rwa [Int.toNat_natCast] at this

/-- What lies between two rounds: the boxes, the row of what has come, in the world W. -/
structure CutInv (w : World) (a0 of : Int) (A1 : Option Addr) (n1 c1 : Nat) (out : List S36) (v : Value) (W : World) : Prop where
  h2 : W.heap[w.heap.size]? = some (.cells #[.int .i64 a0] 3 (0, 0))
  h6 : W.heap[w.heap.size + 1]? = some (.cells #[.int .i64 of] 3 (0, 0))
  h7 : W.heap[w.heap.size + 3]? = some (.cells #[v] 23 (0, 0))
  hs : W.heap[w.heap.size + 4]? = some (.cells #[.slice A1 n1 c1] 22 (0, 0))
  hn : W.heap[w.heap.size + 5]? = some (.cells #[.int .i64 24] 3 (0, 0))
  S : Kd.S k36c 36 W w.heap.size (fun _ => True) v out
  B : Below w.heap.size w W
theorem S_room0 {α : Type} (d : Kd α) (W : World) (base e c : Nat) (cells : Array Value) (hs : cells.size = c * d.sz) (hm : c ≤ maxLen) (hbase : base ≤ W.heap.size) : Kd.S d e (W.alloc (.cells cells e)) base (fun _ => True) (.slice (some ⟨W.heap.size, 0, none⟩) 0 c) [] :=
  ⟨fun _ => 0, ⟨fun _ _ => trivial, [], World.ownsRow_made W cells c hbase hm hs, Reps.none _ _⟩⟩
/-- A turn of blocks that are no cells leaves it. -/
theorem CutInv.own {w : World} {a0 of : Int} {A1 : Option Addr} {n1 c1 : Nat} {out : List S36} {v : Value} {W W' : World} {row : Option Nat} (h : CutInv w a0 of A1 n1 c1 out v W) (hg : W.grownBy W' row) (hr : ∀ r, row = some r → w.heap.size + 6 ≤ r ∧ ∃ o : Obj, W.heap[r]? = some o ∧ o.isCells = false) : CutInv w a0 of A1 n1 c1 out v W' := by
  have ne : ∀ k, k < w.heap.size + 6 → some k ≠ row := fun k hk e => by have := (hr k e.symm).1; omega
  refine ⟨blk_grown h.h2 hg (ne _ (by omega)), blk_grown h.h6 hg (ne _ (by omega)), blk_grown h.h7 hg (ne _ (by omega)), blk_grown h.hs hg (ne _ (by omega)), blk_grown h.hn hg (ne _ (by omega)), ?_, pw_below_grown h.B row h.B.size hg (fun k e => by have := (hr k e).1; omega)⟩
  refine Kd.S_mono (Kd.S_grown (Kd.S_bound h.S) hg (fun k hk e => ?_)) (fun _ _ => trivial)
  obtain ⟨_, o, ho, hc⟩ := hr k e.symm
  obtain ⟨_, _, _, q, _, cells, hcells⟩ := hk
  rw [hcells] at ho
  cases ho
  cases hc
/-- What the pieces that have come make. -/
def gather (a0 : Int) (l : List Int) {of : Nat} (pre : List { i : Nat // i < of }) : List S36 := pre.zipIdx.map fun p => ⟨1, a0, (ofn l : Int), (p.2 : Int), chunk l p.1.1⟩
theorem gather_length (a0 : Int) (l : List Int) {of : Nat} (pre : List { i : Nat // i < of }) : (gather a0 l pre).length = pre.length := by simp [gather]
theorem gather_snoc (a0 : Int) (l : List Int) {of : Nat} (pre : List { i : Nat // i < of }) (x : { i : Nat // i < of }) : gather a0 l (pre ++ [x]) = gather a0 l pre ++ [⟨1, a0, (ofn l : Int), (pre.length : Int), chunk l x.1⟩] := by
  simp [gather, List.zipIdx_append]
theorem gather_all (a0 : Int) (l : List Int) (ys : List { i : Nat // i < ofn l }) (h : CkAll (ofn l) ys) : gather a0 l ys = pieces a0 l (ofn l) := by
  unfold CkAll at h
  have hl : ys.length = ofn l := by have := congrArg List.length h; simpa using this
  apply List.ext_getElem
  · rw [gather_length, pieces_length, hl]
  · intro i h1 h2
    have e : (ys[i]'(by rw [gather_length] at h1; exact h1)).1 = i := by
      have h3 : (ys.map (·.1))[i]? = (List.range (ofn l))[i]? := by rw [h]
      rw [gather_length] at h1
      rw [List.getElem?_map, List.getElem?_eq_getElem h1, List.getElem?_range (by omega)] at h3
      simpa using h3
    simp [gather, pieces, piece, e]
theorem C_chunk {w : World} {ad : Addr} {l : List Int} {c : Nat} (h : Kd.C (Kd.int .u8) w (some ad) l.length l) (i : Nat) (hi : 24 * i < l.length) (hc : l.length ≤ c) : Kd.C (Kd.int .u8) w (some (ad.add (24 * i))) (chunk l i).length (chunk l i) := by
  have h1 := Kd.C_drop (c := c) h (m := 24 * i) (by omega) hc
  rw [if_neg (by omega)] at h1
  have h2 := Kd.C_take h1 (m := (chunk l i).length) (by rw [chunk_len, List.length_drop]; omega)
  have e : (l.drop (24 * i)).take (chunk l i).length = chunk l i := by
    rw [chunk_len]
    unfold chunk
    by_cases c : 24 ≤ l.length - 24 * i
    · rw [Nat.min_eq_left c]
    · rw [Nat.min_eq_right (by omega), List.take_of_length_le (by rw [List.length_drop]; omega), List.take_of_length_le (by rw [List.length_drop]; omega)]
  rw [e] at h2
  have e2 : 24 * i * (Kd.int .u8).sz = 24 * i := by show 24 * i * 1 = _; omega
  rw [e2] at h2
  exact h2
theorem ckVal_eq (ad : Addr) (l : List Int) (i : Nat) : ckVal ad l.length i = .slice (some (ad.add (24 * i))) (chunk l i).length (chunk l i).length := by
  unfold ckVal ckLen
  rw [chunk_len]
theorem clone_val (l : List Int) (h : l.length ≤ 1000) : impl_clone_byte.f l = some l := by
  unfold impl_clone_byte.f
  simp only [Option.bind_some, List.length_nil, Nat.zero_add, List.nil_append]
  rw [if_pos (by omega)]

set_option maxHeartbeats 8000000 in
set_option maxRecDepth 100000 in
theorem impl_WireCut.yes (a0 : Int) (ad : Addr) (c1 : Nat) (l1 : List Int) (w : World) (hr1 : Kd.C (Kd.int .u8) w (some ad) l1.length l1) (hc1 : l1.length ≤ c1) (h1 : 1 ≤ l1.length) (h2 : l1.length ≤ 21600) (h3 : 1 ≤ a0) (h4 : a0 ≤ 1000000) :
    CallsIn Fence.wide 9 Try.prog 8 #[.int .i64 a0, .slice (some ad) l1.length c1] w fun e w' => ∃ v0_ : Value, e = .returned (.tuple #[v0_, .bool true]) ∧ Kd.S k36c 36 w' w.heap.size (fun _ => True) v0_ (pieces a0 l1 (ofn l1)) ∧ Below w.heap.size w w' := by
  have e1 : impl_WireOf.f l1 = some ((ofn l1 : Nat) : Int) := by rw [impl_WireOf_val l1 (by omega), if_neg (by unfold ofn; omega)]
  have e2 : impl_isNumber.f a0 = some true := by rw [impl_isNumber_val, decide_eq_true ⟨h3, h4⟩]
  have ho1 : 1 ≤ ofn l1 := by unfold ofn; omega
  have ho2 : ofn l1 ≤ 900 := by unfold ofn; omega
  refine callsIn_of_wp_marks Try.func8 rfl trivial ?_ rfl
  simp only [Try.ntmps8, List.size_toArray, List.length_cons, List.length_nil, Nat.reduceAdd, Nat.reduceSub, Array.replicate_succ, Array.replicate_zero, List.push_toArray, List.append_toArray, List.nil_append, List.cons_append]
  have hne : ¬ (((ofn l1 : Nat) : Int) = 0) := by omega
  obtain ⟨mc, hmc, hmk⟩ := make_room36 (ofn l1) ho2
  gi_wp2_with (first | (refine ⟨trivial, ?_⟩; gi_at_call 18; refine (callsIn_wide.2 (impl_WireOf.calls (some ad) c1 l1 _ _ (Kd.C_below hr1 (below_alloc (Below.refl _ _) _)) hc1 e1)).mono ?_; rintro e w' ⟨rfl, ⟨nd, rfl⟩⟩) | (refine ⟨trivial, ?_⟩; gi_at_call 23; refine (callsIn_wide.2 (impl_isNumber.calls a0 _ _ e2)).mono ?_; rintro e w' ⟨rfl, ⟨nd2, rfl⟩⟩) | (refine ⟨trivial, ?_⟩; gi_at_call 24; refine (chunk_in Fence.wide _ trivial rfl _ _ _ _).mono ?_; rintro e w' ⟨rfl, rfl⟩))
  have cut0 : ∀ W0 : World, W0 = ((((((((w.alloc (.cells #[.int .i64 a0] 3)).drewN nd).alloc (.cells #[.int .i64 (ofn l1 : Int)] 3)).drewN nd2).alloc (.cells mc 36)).alloc (.cells #[.slice (some ⟨w.heap.size + 1 + 1, 0, none⟩) 0 (ofn l1)] 23)).alloc (.cells #[.slice (some ad) l1.length c1] 22)).alloc (.cells #[.int .i64 24] 3)) → CutInv w a0 (ofn l1 : Int) (some ad) l1.length c1 [] (.slice (some ⟨w.heap.size + 1 + 1, 0, none⟩) 0 (ofn l1)) W0 ∧ W0.heap.size = w.heap.size + 6 := by
    rintro _ rfl
    have hr := S_room0 k36c (((w.alloc (.cells #[.int .i64 a0] 3)).drewN nd).alloc (.cells #[.int .i64 (ofn l1 : Int)] 3) |>.drewN nd2) w.heap.size 36 (ofn l1) mc hmc (by unfold maxLen; omega) (by simp; omega)
    rw [show ((((w.alloc (.cells #[.int .i64 a0] 3)).drewN nd).alloc (.cells #[.int .i64 (ofn l1 : Int)] 3)).drewN nd2).heap.size = w.heap.size + 1 + 1 by simp] at hr
    refine ⟨⟨?_, ?_, ?_, ?_, ?_, ?_, ?_⟩, by simp⟩
    · exact blk_alloc (blk_alloc (blk_alloc (blk_alloc (blk_drewN (blk_alloc (blk_drewN (blk_new w _) nd) _) nd2) _) _) _) _
    · refine blk_alloc (blk_alloc (blk_alloc (blk_alloc (blk_drewN ?_ nd2) _) _) _) _
      have := blk_new ((w.alloc (.cells #[.int .i64 a0] 3)).drewN nd) (.cells #[.int .i64 (ofn l1 : Int)] 3)
      rwa [show ((w.alloc (.cells #[.int .i64 a0] 3)).drewN nd).heap.size = w.heap.size + 1 by simp] at this
    · refine blk_alloc (blk_alloc ?_ _) _
      have := blk_new (((((w.alloc (.cells #[.int .i64 a0] 3)).drewN nd).alloc (.cells #[.int .i64 (ofn l1 : Int)] 3)).drewN nd2).alloc (.cells mc 36)) (.cells #[.slice (some ⟨w.heap.size + 1 + 1, 0, none⟩) 0 (ofn l1)] 23)
      rwa [show (((((w.alloc (.cells #[.int .i64 a0] 3)).drewN nd).alloc (.cells #[.int .i64 (ofn l1 : Int)] 3)).drewN nd2).alloc (.cells mc 36)).heap.size = w.heap.size + 3 by simp] at this
    · refine blk_alloc ?_ _
      have := blk_new ((((((w.alloc (.cells #[.int .i64 a0] 3)).drewN nd).alloc (.cells #[.int .i64 (ofn l1 : Int)] 3)).drewN nd2).alloc (.cells mc 36)).alloc (.cells #[.slice (some ⟨w.heap.size + 1 + 1, 0, none⟩) 0 (ofn l1)] 23)) (.cells #[.slice (some ad) l1.length c1] 22)
      rwa [show ((((((w.alloc (.cells #[.int .i64 a0] 3)).drewN nd).alloc (.cells #[.int .i64 (ofn l1 : Int)] 3)).drewN nd2).alloc (.cells mc 36)).alloc (.cells #[.slice (some ⟨w.heap.size + 1 + 1, 0, none⟩) 0 (ofn l1)] 23)).heap.size = w.heap.size + 4 by simp] at this
    · have := blk_new (((((((w.alloc (.cells #[.int .i64 a0] 3)).drewN nd).alloc (.cells #[.int .i64 (ofn l1 : Int)] 3)).drewN nd2).alloc (.cells mc 36)).alloc (.cells #[.slice (some ⟨w.heap.size + 1 + 1, 0, none⟩) 0 (ofn l1)] 23)).alloc (.cells #[.slice (some ad) l1.length c1] 22)) (.cells #[.int .i64 24] 3)
      rwa [show (((((((w.alloc (.cells #[.int .i64 a0] 3)).drewN nd).alloc (.cells #[.int .i64 (ofn l1 : Int)] 3)).drewN nd2).alloc (.cells mc 36)).alloc (.cells #[.slice (some ⟨w.heap.size + 1 + 1, 0, none⟩) 0 (ofn l1)] 23)).alloc (.cells #[.slice (some ad) l1.length c1] 22)).heap.size = w.heap.size + 5 by simp] at this
    · exact Kd.S_alloc (Kd.S_alloc (Kd.S_alloc hr _) _) _
    · exact below_alloc (below_alloc (below_alloc (below_alloc (pw_below_drewN (below_alloc (pw_below_drewN (below_alloc (Below.refl _ _) _) _) _) _) _) _) _) _
  obtain ⟨W0, hW0⟩ : ∃ W0, W0 = ((((((((w.alloc (.cells #[.int .i64 a0] 3)).drewN nd).alloc (.cells #[.int .i64 (ofn l1 : Int)] 3)).drewN nd2).alloc (.cells mc 36)).alloc (.cells #[.slice (some ⟨w.heap.size + 1 + 1, 0, none⟩) 0 (ofn l1)] 23)).alloc (.cells #[.slice (some ad) l1.length c1] 22)).alloc (.cells #[.int .i64 24] 3)) := ⟨_, rfl⟩
  obtain ⟨hI0, hsz⟩ := cut0 W0 hW0
  rw [← hW0]
  clear cut0 hW0
  refine wpIn_rangeFunc_ownG rfl (by omega) (gf := 36) (lb := #[.pointer (some ⟨w.heap.size + 1 + 1 + 1 + 1, 0, none⟩), .pointer (some ⟨w.heap.size + 1 + 1 + 1 + 1 + 1, 0, none⟩)]) rfl trivial (enters_of Try.func36 (by kernel_rfl) rfl)
    (chunk_stops Fence.wide 8 trivial rfl (by omega) (w.heap.size + 1 + 1 + 1 + 1) (w.heap.size + 1 + 1 + 1 + 1 + 1) (ofn l1) l1.length c1 ad rfl hc1 h2 W0 (by omega) (by omega) ((blk_cell hI0.hs 0).trans rfl) ((blk_cell hI0.hn 0).trans rfl))
    (fun h k => h.trans k) (fun W l o o' hl _ _ _ => ⟨World.putObj_heap_other (by omega), World.putObj_heap_other (by omega)⟩) (Below.refl _ _) (fun _ => rfl)
    (fun pre W => ∃ v, CutInv w a0 (ofn l1 : Int) (some ad) l1.length c1 (gather a0 l1 pre) v W)
    (fun _ _ _ => False)
    (fun s A B row hs hg hr => by obtain ⟨v, hv⟩ := hs; exact ⟨v, hv.own hg (fun r e => ⟨by have := (hr r e).1; omega, (hr r e).2⟩)⟩)
    (fun _ _ _ _ _ hs _ _ => hs)
    ⟨_, hI0⟩
    (fun x => { tmps := #[.int .i64 a0, .slice (some ad) l1.length c1, .pointer (some ⟨w.heap.size, 0, none⟩), undef, .slice none 0 0, .bool false, .pointer (some ⟨w.heap.size + 1, 0, none⟩), .pointer (some ⟨w.heap.size + 1 + 1 + 1, 0, none⟩), ckVal ad l1.length x.1, .slice (some ad) l1.length c1, .int .i64 (ofn l1 : Int), .int .i64 (ofn l1 : Int), .bool false, .bool false, .int .i64 a0, .bool true, .bool false, .bool false, .int .i64 (ofn l1 : Int), .slice (some ⟨w.heap.size + 1 + 1, 0, none⟩) 0 (ofn l1), .slice (some ad) l1.length c1, .func (.func 36) #[] #[.pointer (some ⟨w.heap.size + 1 + 1 + 1 + 1, 0, none⟩), .pointer (some ⟨w.heap.size + 1 + 1 + 1 + 1 + 1, 0, none⟩)], ckVal ad l1.length x.1, undef, undef, undef, undef, undef, undef, undef, undef, undef, undef, undef], defers := [] }) ?assign ?body ?done ?stop
  case assign =>
    intro l x W K hK
    gi_wp2
    exact hK
  case body =>
    rintro l pre x W ⟨v, hI⟩ hlt
    have hx24 : 24 * x.1 < l1.length := by have := x.2; unfold ofn at this; omega
    obtain ⟨Av, cv, rfl⟩ := Kd.S_slice hI.S
    rw [gather_length] at hI
    rw [ckVal_eq]
    gi_wp2
    refine startIn_ (n := 11) (S := fun w' => w'.cell? ⟨w.heap.size, 0, none⟩ = some (.int .i64 a0) ∧ w'.cell? ⟨w.heap.size + 1, 0, none⟩ = some (.int .i64 (ofn l1 : Int)) ∧ w'.cell? ⟨w.heap.size + 1 + 1 + 1, 0, none⟩ = some (.slice Av pre.length cv)) (ds := [10]) #[false, false, false, false, false, false, false, false, false, false, false] (by kernel_rfl) (by rintro ⟨a, w, h⟩; exact h) (by kernel_rfl) rfl rfl ⟨(blk_cell (blk_drew hI.h2) 0).trans rfl, (blk_cell (blk_drew hI.h6) 0).trans rfl, (blk_cell (blk_drew hI.h7) 0).trans rfl⟩ (fun hHeld => ?_)
    refine take_ (i := 0) (N := some 23) (v := ?_) (a' := ?_) #[true, false, false, false, false, false, false, false, false, false, false] rfl rfl (by kernel_rfl) (fun _ _ _ h => h) (Or.inl ⟨by rfl, ?_⟩) hHeld ?_ ?_
    rotate_left
    · rintro w' ⟨s0, s1, s2⟩
      go_simp
      with_reducible rfl
    rotate_left
    · simp only [Act.put, List.setIfInBounds_toArray, List.set_cons_zero, List.set_cons_succ, i64_w, i32_w]
      rfl
    refine take_ (i := 1) (N := some 24) (v := ?_) (a' := ?_) #[true, true, false, false, false, false, false, false, false, false, false] rfl rfl (by kernel_rfl) (fun _ _ _ h => h) (Or.inl ⟨by rfl, ?_⟩) hHeld ?_ ?_
    rotate_left
    · rintro w' ⟨s0, s1, s2⟩
      go_simp
      with_reducible rfl
    rotate_left
    · simp only [Act.put, List.setIfInBounds_toArray, List.set_cons_zero, List.set_cons_succ, i64_w, i32_w]
      rfl
    refine take_ (i := 2) (N := some 25) (v := ?_) (a' := ?_) #[true, true, true, false, false, false, false, false, false, false, false] rfl rfl (by kernel_rfl) (fun _ _ _ h => h) (Or.inl ⟨by rfl, ?_⟩) hHeld ?_ ?_
    rotate_left
    · rintro w' ⟨s0, s1, s2⟩
      go_simp
      with_reducible rfl
    rotate_left
    · simp only [Act.put, List.setIfInBounds_toArray, List.set_cons_zero, List.set_cons_succ, i64_w, i32_w]
      rfl
    refine take_ (i := 3) (N := some 26) (v := ?_) (a' := ?_) #[true, true, true, true, false, false, false, false, false, false, false] rfl rfl (by kernel_rfl) (fun _ _ _ h => h) (Or.inl ⟨by rfl, ?_⟩) hHeld ?_ ?_
    rotate_left
    · rintro w' ⟨s0, s1, s2⟩
      go_simp
      with_reducible rfl
    rotate_left
    · simp only [Act.put, List.setIfInBounds_toArray, List.set_cons_zero, List.set_cons_succ, i64_w, i32_w]
      rfl
    refine pure_ (i := 4) (N := some 27) (v := ?_) (a' := ?_) #[true, true, true, true, true, false, false, false, false, false, false] rfl rfl (by kernel_rfl) (fun _ _ _ h => h) (Or.inl ⟨by rfl, ?_⟩) ?_ ?_
    rotate_left
    · intro w'
      go_simp
      with_reducible rfl
    rotate_left
    · simp only [Act.put, List.setIfInBounds_toArray, List.set_cons_zero, List.set_cons_succ, i64_w, i32_w]
      rfl
    refine pure_ (i := 5) (N := some 28) (v := ?_) (a' := ?_) #[true, true, true, true, true, true, false, false, false, false, false] rfl rfl (by kernel_rfl) (fun _ _ _ h => h) (Or.inl ⟨by rfl, ?_⟩) ?_ ?_
    rotate_left
    · intro w'
      go_simp
      with_reducible rfl
    rotate_left
    · simp only [Act.put, List.setIfInBounds_toArray, List.set_cons_zero, List.set_cons_succ, i64_w, i32_w]
      rfl
    refine one_ (i := 6) (N := some 29) #[true, true, true, true, true, true, true, false, false, false, false] rfl rfl (by kernel_rfl) (by decide) (fun K hK => ?_)
    refine goes_ Try.func25 (by kernel_rfl) rfl #[.slice (some (ad.add (24 * x.1))) (chunk l1 x.1).length (chunk l1 x.1).length] (by rfl) rfl rfl (by (try simp only [List.map_toArray, List.map_cons, List.map_nil]); first | done | rfl) ?_
    refine (impl_clone_byte.calls _ _ (chunk l1 x.1) (chunk l1 x.1) _ (Kd.C_drew (Kd.C_below (C_chunk hr1 x.1 hx24 hc1) hI.B)) (Nat.le_refl _) (clone_val _ (by rw [chunk_len]; omega))).mono ?_
    rintro e w1 ⟨v29, rfl, hO, hb⟩
    refine ⟨_, rfl, ?_⟩
    obtain ⟨A29, c29, rfl⟩ := Kd.Rc_slice hO
    have hb0 : Below W.heap.size W w1 := ⟨hb.os, hb.tape, hb.output, hb.size, hb.block⟩
    have hBase : ∀ k, (Value.slice A29 (chunk l1 x.1).length c29).ownBlock = some k → W.heap.size ≤ k := fun k hk => Kd.Rc_base hO k hk
    have hO1 : Kd.Rc (Kd.int .u8) 5 w1 w.heap.size (fun k => some k = (Value.slice A29 (chunk l1 x.1).length c29).ownBlock) (.slice A29 (chunk l1 x.1).length c29) (chunk l1 x.1) := Kd.Rc_tight rfl (Kd.Rc_lower hO hI.B.size)
    have hS1 := Kd.S_elder' (v := .slice A29 (chunk l1 x.1).length c29) hI.S hBase hb0
    have g2 := blk_below hI.h2 hb0
    have g6 := blk_below hI.h6 hb0
    have g7 := blk_below hI.h7 hb0
    have gs := blk_below hI.hs hb0
    have gn := blk_below hI.hn hb0
    have gB : Below w.heap.size w w1 := below_then hI.B hI.B.size hb0
    have hlo : ∀ k, (Value.slice Av pre.length cv).ownBlock = some k → k < W.heap.size := Kd.S_lt hI.S
    clear hO hb
    refine hK.out _ _ ⟨(blk_cell g2 0).trans rfl, (blk_cell g6 0).trans rfl, (blk_cell g7 0).trans rfl⟩ (fun hHeld => ?_)
    clear hK K
    refine norm_ (a' := ?_) ?_ ?_
    rotate_left
    · show Act.put _ (some 29) _ = _
      simp only [Act.put, List.setIfInBounds_toArray, List.set_cons_zero, List.set_cons_succ, i64_w, i32_w]
      rfl
    have hu36 := Try.underlying36
    refine pure_ (i := 7) (N := some 30) (v := ?_) (a' := ?_) #[true, true, true, true, true, true, true, true, false, false, false] rfl rfl (by kernel_rfl) (fun _ _ _ h => h) (Or.inl ⟨by rfl, ?_⟩) ?_ ?_
    rotate_left
    · intro w'
      go_simp
      with_reducible rfl
    rotate_left
    · simp only [Act.put, List.setIfInBounds_toArray, List.set_cons_zero, List.set_cons_succ, i64_w, i32_w]
      rfl
    refine one_ (i := 8) (N := some 31) #[true, true, true, true, true, true, true, true, true, false, false] rfl rfl (by kernel_rfl) (by decide) (fun K hK => ?_)
    refine value_ (v := .slice (some ⟨w1.heap.size, 0, none⟩) 1 1) (w1 := w1.alloc (.cells #[.int .i64 1, .int .i64 a0, .int .i64 (ofn l1 : Int), .int .i64 (pre.length : Int), .slice A29 (chunk l1 x.1).length c29] 36)) (by rfl) rfl (by first | (go_simp; done) | (go_simp; rfl)) ?_
    have hS2 := blk_alloc g2 (.cells #[.int .i64 1, .int .i64 a0, .int .i64 (ofn l1 : Int), .int .i64 (pre.length : Int), .slice A29 (chunk l1 x.1).length c29] 36)
    have hS6 := blk_alloc g6 (.cells #[.int .i64 1, .int .i64 a0, .int .i64 (ofn l1 : Int), .int .i64 (pre.length : Int), .slice A29 (chunk l1 x.1).length c29] 36)
    have hS7 := blk_alloc g7 (.cells #[.int .i64 1, .int .i64 a0, .int .i64 (ofn l1 : Int), .int .i64 (pre.length : Int), .slice A29 (chunk l1 x.1).length c29] 36)
    have hSs := blk_alloc gs (.cells #[.int .i64 1, .int .i64 a0, .int .i64 (ofn l1 : Int), .int .i64 (pre.length : Int), .slice A29 (chunk l1 x.1).length c29] 36)
    have hSn := blk_alloc gn (.cells #[.int .i64 1, .int .i64 a0, .int .i64 (ofn l1 : Int), .int .i64 (pre.length : Int), .slice A29 (chunk l1 x.1).length c29] 36)
    refine hK.out _ _ ⟨(blk_cell hS2 0).trans rfl, (blk_cell hS6 0).trans rfl, (blk_cell hS7 0).trans rfl⟩ (fun hHeld => ?_)
    clear hK K
    refine norm_ (a' := ?_) ?_ ?_
    rotate_left
    · show Act.put _ (some 31) _ = _
      simp only [Act.put, List.setIfInBounds_toArray, List.set_cons_zero, List.set_cons_succ, i64_w, i32_w]
      rfl
    refine one_ (i := 9) (N := some 32) #[true, true, true, true, true, true, true, true, true, true, false] rfl rfl (by kernel_rfl) (by decide) (fun K hK => ?_)
    refine Kd.S_append_step k36c (w0 := w) w.heap.size (by rfl) (.tmp 23) (.tmp 31) 23 36 (.agg #[(.int .i64 0), (.int .i64 0), (.int .i64 0), (.int .i64 0), (.slice none 0 0)]) 56 rfl Try.underlying23 info36 rfl (by decide) (by omega) (.slice Av pre.length cv) (gather a0 l1 pre) (⟨1, a0, (ofn l1 : Int), (pre.length : Int), chunk l1 x.1⟩ : S36) [.int .i64 1, .int .i64 a0, .int .i64 (ofn l1 : Int), .int .i64 (pre.length : Int), .slice A29 (chunk l1 x.1).length c29] (fun _ => True) (fun k_ => some k_ = (.slice A29 (chunk l1 x.1).length c29 : Value).ownBlock) rfl rfl (k36c_mkMc _ _ _ (⟨1, a0, (ofn l1 : Int), (pre.length : Int), chunk l1 x.1⟩ : S36) hO1) (fun k hk => ⟨trivial, fun e => by have h_1 := hBase k hk.symm; have h_2 := hlo k e.symm; omega⟩) (fun _ _ => trivial) (Kd.S_mono hS1 (fun k hk => ⟨trivial, fun e => hk.2 e⟩)) gB gB.size (by rw [gather_length]; omega) ?_
    intro v1 w2 ho hb2 hg hat
    have n2 := blk_grown g2 hg (Kd.S_ne hS1 g2 (by decide))
    have n6 := blk_grown g6 hg (Kd.S_ne hS1 g6 (by decide))
    have n7 := blk_grown g7 hg (Kd.S_ne hS1 g7 (by decide))
    have ns := blk_grown gs hg (Kd.S_ne hS1 gs (by decide))
    have nn := blk_grown gn hg (Kd.S_ne hS1 gn (by decide))
    have hko : KeepsOthers W w2 := (KeepsOthers.of_grownBy (grown_of_below hb0 none) (fun _ _ e => by cases e)).trans (KeepsOthers.of_grownBy hg (fun j o e ho_ => by
      obtain ⟨cells, hc⟩ := Kd.S_typed hS1 j e
      have := hc.symm.trans ho_
      cases this
      rfl))
    obtain ⟨Av1, cv1, rfl⟩ := Kd.S_slice ho
    have e5 : (gather a0 l1 pre ++ [(⟨1, a0, (ofn l1 : Int), (pre.length : Int), chunk l1 x.1⟩ : S36)]).length = (gather a0 l1 pre).length + 1 := by simp
    rw [e5] at ho
    have hc7 : w2.cell? ⟨w.heap.size + 1 + 1 + 1, 0, none⟩ = some (.slice Av pre.length cv) := (blk_cell n7 0).trans rfl
    have hf7 : w2.frozen? ⟨w.heap.size + 1 + 1 + 1, 0, none⟩ = false := blk_frozen n7 0
    refine hK.out _ _ ⟨(blk_cell n2 0).trans rfl, (blk_cell n6 0).trans rfl, (blk_cell n7 0).trans rfl⟩ (fun hHeld => ?_)
    clear hK K
    refine norm_ (a' := ?_) ?_ ?_
    rotate_left
    · show Act.put _ (some 32) _ = _
      simp only [Act.put, List.setIfInBounds_toArray, List.set_cons_zero, List.set_cons_succ, i64_w, i32_w]
      rfl
    refine last_ (i := 10) (N := none) #[true, true, true, true, true, true, true, true, true, true, true] rfl rfl (by kernel_rfl) (by decide) (fun K hK => ?_)
    refine skip_ (w1 := ?_) (by rfl) rfl ?_ ?_
    rotate_left
    · go_simp
      rfl
    refine hK.out _ _ ?_
    clear hK K
    refine done_ (by kernel_rfl) ?_
    refine ⟨(hko.trans (KeepsOthers.setCell _ _ _)).from _, ⟨(blk_far ns (by first | (simp; done) | (simp; omega)) _).trans hI.hs.symm, (blk_far nn (by first | (simp; done) | (simp; omega)) _).trans hI.hn.symm⟩, _, ⟨blk_far n2 (by first | (simp; done) | (simp; omega)) _, blk_far n6 (by first | (simp; done) | (simp; omega)) _, blk_put n7 0 _ rfl, blk_far ns (by first | (simp; done) | (simp; omega)) _, blk_far nn (by first | (simp; done) | (simp; omega)) _, by rw [gather_snoc]; exact Kd.S_set ho n7 (by decide) 0 _, ?_⟩⟩
    exact hb2.setCell (p := ⟨w.heap.size + 1 + 1 + 1, 0, none⟩) (by show w.heap.size ≤ w.heap.size + 1 + 1 + 1; omega) _
  case done =>
    rintro D ys W hD hys ⟨v, hI⟩ hK
    have hc7 : W.cell? ⟨w.heap.size + 1 + 1 + 1, 0, none⟩ = some v := (blk_cell hI.h7 0).trans rfl
    rw [gather_all a0 l1 ys hys] at hI
    gi_wp2
    refine ⟨by simp, .inl ⟨_, _, rfl, run_takeDeferred hK, ?_⟩⟩
    have hI2 := hI.own (grownBy_putObj' W D (.deferred none)) (fun r e => by cases e; exact ⟨by omega, _, hK, rfl⟩)
    exact ⟨.tuple #[v, .bool true], by simp [results, Try.f8, go_sem], v, rfl, hI2.S, hI2.B⟩
  case stop =>
    rintro D c pre W _ _ h _
    exact h.elim

set_option maxHeartbeats 8000000 in
set_option maxRecDepth 100000 in
/-- No number, or data that is cut to nothing: nothing, and false. -/
theorem impl_WireCut.no (a0 : Int) (A1 : Option Addr) (c1 : Nat) (l1 : List Int) (w : World) (hr1 : Kd.C (Kd.int .u8) w A1 l1.length l1) (hc1 : l1.length ≤ c1) (hm : l1.length ≤ 281474976710656) (hno : wof l1 = 0 ∨ ¬ (1 ≤ a0 ∧ a0 ≤ 1000000)) :
    Calls Try.prog 8 #[.int .i64 a0, .slice A1 l1.length c1] w fun e w' => e = .returned (.tuple #[.slice none 0 0, .bool false]) ∧ Below w.heap.size w w' := by
  have e1 : impl_WireOf.f l1 = some ((wof l1 : Nat) : Int) := by
    rw [impl_WireOf_val l1 hm]
    congr 2
    unfold wof ofn
    split <;> split <;> omega
  have e2 : impl_isNumber.f a0 = some (decide (1 ≤ a0 ∧ a0 ≤ 1000000)) := impl_isNumber_val a0
  by_cases h0 : wof l1 = 0
  · rw [h0] at e1
    go_enter Try.func8, Try.ntmps8
    go_wp2_with (first | (go_at_call 18; refine (impl_WireOf.calls A1 c1 l1 _ _ (Kd.C_below hr1 (below_alloc (Below.refl _ _) _)) hc1 e1).mono ?_; rintro e w' ⟨rfl, ⟨nd, rfl⟩⟩))
    go_ret2
    exact ⟨rfl, below_alloc (pw_below_drewN (below_alloc (Below.refl _ _) _) _) _⟩
  · have hne : ¬ (((wof l1 : Nat) : Int) = 0) := by omega
    rw [decide_eq_false (hno.resolve_left h0)] at e2
    go_enter Try.func8, Try.ntmps8
    go_wp2_with (first | (go_at_call 18; refine (impl_WireOf.calls A1 c1 l1 _ _ (Kd.C_below hr1 (below_alloc (Below.refl _ _) _)) hc1 e1).mono ?_; rintro e w' ⟨rfl, ⟨nd, rfl⟩⟩) | (go_at_call 23; refine (impl_isNumber.calls a0 _ _ e2).mono ?_; rintro e w' ⟨rfl, ⟨nd2, rfl⟩⟩))
    go_ret2
    exact ⟨rfl, pw_below_drewN (below_alloc (pw_below_drewN (below_alloc (Below.refl _ _) _) _) _) _⟩

theorem impl_WireCut.calls (k : Nat) (a0 : Int) (A1 : Option Addr) (c1 : Nat) (l1 : List Int) (r1 : List (S36)) (r2 : Bool) (w : World) (hr1 : Kd.C (Kd.int .u8) w A1 l1.length l1) (hc1 : l1.length ≤ c1) (hm : l1.length ≤ 281474976710656) (h : impl_WireCut.f k a0 l1 = some (r1, r2)) :
    Calls Try.prog 8 #[.int .i64 a0, .slice A1 l1.length c1] w fun e w' => ∃ v0_ : Value, e = .returned (.tuple #[v0_, .bool r2]) ∧ Kd.S k36c 36 w' w.heap.size (fun _ => True) v0_ r1 ∧ Below w.heap.size w w' := by
  rcases impl_WireCut_cases k a0 l1 r1 r2 h with ⟨rfl, rfl, hno⟩ | ⟨rfl, rfl, h1, h2, h3, h4⟩
  · refine (impl_WireCut.no a0 A1 c1 l1 w hr1 hc1 hm hno).mono ?_
    rintro e w' ⟨rfl, hb⟩
    exact ⟨_, rfl, Kd.S_nil _ _ _ _ _, hb⟩
  · obtain ⟨ad, rfl, _⟩ := hr1.2.2 h1
    exact callsIn_wide.1 (impl_WireCut.yes a0 ad c1 l1 w hr1 hc1 h1 h2 h3 h4)
end Go.Proofs.Ytongoeifppllnaa.J
