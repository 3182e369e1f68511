/- Words beside the printer's: a row made with room and no element yet (make([]T, 0, n)); a row of the call's own whose capacity was cut. No program in sight. -/
import Derived.Test.YtongoeifppllnaaWMore
import Derived.Laws.MakeOwn
import Derived.OwnWalk
namespace Go.Proofs.YtongoeifppllnaaW.PrintWords
open Go Go.RowKit
namespace Kd
section
variable {P : Program} {ops : Array Oper} {rest : List Oper} {o : Oper} {a : Act} {Q : Exit → Act → World → Prop} {α : Type}
/-- 'make([]T, 0, n)': a row without elements. -/
theorem R_room (d : Kd α) {w0 W : World} (base e : Nat) (hgd : o.guard = none) {N : Tmp} (_hd : o.dst = some N) {c : Nat} {cells : Array Value} {ok : Nat → Prop}
    (hrun : (execOp a.eval o).run P W = .ok (.value (.slice (some ⟨W.heap.size, 0, none⟩) 0 c)) (W.alloc (.cells cells e)))
    (hs : cells.size = c * d.sz) (hm : c ≤ 9223372036854775807) (hfresh : ok W.heap.size) (HB : Below base w0 W) (hbase : base ≤ W.heap.size)
    (h : ∀ v1 w1, d.R e w1 base ok v1 [] → Below base w0 w1 → W.grownBy w1 none → (∃ b, v1.ownBlock = some b ∧ W.heap.size ≤ b) → wpList P ops Q rest (a.put o.dst v1) w1) : wpList P ops Q (o :: rest) a W := by
  refine event_run hgd hrun (h _ _ ⟨fun k hk => ?_, [], ?_, Reps.none _ _⟩ (HB.alloc hbase _) (World.grownBy_alloc W _ none) ⟨W.heap.size, by simp [Value.ownBlock], Nat.le_refl _⟩)
  · have : W.heap.size = k := by simpa [Value.ownBlock] using hk
    subst this
    exact hfresh
  · exact World.ownsRow_made W cells c hbase (by simpa [maxLen] using hm) hs
end

/-! ### A row whose capacity was cut -/
/-- The same row with a capacity that is no greater. -/
def Cl (v v2 : Value) : Prop := v = v2 ∨ ∃ A n c c2, v = .slice A n c ∧ v2 = .slice A n c2 ∧ n ≤ c ∧ c ≤ c2
theorem Cl.own {v v2 : Value} (h : Cl v v2) : v.ownBlock = v2.ownBlock := by
  rcases h with rfl | ⟨A, n, c, c2, rfl, rfl, _⟩
  · rfl
  · cases A <;> rfl
/-- Kd.R, but for the capacity. -/
def Rc {α : Type} (d : Kd α) (e : Nat) (w : World) (base : Nat) (ok : Nat → Prop) (v : Value) (xs : List α) : Prop := (∀ k, v.ownBlock = some k → ok k) ∧ ∃ v2, Cl v v2 ∧ d.R e w base ok v2 xs
theorem Rc_mk {α : Type} {d : Kd α} {e : Nat} {w : World} {base : Nat} {ok : Nat → Prop} {v v2 : Value} {xs : List α} (hc : Cl v v2) (h : d.R e w base ok v2 xs) : d.Rc e w base ok v xs := ⟨fun k hk => h.1 k (by rw [← hc.own]; exact hk), v2, hc, h⟩
section
variable {α : Type} {d : Kd α} {e : Nat} {w w1 W W2 : World} {base : Nat} {ok ok' ok1 S : Nat → Prop} {v u : Value} {xs : List α}
theorem Rc_of (h : d.R e w base ok v xs) : d.Rc e w base ok v xs := Rc_mk (.inl rfl) h
theorem Rc_map {base' : Nat} (h : d.Rc e w base ok v xs) (k : ∀ v2, v.ownBlock = v2.ownBlock → d.R e w base ok v2 xs → d.R e w1 base' ok' v2 xs) : d.Rc e w1 base' ok' v xs := by
  obtain ⟨_, v2, hc, hr⟩ := h
  exact Rc_mk hc (k v2 hc.own hr)
theorem Rc_reads' {A : Option Addr} {n c : Nat} (h : d.Rc e w base ok (.slice A n c) xs) : n = xs.length ∧ n ≤ c ∧ d.C w A xs.length xs := by
  obtain ⟨_, v2, hc, hr⟩ := h
  rcases hc with rfl | ⟨A', n', c', c2, h1, rfl, h3, _⟩
  · exact R_reads' hr
  · obtain ⟨rfl, rfl, rfl⟩ := Value.slice.inj h1
    obtain ⟨r1, _, r3⟩ := R_reads' hr
    exact ⟨r1, h3, r3⟩
theorem Rc_slice (h : d.Rc e w base ok v xs) : ∃ A c, v = .slice A xs.length c := by
  obtain ⟨_, v2, hc, hr⟩ := h
  obtain ⟨A, c, rfl⟩ := R_slice hr
  rcases hc with rfl | ⟨A', n', c', c2, rfl, h2, _⟩
  · exact ⟨A, c, rfl⟩
  · obtain ⟨rfl, rfl, rfl⟩ := Value.slice.inj h2
    exact ⟨_, _, rfl⟩
theorem Rc_alloc (h : d.Rc e w base ok v xs) (o : Obj) : d.Rc e (w.alloc o) base ok v xs := Rc_map h fun _ _ h => R_alloc h o
theorem Rc_drewN (h : d.Rc e w base ok v xs) (m : Nat) : d.Rc e (w.drewN m) base ok v xs := Rc_map h fun _ _ h => R_drewN h m
theorem Rc_drew (h : d.Rc e w base ok v xs) : d.Rc e w.drew base ok v xs := Rc_map h fun _ _ h => R_drew h
theorem Rc_lower {base' : Nat} (h : d.Rc e w base ok v xs) (hb : base' ≤ base) : d.Rc e w base' ok v xs := Rc_map h fun _ _ h => R_lower h hb
theorem Rc_below (h : d.Rc e w base ok v xs) (hb : Below w.heap.size w w1) : d.Rc e w1 base ok v xs := Rc_map h fun _ _ h => R_below h hb
theorem Rc_typed (h : d.Rc e w base ok v xs) : ∀ k, v.ownBlock = some k → ∃ cells, w.heap[k]? = some (.cells cells e (0, 0)) := by
  obtain ⟨_, v2, hc, hr⟩ := h
  rw [hc.own]; exact R_typed hr
theorem Rc_apart' {e' : Nat} (h : d.Rc e W base ok u xs) (hty : ∀ k, v.ownBlock = some k → ∃ cells, W.heap[k]? = some (.cells cells e' (0, 0))) (ht : ∀ q, q ∈ e :: d.E → q ≠ e') : d.Rc e W base (fun k => ok k ∧ some k ≠ v.ownBlock) u xs := Rc_map h fun _ _ h => R_apart' h hty ht
theorem Rc_elder' (h : d.Rc e W base ok u xs) (hbase : ∀ k, v.ownBlock = some k → W.heap.size ≤ k) (hb : Below W.heap.size W w1) : d.Rc e w1 base (fun k => ok k ∧ some k ≠ v.ownBlock) u xs := Rc_map h fun _ _ h => R_elder' h hbase hb
theorem Rc_base (h : d.Rc e w base ok v xs) : ∀ k, v.ownBlock = some k → base ≤ k := by
  obtain ⟨_, v2, hc, hr⟩ := h
  rw [hc.own]; exact R_base hr
theorem Rc_new' (h : d.Rc e w1 W.heap.size ok v xs) (hlt : ∀ k, u.ownBlock = some k → k < W.heap.size) : d.Rc e w1 W.heap.size (fun k => ok k ∧ some k ≠ u.ownBlock) v xs := Rc_map h fun _ _ h => R_new' h hlt
theorem Rc_lt (h : d.Rc e w base ok v xs) : ∀ k, v.ownBlock = some k → k < w.heap.size := by
  obtain ⟨_, v2, hc, hr⟩ := h
  rw [hc.own]; exact R_lt hr
theorem Rc_tight (hE : d.E = []) (h : d.Rc e w base ok v xs) : d.Rc e w base (fun k => some k = v.ownBlock) v xs := Rc_map h fun v2 ho h => by rw [ho]; exact R_tight hE h
theorem Rc_ne (h : d.Rc e w base ok v xs) {g t : Nat} {cells : Array Value} (hb : w.heap[g]? = some (.cells cells t (0, 0))) (ht : e ≠ t) : some g ≠ v.ownBlock := by
  obtain ⟨_, v2, hc, hr⟩ := h
  rw [hc.own]; exact R_ne hr hb ht
theorem Rc_mono (h : d.Rc e w base ok v xs) (hok : ∀ k, ok k → ok' k) : d.Rc e w base ok' v xs := Rc_map h fun _ _ h => R_mono h hok
theorem Rc_keptB (h : d.Rc e W base ok v xs) (hk : Kept W W2 S) (hne : ∀ k, ok k → ¬ S k) : d.Rc e W2 base (fun k => ok k ∧ (¬ S k ∧ k < W.heap.size)) v xs := Rc_map h fun _ _ h => R_keptB h hk hne
theorem Rc_reok (hE : d.E = []) (h : d.Rc e W base ok1 v xs) (hok : ∀ k, v.ownBlock = some k → ok k) : d.Rc e W base ok v xs := Rc_map h fun v2 ho h => R_reok hE h (by rw [← ho]; exact hok)
theorem Rc_bound (h : d.Rc e w base ok v xs) : d.Rc e w base (fun k => ok k ∧ base ≤ k ∧ k < w.heap.size ∧ ∃ q, q ∈ e :: d.E ∧ ∃ cells, w.heap[k]? = some (.cells cells q (0, 0))) v xs := Rc_map h fun _ _ h => R_bound h
theorem Rc_grown (h : d.Rc e w base ok v xs) {row : Option Nat} (hg : w.grownBy w1 row) (hok : ∀ k, ok k → some k ≠ row) : d.Rc e w1 base ok v xs := Rc_map h fun _ _ h => R_grown h hg hok
theorem Rc_putg {enc : α → Value} {h1 : ∀ x, (enc x).oneCell' = true} {g n cap : Nat} (h : (scalar enc h1).Rc e W base ok (.slice (some ⟨g, 0, none⟩) n cap) xs) (i : Int) (x : α) :
    (scalar enc h1).Rc e (W.setCell ⟨g, i.toNat, none⟩ (enc x)) base ok (.slice (some ⟨g, 0, none⟩) n cap) (xs.set i.toNat x) ∧ W.grownBy (W.setCell ⟨g, i.toNat, none⟩ (enc x)) (some g) := by
  obtain ⟨_, v2, hc, hr⟩ := h
  rcases hc with rfl | ⟨A', n', c', c2, h1, rfl, h3, h4⟩
  · obtain ⟨r1, r2⟩ := R_putg hr i x
    exact ⟨Rc_of r1, r2⟩
  · obtain ⟨rfl, rfl, rfl⟩ := Value.slice.inj h1
    obtain ⟨r1, r2⟩ := R_putg hr i x
    exact ⟨Rc_mk (.inr ⟨_, _, _, _, rfl, rfl, h3, h4⟩) r1, r2⟩
theorem Rc_elem {g n cap : Nat} (h : d.Rc e W base ok (.slice (some ⟨g, 0, none⟩) n cap) xs) (z : α) (i : Int) (h0 : 0 ≤ i) (h1 : i < n) :
    ∃ c, c.length = d.sz ∧ d.M W base (fun k => ok k ∧ k ≠ g) (xs.getD i.toNat z) c ∧ (∀ j u, c[j]? = some u → W.cell? ⟨g, i.toNat * d.sz + j, none⟩ = some u) ∧ ∀ j, W.frozen? ⟨g, i.toNat * d.sz + j, none⟩ = false := by
  obtain ⟨_, v2, hc, hr⟩ := h
  rcases hc with rfl | ⟨A', n', c', c2, h3, rfl, _, _⟩
  · exact R_elem hr z i h0 h1
  · obtain ⟨rfl, rfl, rfl⟩ := Value.slice.inj h3
    exact R_elem hr z i h0 h1
theorem Rc_seg {g n cap : Nat} {okp : Nat → Prop} (h : d.Rc e W base ok (.slice (some ⟨g, 0, none⟩) n cap) xs) (i : Int) (h0 : 0 ≤ i) (h1 : i < n) {c seg : List Value} {j : Nat} (hcl : c.length = d.sz) (hcc : ∀ j u, c[j]? = some u → W.cell? ⟨g, i.toNat * d.sz + j, none⟩ = some u)
    (hj : j + seg.length ≤ d.sz) {x' : α} (hM : d.M W base okp x' (c.take j ++ seg ++ c.drop (j + seg.length))) (hokp : ∀ k, okp k → ok k ∧ k ≠ g) :
    d.Rc e (W.setCells g (i.toNat * d.sz + j) seg) base ok (.slice (some ⟨g, 0, none⟩) n cap) (xs.set i.toNat x') ∧ W.grownBy (W.setCells g (i.toNat * d.sz + j) seg) (some g) := by
  obtain ⟨_, v2, hc, hr⟩ := h
  rcases hc with rfl | ⟨A', n', c', c2, h3, rfl, h4, h5⟩
  · obtain ⟨r1, r2⟩ := R_seg hr i h0 h1 hcl hcc hj hM hokp
    exact ⟨Rc_of r1, r2⟩
  · obtain ⟨rfl, rfl, rfl⟩ := Value.slice.inj h3
    obtain ⟨r1, r2⟩ := R_seg hr i h0 h1 hcl hcc hj hM hokp
    exact ⟨Rc_mk (.inr ⟨_, _, _, _, rfl, rfl, h4, h5⟩) r1, r2⟩
theorem Rc_nil (d : Kd α) (e : Nat) (w : World) (base : Nat) (ok : Nat → Prop) : d.Rc e w base ok (.slice none 0 0) [] := Rc_of (R_nil _ _ _ _ _)
theorem Rc_old (hu : d.Rc e W base ok u xs) (hb : Below W.heap.size W w1) : d.Rc e w1 base (fun k => ok k ∧ k < W.heap.size) u xs := Rc_map hu fun _ _ h => Go.Proofs.YtongoeifppllnaaW.PrintMore.Kd.R_old h hb
theorem Rc_told {N : Nat} (h : d.Rc e w1 base (fun k => ok k ∧ k < N) u xs) (hbase : ∀ k, v.ownBlock = some k → N ≤ k) : d.Rc e w1 base (fun k => (ok k ∧ some k ≠ v.ownBlock) ∧ k < N) u xs := Rc_map h fun _ _ h => Go.Proofs.YtongoeifppllnaaW.PrintMore.Kd.R_told h hbase
theorem Rc_far (h : d.Rc e w base ok v xs) {p : Addr} (hok : ∀ k, ok k → k ≠ p.block) (u : Value) : d.Rc e (w.setCell p u) base ok v xs := Rc_map h fun _ _ h => R_far h hok u
theorem Rc_types (h : d.Rc e w base ok v xs) {g t : Nat} {cells : Array Value} (hb : w.heap[g]? = some (.cells cells t (0, 0))) (ht : ∀ q, q ∈ e :: d.E → q ≠ t) : d.Rc e w base (fun k => ok k ∧ k ≠ g) v xs := Rc_map h fun _ _ h => R_types h hb ht
theorem Rc_form (h : d.Rc e w base ok v xs) (hp : 0 < xs.length) : ∃ g cap, v = .slice (some ⟨g, 0, none⟩) xs.length cap ∧ base ≤ g ∧ g < w.heap.size ∧ ∃ cells, w.heap[g]? = some (.cells cells e (0, 0)) := by
  obtain ⟨_, v2, hc, hr⟩ := h
  obtain ⟨g, cap, rfl, h1, h2, h3⟩ := R_form hr hp
  rcases hc with rfl | ⟨A', n', c', c2, rfl, h4, _⟩
  · exact ⟨g, cap, rfl, h1, h2, h3⟩
  · obtain ⟨rfl, rfl, rfl⟩ := Value.slice.inj h4
    exact ⟨g, _, rfl, h1, h2, h3⟩
theorem Rc_celln {enc : α → Value} {h1 : ∀ x, (enc x).oneCell' = true} {g n cap : Nat} (dd : α) (h : (scalar enc h1).Rc e W base ok (.slice (some ⟨g, 0, none⟩) n cap) xs) (i : Int) (h0 : 0 ≤ i) (hi : i < n) : W.cell? ⟨g, i.toNat, none⟩ = some (enc (rdOf dd xs i)) ∧ W.frozen? ⟨g, i.toNat, none⟩ = false := by
  obtain ⟨_, v2, hc, hr⟩ := h
  rcases hc with rfl | ⟨A', n', c', c2, h1, rfl, h3, h4⟩
  · exact R_celln dd hr i h0 hi
  · obtain ⟨rfl, rfl, rfl⟩ := Value.slice.inj h1
    exact R_celln dd hr i h0 hi
end
/-! ### A row without its first elements (xs[m:]) -/
def Dr (sz : Nat) (v v2 : Value) (m : Nat) : Prop := (v = v2 ∧ m = 0) ∨ ∃ A n c, v2 = .slice A n c ∧ v = .slice (if c = m then A else A.map (·.add (m * sz))) (n - m) (c - m)
theorem Dr.own {sz m : Nat} {v v2 : Value} (h : Dr sz v v2 m) : ∀ k, v.ownBlock = some k → v2.ownBlock = some k := by
  rcases h with ⟨rfl, _⟩ | ⟨A, n, c, rfl, rfl⟩
  · exact fun k hk => hk
  · intro k hk
    cases A with
    | none => by_cases h : c = m <;> simp [h, Value.ownBlock] at hk
    | some a =>
      have hb : (a.add (m * sz)).block = a.block := by unfold Addr.add; split <;> rfl
      by_cases h : c = m
      · rw [if_pos h] at hk; exact hk
      · rw [if_neg h] at hk; simpa [Value.ownBlock, hb] using hk
def Rd {α : Type} (d : Kd α) (e : Nat) (w : World) (base : Nat) (ok : Nat → Prop) (v : Value) (xs : List α) : Prop := ∃ v2 ys m, Dr d.sz v v2 m ∧ m ≤ ys.length ∧ xs = ys.drop m ∧ d.R e w base ok v2 ys
section
variable {α : Type} {d : Kd α} {e : Nat} {w w1 W W2 : World} {base : Nat} {ok ok' ok1 S : Nat → Prop} {v u : Value} {xs : List α}
theorem Rd_of (h : d.R e w base ok v xs) : d.Rd e w base ok v xs := ⟨v, xs, 0, .inl ⟨rfl, rfl⟩, Nat.zero_le _, rfl, h⟩
theorem Rd_drop {A : Option Addr} {c m : Nat} (h : d.R e w base ok (.slice A xs.length c) xs) (hm : m ≤ xs.length) : d.Rd e w base ok (.slice (if c = m then A else A.map (·.add (m * d.sz))) (xs.length - m) (c - m)) (xs.drop m) := ⟨_, xs, m, .inr ⟨_, _, _, rfl, rfl⟩, hm, rfl, h⟩
theorem Rd_map {base' : Nat} (h : d.Rd e w base ok v xs) (k : ∀ v2 ys, d.R e w base ok v2 ys → d.R e w1 base' ok' v2 ys) : d.Rd e w1 base' ok' v xs := by
  obtain ⟨v2, ys, m, h1, h2, h3, h4⟩ := h
  exact ⟨v2, ys, m, h1, h2, h3, k _ _ h4⟩
theorem Rd_reads' {A : Option Addr} {n c : Nat} (h : d.Rd e w base ok (.slice A n c) xs) : n = xs.length ∧ n ≤ c ∧ d.C w A xs.length xs := by
  obtain ⟨v2, ys, m, h1, h2, rfl, h4⟩ := h
  rcases h1 with ⟨rfl, rfl⟩ | ⟨A', n', c', rfl, h5⟩
  · exact R_reads' h4
  · obtain ⟨r1, r2, r3⟩ := R_reads' h4
    subst r1
    obtain ⟨rfl, rfl, rfl⟩ := Value.slice.inj h5
    refine ⟨by simp, by omega, ?_⟩
    exact C_drop r3 h2 r2
theorem Rd_slice (h : d.Rd e w base ok v xs) : ∃ A c, v = .slice A xs.length c := by
  obtain ⟨v2, ys, m, h1, h2, rfl, h4⟩ := h
  obtain ⟨A, c, rfl⟩ := R_slice h4
  rcases h1 with ⟨rfl, rfl⟩ | ⟨A', n', c', h5, rfl⟩
  · exact ⟨A, c, rfl⟩
  · obtain ⟨rfl, rfl, rfl⟩ := Value.slice.inj h5
    exact ⟨_, _, by rw [List.length_drop]⟩
theorem Rd_alloc (h : d.Rd e w base ok v xs) (o : Obj) : d.Rd e (w.alloc o) base ok v xs := Rd_map h fun _ _ h => R_alloc h o
theorem Rd_drewN (h : d.Rd e w base ok v xs) (m : Nat) : d.Rd e (w.drewN m) base ok v xs := Rd_map h fun _ _ h => R_drewN h m
theorem Rd_drew (h : d.Rd e w base ok v xs) : d.Rd e w.drew base ok v xs := Rd_map h fun _ _ h => R_drew h
theorem Rd_below (h : d.Rd e w base ok v xs) (hb : Below w.heap.size w w1) : d.Rd e w1 base ok v xs := Rd_map h fun _ _ h => R_below h hb
theorem Rd_mono (h : d.Rd e w base ok v xs) (hok : ∀ k, ok k → ok' k) : d.Rd e w base ok' v xs := Rd_map h fun _ _ h => R_mono h hok
theorem Rd_far (h : d.Rd e w base ok v xs) {p : Addr} (hok : ∀ k, ok k → k ≠ p.block) (u : Value) : d.Rd e (w.setCell p u) base ok v xs := Rd_map h fun _ _ h => R_far h hok u
theorem Rd_types (h : d.Rd e w base ok v xs) {g t : Nat} {cells : Array Value} (hb : w.heap[g]? = some (.cells cells t (0, 0))) (ht : ∀ q, q ∈ e :: d.E → q ≠ t) : d.Rd e w base (fun k => ok k ∧ k ≠ g) v xs := Rd_map h fun _ _ h => R_types h hb ht
theorem Rd_elder' (h : d.Rd e W base ok u xs) (hbase : ∀ k, v.ownBlock = some k → W.heap.size ≤ k) (hb : Below W.heap.size W w1) : d.Rd e w1 base (fun k => ok k ∧ some k ≠ v.ownBlock) u xs := Rd_map h fun _ _ h => R_elder' h hbase hb
theorem Rd_lt (h : d.Rd e w base ok v xs) : ∀ k, v.ownBlock = some k → k < w.heap.size := by
  obtain ⟨v2, ys, m, h1, h2, rfl, h4⟩ := h
  exact fun k hk => R_lt h4 k (h1.own k hk)
end
/-- A row inside an element, whose capacity may have been cut. -/
theorem Rc_move {α : Type} {d : Kd α} {e : Nat} {w w1 : World} {base : Nat} {ok : Nat → Prop} {v : Value} {xs : List α} (h : d.Rc e w base ok v xs) (hm : ∀ k, ok k → w1.heap[k]? = w.heap[k]?) : d.Rc e w1 base ok v xs := Rc_map h fun _ _ h => R_move h hm
theorem Rc_reads {α : Type} {d : Kd α} {e : Nat} {w : World} {base : Nat} {ok : Nat → Prop} {v : Value} {xs : List α} (h : d.Rc e w base ok v xs) : ∃ A c, v = .slice A xs.length c ∧ xs.length ≤ c ∧ d.C w A xs.length xs := by
  obtain ⟨A, c, rfl⟩ := Rc_slice h
  obtain ⟨_, h2, h3⟩ := Rc_reads' h
  exact ⟨A, c, rfl, h2, h3⟩
def slicec {α : Type} (e : Nat) (d : Kd α) : Kd (List α) where
  sz := 1
  E := e :: d.E
  K := fun w xs cs => ∃ A c, cs = [.slice A xs.length c] ∧ xs.length ≤ c ∧ d.C w A xs.length xs
  M := fun w base ok xs cs => ∃ v, cs = [v] ∧ d.Rc e w base ok v xs
  K_len := by
    rintro w x cs ⟨A, c, rfl, _⟩
    rfl
  K_one := by
    rintro w x cs ⟨A, c, rfl, _⟩ u hu
    rw [List.mem_singleton.1 hu]
    rfl
  K_below := by
    rintro w w1 x cs hb ⟨A, c, rfl, hl, hr⟩
    exact ⟨A, c, rfl, hl, C_below hr hb⟩
  K_of_M := by
    rintro w base ok x cs ⟨v, rfl, h⟩
    obtain ⟨A, c, rfl, hl, hr⟩ := Rc_reads h
    exact ⟨A, c, rfl, hl, hr⟩
  M_mono := by
    rintro w base ok ok' x cs hok ⟨v, rfl, h⟩
    exact ⟨v, rfl, Rc_mono h hok⟩
  M_bound := by
    rintro w base ok x cs ⟨v, rfl, h⟩
    exact ⟨v, rfl, Rc_bound h⟩
  M_move := by
    rintro w w1 base ok x cs hm ⟨v, rfl, h⟩
    exact ⟨v, rfl, Rc_move h hm⟩
  M_lower := by
    rintro w base base' ok x cs hb ⟨v, rfl, h⟩
    exact ⟨v, rfl, Rc_lower h hb⟩
/-- Such a row of bytes as a string. -/
theorem rc_string {P : Program} {w : World} {base : Nat} {ok : Nat → Prop} {e' src dst e : TypeId} {v : Value} {xs : List Int} (hs : P.underlying src = some (.slice e)) (he : P.underlying e = some (.int .u8)) (hd : P.underlying dst = some .string)
    (h : (Kd.int .u8).Rc e' w base ok v xs) : (convert src dst v).run P w = .ok (.string (strOfNums xs)) w := by
  obtain ⟨_, v2, hc, hr⟩ := h
  have ho := own_of_R hr
  rcases hc with rfl | ⟨A', n', c', c2, rfl, rfl, _, _⟩
  · exact own_string hs he hd ho
  · have hl : n' = xs.length := (R_reads' hr).1
    rcases ho.2 with ⟨hv, _⟩ | ⟨g, cap, cur, hv, _⟩
    · injection hv with e1 e2 e3
      subst e1 e2
      obtain rfl : xs = [] := List.eq_nil_of_length_eq_zero hl.symm
      exact run_convert_bytes_nil w src e hs he 0 c' dst hd
    · injection hv with e1 e2 e3
      subst e1 e3
      refine run_convert_bytes_arg w src e hs he g 0 n' c' xs hl.symm (fun i hi => ?_) dst hd
      have hc := ho.cells (g := g) rfl i (.int .u8 (xs.getD i 0)) (by simp [encs, List.getElem?_eq_getElem (show i < xs.length by omega), List.getD_eq_getElem?_getD])
      have ha : (⟨g, 0, none⟩ : Addr).add i = ⟨g, 0 + i, none⟩ := by unfold Addr.add; split <;> simp_all
      rwa [ha] at hc
end Kd
end Go.Proofs.YtongoeifppllnaaW.PrintWords
