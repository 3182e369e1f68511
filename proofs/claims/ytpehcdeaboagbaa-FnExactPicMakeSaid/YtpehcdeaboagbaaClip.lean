/- Words beside the printer's: a row made with room and no element yet (make([]T, 0, n)); a row of the call's own whose capacity was cut. No program in sight. -/
import Derived.Test.YtpehcdeaboagbaaWMore
import Derived.Laws.MakeOwn
import Derived.OwnWalk
namespace Go.Proofs.YtpehcdeaboagbaaW.PrintWords
open Go Go.RowKit
namespace Kd
section
variable {P : Program} {ops : Array Oper} {rest : List Oper} {o : Oper} {a : Act} {Q : Exit → Act → World → Prop} {α : Type}
end

/-! ### A row whose capacity was cut -/
/-- The same row with a capacity that is no greater. -/
def Cl (v v2 : Value) : Prop := v = v2 ∨ ∃ A n c c2, v = .slice A n c ∧ v2 = .slice A n c2 ∧ n ≤ c ∧ c ≤ c2
theorem Cl.own {v v2 : Value} (h : Cl v v2) : v.ownBlock = v2.ownBlock := by
  rcases h with rfl | ⟨A, n, c, c2, rfl, rfl, _⟩
  · rfl
  · cases A <;> rfl
/-- Kd.R, but for the capacity. -/
def Rc {α : Type} (d : Kd α) (e : Nat) (w : World) (base : Nat) (ok : Nat → Prop) (v : Value) (xs : List α) : Prop := (∀ k, v.ownBlock = some k → ok k) ∧ ∃ v2, Cl v v2 ∧ d.R e w base ok v2 xs
theorem Rc_mk {α : Type} {d : Kd α} {e : Nat} {w : World} {base : Nat} {ok : Nat → Prop} {v v2 : Value} {xs : List α} (hc : Cl v v2) (h : d.R e w base ok v2 xs) : d.Rc e w base ok v xs := ⟨fun k hk => h.1 k (by rw [← hc.own]; exact hk), v2, hc, h⟩
section
variable {α : Type} {d : Kd α} {e : Nat} {w w1 W W2 : World} {base : Nat} {ok ok' ok1 S : Nat → Prop} {v u : Value} {xs : List α}
theorem Rc_of (h : d.R e w base ok v xs) : d.Rc e w base ok v xs := Rc_mk (.inl rfl) h
theorem Rc_map {base' : Nat} (h : d.Rc e w base ok v xs) (k : ∀ v2, v.ownBlock = v2.ownBlock → d.R e w base ok v2 xs → d.R e w1 base' ok' v2 xs) : d.Rc e w1 base' ok' v xs := by
  obtain ⟨_, v2, hc, hr⟩ := h
  exact Rc_mk hc (k v2 hc.own hr)
theorem Rc_reads' {A : Option Addr} {n c : Nat} (h : d.Rc e w base ok (.slice A n c) xs) : n = xs.length ∧ n ≤ c ∧ d.C w A xs.length xs := by
  obtain ⟨_, v2, hc, hr⟩ := h
  rcases hc with rfl | ⟨A', n', c', c2, h1, rfl, h3, _⟩
  · exact R_reads' hr
  · obtain ⟨rfl, rfl, rfl⟩ := Value.slice.inj h1
    obtain ⟨r1, _, r3⟩ := R_reads' hr
    exact ⟨r1, h3, r3⟩
theorem Rc_slice (h : d.Rc e w base ok v xs) : ∃ A c, v = .slice A xs.length c := by
  obtain ⟨_, v2, hc, hr⟩ := h
  obtain ⟨A, c, rfl⟩ := R_slice hr
  rcases hc with rfl | ⟨A', n', c', c2, rfl, h2, _⟩
  · exact ⟨A, c, rfl⟩
  · obtain ⟨rfl, rfl, rfl⟩ := Value.slice.inj h2
    exact ⟨_, _, rfl⟩
theorem Rc_alloc (h : d.Rc e w base ok v xs) (o : Obj) : d.Rc e (w.alloc o) base ok v xs := Rc_map h fun _ _ h => R_alloc h o
theorem Rc_drewN (h : d.Rc e w base ok v xs) (m : Nat) : d.Rc e (w.drewN m) base ok v xs := Rc_map h fun _ _ h => R_drewN h m
theorem Rc_drew (h : d.Rc e w base ok v xs) : d.Rc e w.drew base ok v xs := Rc_map h fun _ _ h => R_drew h
theorem Rc_lower {base' : Nat} (h : d.Rc e w base ok v xs) (hb : base' ≤ base) : d.Rc e w base' ok v xs := Rc_map h fun _ _ h => R_lower h hb
theorem Rc_below (h : d.Rc e w base ok v xs) (hb : Below w.heap.size w w1) : d.Rc e w1 base ok v xs := Rc_map h fun _ _ h => R_below h hb
theorem Rc_typed (h : d.Rc e w base ok v xs) : ∀ k, v.ownBlock = some k → ∃ cells, w.heap[k]? = some (.cells cells e (0, 0)) := by
  obtain ⟨_, v2, hc, hr⟩ := h
  rw [hc.own]; exact R_typed hr
theorem Rc_elder' (h : d.Rc e W base ok u xs) (hbase : ∀ k, v.ownBlock = some k → W.heap.size ≤ k) (hb : Below W.heap.size W w1) : d.Rc e w1 base (fun k => ok k ∧ some k ≠ v.ownBlock) u xs := Rc_map h fun _ _ h => R_elder' h hbase hb
theorem Rc_base (h : d.Rc e w base ok v xs) : ∀ k, v.ownBlock = some k → base ≤ k := by
  obtain ⟨_, v2, hc, hr⟩ := h
  rw [hc.own]; exact R_base hr
theorem Rc_new' (h : d.Rc e w1 W.heap.size ok v xs) (hlt : ∀ k, u.ownBlock = some k → k < W.heap.size) : d.Rc e w1 W.heap.size (fun k => ok k ∧ some k ≠ u.ownBlock) v xs := Rc_map h fun _ _ h => R_new' h hlt
theorem Rc_lt (h : d.Rc e w base ok v xs) : ∀ k, v.ownBlock = some k → k < w.heap.size := by
  obtain ⟨_, v2, hc, hr⟩ := h
  rw [hc.own]; exact R_lt hr
theorem Rc_tight (hE : d.E = []) (h : d.Rc e w base ok v xs) : d.Rc e w base (fun k => some k = v.ownBlock) v xs := Rc_map h fun v2 ho h => by rw [ho]; exact R_tight hE h
theorem Rc_ne (h : d.Rc e w base ok v xs) {g t : Nat} {cells : Array Value} (hb : w.heap[g]? = some (.cells cells t (0, 0))) (ht : e ≠ t) : some g ≠ v.ownBlock := by
  obtain ⟨_, v2, hc, hr⟩ := h
  rw [hc.own]; exact R_ne hr hb ht
theorem Rc_mono (h : d.Rc e w base ok v xs) (hok : ∀ k, ok k → ok' k) : d.Rc e w base ok' v xs := Rc_map h fun _ _ h => R_mono h hok
theorem Rc_keptB (h : d.Rc e W base ok v xs) (hk : Kept W W2 S) (hne : ∀ k, ok k → ¬ S k) : d.Rc e W2 base (fun k => ok k ∧ (¬ S k ∧ k < W.heap.size)) v xs := Rc_map h fun _ _ h => R_keptB h hk hne
theorem Rc_reok (hE : d.E = []) (h : d.Rc e W base ok1 v xs) (hok : ∀ k, v.ownBlock = some k → ok k) : d.Rc e W base ok v xs := Rc_map h fun v2 ho h => R_reok hE h (by rw [← ho]; exact hok)
theorem Rc_putg {enc : α → Value} {h1 : ∀ x, (enc x).oneCell' = true} {g n cap : Nat} (h : (scalar enc h1).Rc e W base ok (.slice (some ⟨g, 0, none⟩) n cap) xs) (i : Int) (x : α) :
    (scalar enc h1).Rc e (W.setCell ⟨g, i.toNat, none⟩ (enc x)) base ok (.slice (some ⟨g, 0, none⟩) n cap) (xs.set i.toNat x) ∧ W.grownBy (W.setCell ⟨g, i.toNat, none⟩ (enc x)) (some g) := by
  obtain ⟨_, v2, hc, hr⟩ := h
  rcases hc with rfl | ⟨A', n', c', c2, h1, rfl, h3, h4⟩
  · obtain ⟨r1, r2⟩ := R_putg hr i x
    exact ⟨Rc_of r1, r2⟩
  · obtain ⟨rfl, rfl, rfl⟩ := Value.slice.inj h1
    obtain ⟨r1, r2⟩ := R_putg hr i x
    exact ⟨Rc_mk (.inr ⟨_, _, _, _, rfl, rfl, h3, h4⟩) r1, r2⟩
theorem Rc_nil (d : Kd α) (e : Nat) (w : World) (base : Nat) (ok : Nat → Prop) : d.Rc e w base ok (.slice none 0 0) [] := Rc_of (R_nil _ _ _ _ _)
theorem Rc_far (h : d.Rc e w base ok v xs) {p : Addr} (hok : ∀ k, ok k → k ≠ p.block) (u : Value) : d.Rc e (w.setCell p u) base ok v xs := Rc_map h fun _ _ h => R_far h hok u
theorem Rc_types (h : d.Rc e w base ok v xs) {g t : Nat} {cells : Array Value} (hb : w.heap[g]? = some (.cells cells t (0, 0))) (ht : ∀ q, q ∈ e :: d.E → q ≠ t) : d.Rc e w base (fun k => ok k ∧ k ≠ g) v xs := Rc_map h fun _ _ h => R_types h hb ht
theorem Rc_form (h : d.Rc e w base ok v xs) (hp : 0 < xs.length) : ∃ g cap, v = .slice (some ⟨g, 0, none⟩) xs.length cap ∧ base ≤ g ∧ g < w.heap.size ∧ ∃ cells, w.heap[g]? = some (.cells cells e (0, 0)) := by
  obtain ⟨_, v2, hc, hr⟩ := h
  obtain ⟨g, cap, rfl, h1, h2, h3⟩ := R_form hr hp
  rcases hc with rfl | ⟨A', n', c', c2, rfl, h4, _⟩
  · exact ⟨g, cap, rfl, h1, h2, h3⟩
  · obtain ⟨rfl, rfl, rfl⟩ := Value.slice.inj h4
    exact ⟨g, _, rfl, h1, h2, h3⟩
theorem Rc_celln {enc : α → Value} {h1 : ∀ x, (enc x).oneCell' = true} {g n cap : Nat} (dd : α) (h : (scalar enc h1).Rc e W base ok (.slice (some ⟨g, 0, none⟩) n cap) xs) (i : Int) (h0 : 0 ≤ i) (hi : i < n) : W.cell? ⟨g, i.toNat, none⟩ = some (enc (rdOf dd xs i)) ∧ W.frozen? ⟨g, i.toNat, none⟩ = false := by
  obtain ⟨_, v2, hc, hr⟩ := h
  rcases hc with rfl | ⟨A', n', c', c2, h1, rfl, h3, h4⟩
  · exact R_celln dd hr i h0 hi
  · obtain ⟨rfl, rfl, rfl⟩ := Value.slice.inj h1
    exact R_celln dd hr i h0 hi
end
/-! ### A row without its first elements (xs[m:]) -/
def Dr (sz : Nat) (v v2 : Value) (m : Nat) : Prop := (v = v2 ∧ m = 0) ∨ ∃ A n c, v2 = .slice A n c ∧ v = .slice (if c = m then A else A.map (·.add (m * sz))) (n - m) (c - m)
theorem Dr.own {sz m : Nat} {v v2 : Value} (h : Dr sz v v2 m) : ∀ k, v.ownBlock = some k → v2.ownBlock = some k := by
  rcases h with ⟨rfl, _⟩ | ⟨A, n, c, rfl, rfl⟩
  · exact fun k hk => hk
  · intro k hk
    cases A with
    | none => by_cases h : c = m <;> simp [h, Value.ownBlock] at hk
    | some a =>
      have hb : (a.add (m * sz)).block = a.block := by unfold Addr.add; split <;> rfl
      by_cases h : c = m
      · rw [if_pos h] at hk; exact hk
      · rw [if_neg h] at hk; simpa [Value.ownBlock, hb] using hk
def Rd {α : Type} (d : Kd α) (e : Nat) (w : World) (base : Nat) (ok : Nat → Prop) (v : Value) (xs : List α) : Prop := ∃ v2 ys m, Dr d.sz v v2 m ∧ m ≤ ys.length ∧ xs = ys.drop m ∧ d.R e w base ok v2 ys
section
variable {α : Type} {d : Kd α} {e : Nat} {w w1 W W2 : World} {base : Nat} {ok ok' ok1 S : Nat → Prop} {v u : Value} {xs : List α}
end
end Kd
end Go.Proofs.YtpehcdeaboagbaaW.PrintWords
