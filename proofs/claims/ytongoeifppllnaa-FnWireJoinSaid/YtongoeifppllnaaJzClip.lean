/- Words beside the printer's: a row made with room and no element yet (make([]T, 0, n)); a row of the call's own whose capacity was cut. No program in sight. -/
import Derived.Test.YtongoeifppllnaaJzWMore
import Derived.Laws.MakeOwn
import Derived.OwnWalk
namespace Go.Proofs.YtongoeifppllnaaW.PrintWords
open Go Go.RowKit
namespace Kd
section
variable {P : Program} {ops : Array Oper} {rest : List Oper} {o : Oper} {a : Act} {Q : Exit → Act → World → Prop} {α : Type}
end

/-! ### A row whose capacity was cut -/
/-- The same row with a capacity that is no greater. -/
def Cl (v v2 : Value) : Prop := v = v2 ∨ ∃ A n c c2, v = .slice A n c ∧ v2 = .slice A n c2 ∧ n ≤ c ∧ c ≤ c2
theorem Cl.own {v v2 : Value} (h : Cl v v2) : v.ownBlock = v2.ownBlock := by
  rcases h with rfl | ⟨A, n, c, c2, rfl, rfl, _⟩
  · rfl
  · cases A <;> rfl
/-- Kd.R, but for the capacity. -/
def Rc {α : Type} (d : Kd α) (e : Nat) (w : World) (base : Nat) (ok : Nat → Prop) (v : Value) (xs : List α) : Prop := (∀ k, v.ownBlock = some k → ok k) ∧ ∃ v2, Cl v v2 ∧ d.R e w base ok v2 xs
theorem Rc_mk {α : Type} {d : Kd α} {e : Nat} {w : World} {base : Nat} {ok : Nat → Prop} {v v2 : Value} {xs : List α} (hc : Cl v v2) (h : d.R e w base ok v2 xs) : d.Rc e w base ok v xs := ⟨fun k hk => h.1 k (by rw [← hc.own]; exact hk), v2, hc, h⟩
section
variable {α : Type} {d : Kd α} {e : Nat} {w w1 W W2 : World} {base : Nat} {ok ok' ok1 S : Nat → Prop} {v u : Value} {xs : List α}
theorem Rc_of (h : d.R e w base ok v xs) : d.Rc e w base ok v xs := Rc_mk (.inl rfl) h
theorem Rc_map {base' : Nat} (h : d.Rc e w base ok v xs) (k : ∀ v2, v.ownBlock = v2.ownBlock → d.R e w base ok v2 xs → d.R e w1 base' ok' v2 xs) : d.Rc e w1 base' ok' v xs := by
  obtain ⟨_, v2, hc, hr⟩ := h
  exact Rc_mk hc (k v2 hc.own hr)
theorem Rc_reads' {A : Option Addr} {n c : Nat} (h : d.Rc e w base ok (.slice A n c) xs) : n = xs.length ∧ n ≤ c ∧ d.C w A xs.length xs := by
  obtain ⟨_, v2, hc, hr⟩ := h
  rcases hc with rfl | ⟨A', n', c', c2, h1, rfl, h3, _⟩
  · exact R_reads' hr
  · obtain ⟨rfl, rfl, rfl⟩ := Value.slice.inj h1
    obtain ⟨r1, _, r3⟩ := R_reads' hr
    exact ⟨r1, h3, r3⟩
theorem Rc_slice (h : d.Rc e w base ok v xs) : ∃ A c, v = .slice A xs.length c := by
  obtain ⟨_, v2, hc, hr⟩ := h
  obtain ⟨A, c, rfl⟩ := R_slice hr
  rcases hc with rfl | ⟨A', n', c', c2, rfl, h2, _⟩
  · exact ⟨A, c, rfl⟩
  · obtain ⟨rfl, rfl, rfl⟩ := Value.slice.inj h2
    exact ⟨_, _, rfl⟩
theorem Rc_alloc (h : d.Rc e w base ok v xs) (o : Obj) : d.Rc e (w.alloc o) base ok v xs := Rc_map h fun _ _ h => R_alloc h o
theorem Rc_drewN (h : d.Rc e w base ok v xs) (m : Nat) : d.Rc e (w.drewN m) base ok v xs := Rc_map h fun _ _ h => R_drewN h m
theorem Rc_drew (h : d.Rc e w base ok v xs) : d.Rc e w.drew base ok v xs := Rc_map h fun _ _ h => R_drew h
theorem Rc_lower {base' : Nat} (h : d.Rc e w base ok v xs) (hb : base' ≤ base) : d.Rc e w base' ok v xs := Rc_map h fun _ _ h => R_lower h hb
theorem Rc_base (h : d.Rc e w base ok v xs) : ∀ k, v.ownBlock = some k → base ≤ k := by
  obtain ⟨_, v2, hc, hr⟩ := h
  rw [hc.own]; exact R_base hr
theorem Rc_new' (h : d.Rc e w1 W.heap.size ok v xs) (hlt : ∀ k, u.ownBlock = some k → k < W.heap.size) : d.Rc e w1 W.heap.size (fun k => ok k ∧ some k ≠ u.ownBlock) v xs := Rc_map h fun _ _ h => R_new' h hlt
theorem Rc_tight (hE : d.E = []) (h : d.Rc e w base ok v xs) : d.Rc e w base (fun k => some k = v.ownBlock) v xs := Rc_map h fun v2 ho h => by rw [ho]; exact R_tight hE h
theorem Rc_mono (h : d.Rc e w base ok v xs) (hok : ∀ k, ok k → ok' k) : d.Rc e w base ok' v xs := Rc_map h fun _ _ h => R_mono h hok
theorem Rc_bound (h : d.Rc e w base ok v xs) : d.Rc e w base (fun k => ok k ∧ base ≤ k ∧ k < w.heap.size ∧ ∃ q, q ∈ e :: d.E ∧ ∃ cells, w.heap[k]? = some (.cells cells q (0, 0))) v xs := Rc_map h fun _ _ h => R_bound h
theorem Rc_nil (d : Kd α) (e : Nat) (w : World) (base : Nat) (ok : Nat → Prop) : d.Rc e w base ok (.slice none 0 0) [] := Rc_of (R_nil _ _ _ _ _)
end
/-! ### A row without its first elements (xs[m:]) -/
def Dr (sz : Nat) (v v2 : Value) (m : Nat) : Prop := (v = v2 ∧ m = 0) ∨ ∃ A n c, v2 = .slice A n c ∧ v = .slice (if c = m then A else A.map (·.add (m * sz))) (n - m) (c - m)
theorem Dr.own {sz m : Nat} {v v2 : Value} (h : Dr sz v v2 m) : ∀ k, v.ownBlock = some k → v2.ownBlock = some k := by
  rcases h with ⟨rfl, _⟩ | ⟨A, n, c, rfl, rfl⟩
  · exact fun k hk => hk
  · intro k hk
    cases A with
    | none => by_cases h : c = m <;> simp [h, Value.ownBlock] at hk
    | some a =>
      have hb : (a.add (m * sz)).block = a.block := by unfold Addr.add; split <;> rfl
      by_cases h : c = m
      · rw [if_pos h] at hk; exact hk
      · rw [if_neg h] at hk; simpa [Value.ownBlock, hb] using hk
def Rd {α : Type} (d : Kd α) (e : Nat) (w : World) (base : Nat) (ok : Nat → Prop) (v : Value) (xs : List α) : Prop := ∃ v2 ys m, Dr d.sz v v2 m ∧ m ≤ ys.length ∧ xs = ys.drop m ∧ d.R e w base ok v2 ys
section
variable {α : Type} {d : Kd α} {e : Nat} {w w1 W W2 : World} {base : Nat} {ok ok' ok1 S : Nat → Prop} {v u : Value} {xs : List α}
end
/-- A row inside an element, whose capacity may have been cut. -/
theorem Rc_move {α : Type} {d : Kd α} {e : Nat} {w w1 : World} {base : Nat} {ok : Nat → Prop} {v : Value} {xs : List α} (h : d.Rc e w base ok v xs) (hm : ∀ k, ok k → w1.heap[k]? = w.heap[k]?) : d.Rc e w1 base ok v xs := Rc_map h fun _ _ h => R_move h hm
theorem Rc_reads {α : Type} {d : Kd α} {e : Nat} {w : World} {base : Nat} {ok : Nat → Prop} {v : Value} {xs : List α} (h : d.Rc e w base ok v xs) : ∃ A c, v = .slice A xs.length c ∧ xs.length ≤ c ∧ d.C w A xs.length xs := by
  obtain ⟨A, c, rfl⟩ := Rc_slice h
  obtain ⟨_, h2, h3⟩ := Rc_reads' h
  exact ⟨A, c, rfl, h2, h3⟩
def slicec {α : Type} (e : Nat) (d : Kd α) : Kd (List α) where
  sz := 1
  E := e :: d.E
  K := fun w xs cs => ∃ A c, cs = [.slice A xs.length c] ∧ xs.length ≤ c ∧ d.C w A xs.length xs
  M := fun w base ok xs cs => ∃ v, cs = [v] ∧ d.Rc e w base ok v xs
  K_len := by
    rintro w x cs ⟨A, c, rfl, _⟩
    rfl
  K_one := by
    rintro w x cs ⟨A, c, rfl, _⟩ u hu
    rw [List.mem_singleton.1 hu]
    rfl
  K_below := by
    rintro w w1 x cs hb ⟨A, c, rfl, hl, hr⟩
    exact ⟨A, c, rfl, hl, C_below hr hb⟩
  K_of_M := by
    rintro w base ok x cs ⟨v, rfl, h⟩
    obtain ⟨A, c, rfl, hl, hr⟩ := Rc_reads h
    exact ⟨A, c, rfl, hl, hr⟩
  M_mono := by
    rintro w base ok ok' x cs hok ⟨v, rfl, h⟩
    exact ⟨v, rfl, Rc_mono h hok⟩
  M_bound := by
    rintro w base ok x cs ⟨v, rfl, h⟩
    exact ⟨v, rfl, Rc_bound h⟩
  M_move := by
    rintro w w1 base ok x cs hm ⟨v, rfl, h⟩
    exact ⟨v, rfl, Rc_move h hm⟩
  M_lower := by
    rintro w base base' ok x cs hb ⟨v, rfl, h⟩
    exact ⟨v, rfl, Rc_lower h hb⟩
end Kd
end Go.Proofs.YtongoeifppllnaaW.PrintWords
