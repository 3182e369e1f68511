/- Words on printed functions: from some number of rounds on the function answers, and P holds of its answer. Plain facts on picks. No program in sight. -/
import Derived.Test.YtaegonmpjgdmgaaDoorOzWWords
import Derived.Laws.BitsLemmas
import Derived.Lib.Strings
import Derived.Lib.IndexBytes
namespace Go.Proofs.YtaegonmpjgdmgaaDoor.Tell
open Go Go.RowKit Go.Proofs.YtaegonmpjgdmgaaDoorW.PrintWords Go.Proofs.YtaegonmpjgdmgaaDoorW.PrintLast Go.Proofs.YtaegonmpjgdmgaaDoorW.PrintMore

/-- From some number of rounds on g answers, and P holds of the answer. -/
def Tells {α : Type} (g : Nat → Option α) (P : α → Prop) : Prop := ∃ r, Ev g r ∧ P r
theorem Tells.now {α : Type} {P : α → Prop} {r : α} (hp : P r) : Tells (fun _ => some r) P := ⟨r, Ev.now r, hp⟩
theorem Tells.bind {α β : Type} {g : Nat → Option α} {f : Nat → α → Option β} {P : α → Prop} {Q : β → Prop} (h : Tells g P) (k : ∀ a, P a → Tells (fun n => f n a) Q) : Tells (fun n => (g n).bind (f n)) Q := by
  obtain ⟨a, ha, hp⟩ := h
  obtain ⟨r, hr, hq⟩ := k a hp
  exact ⟨r, Ev.bind ha hr, hq⟩
theorem Tells.step {α : Type} {g f : Nat → Option α} {P : α → Prop} (h : ∀ k, g (k + 1) = f k) (k : Tells f P) : Tells g P := by
  obtain ⟨r, hr, hq⟩ := k
  exact ⟨r, Ev.step h hr, hq⟩
theorem Tells.congr {α : Type} {g f : Nat → Option α} {P : α → Prop} (h : ∀ k, g k = f k) (k : Tells f P) : Tells g P := by
  obtain ⟨r, hr, hq⟩ := k
  exact ⟨r, Ev.congr h hr, hq⟩
theorem Tells.mono {α : Type} {g : Nat → Option α} {P Q : α → Prop} (h : Tells g P) (k : ∀ a, P a → Q a) : Tells g Q := by
  obtain ⟨r, hr, hq⟩ := h
  exact ⟨r, hr, k r hq⟩
theorem Tells.rounds {α : Type} {g : Nat → Option α} {r : α} (h : Tells g (· = r)) : ∃ k, g k = some r := by
  obtain ⟨r', hr, rfl⟩ := h
  exact Ev.rounds hr

/-- Bytes. -/
def Bytes (l : List Int) : Prop := ∀ x ∈ l, 0 ≤ x ∧ x ≤ 255
theorem wrap64_in {n : Int} (h0 : -9223372036854775808 ≤ n) (h1 : n < 9223372036854775808) : wrap64 n = n := by unfold wrap64; omega

/-! ### Loops over the places of a list -/
theorem map_loop {α β : Type} {L : Nat → List β → Int → Option (List β)} {l : List α} {c : α → β} {z : β}
    (hend : ∀ x : List β, Ev (fun k => L k x (l.length : Int)) x)
    (hstep : ∀ (i : Nat) (h : i < l.length) (x : List β) (r : List β), x.length = l.length → Ev (fun k => L k (x.set i (c l[i])) ((i + 1 : Nat) : Int)) r → Ev (fun k => L k x (i : Int)) r) :
    Ev (fun k => L k (List.replicate l.length z) ((0 : Nat) : Int)) (l.map c) := by
  have key : ∀ d i : Nat, l.length - i = d → i ≤ l.length → Ev (fun k => L k ((l.take i).map c ++ List.replicate (l.length - i) z) (i : Int)) (l.map c) := by
    intro d
    induction d with
    | zero =>
      intro i hd hi
      obtain rfl : i = l.length := by omega
      have h := hend (l.map c)
      simpa using h
    | succ d ih =>
      intro i hd hi
      have hlt : i < l.length := by omega
      refine hstep i hlt _ _ (by rw [List.length_append, List.length_map, List.length_take, List.length_replicate]; omega) ?_
      have hs : ((l.take i).map c ++ List.replicate (l.length - i) z).set i (c l[i]) = (l.take (i + 1)).map c ++ List.replicate (l.length - (i + 1)) z := by
        obtain ⟨m, hm⟩ : ∃ m, l.length - i = m + 1 := ⟨l.length - i - 1, by omega⟩
        have hm2 : l.length - (i + 1) = m := by omega
        rw [hm, hm2, List.set_append_right _ _ (by rw [List.length_map, List.length_take]; omega), List.length_map, List.length_take, Nat.min_eq_left (by omega), Nat.sub_self, List.replicate_succ, List.set_cons_zero, List.take_succ_eq_append_getElem hlt, List.map_append, List.append_assoc]
        rfl
      rw [hs]
      exact ih (i + 1) (by omega) (by omega)
  have h := key l.length 0 (by omega) (by omega)
  simpa using h
theorem all_loop {L : Nat → Int → Option Bool} {n : Nat} (hend : Ev (fun k => L k (n : Int)) true)
    (hstep : ∀ i : Nat, i < n → Ev (fun k => L k ((i + 1 : Nat) : Int)) true → Ev (fun k => L k (i : Int)) true) : Ev (fun k => L k ((0 : Nat) : Int)) true := by
  have key : ∀ d i : Nat, n - i = d → i ≤ n → Ev (fun k => L k (i : Int)) true := by
    intro d
    induction d with
    | zero =>
      intro i hd hi
      have e : i = n := by omega
      rw [e]; exact hend
    | succ d ih => intro i hd hi; exact hstep i (by omega) (ih (i + 1) (by omega) (by omega))
  exact key n 0 (by omega) (by omega)
theorem getD_lt {α : Type} (l : List α) (z : α) (i : Nat) (h : i < l.length) : l.getD i z = l[i] := by simp [List.getD_eq_getElem?_getD, h]

/-! ### Texts -/
end Go.Proofs.YtaegonmpjgdmgaaDoor.Tell
