/- What the printed functions tell that the law FnExactSureTrace reaches, over numbers and lists alone. -/
import Derived.Test.YtpehcdeaboagbaaMx1
import Derived.Test.YtpehcdeaboagbaaMx10
import Derived.Test.YtpehcdeaboagbaaMx11
import Derived.Test.YtpehcdeaboagbaaMx2
import Derived.Test.YtpehcdeaboagbaaMx3
import Derived.Test.YtpehcdeaboagbaaMx4
import Derived.Test.YtpehcdeaboagbaaMx5
import Derived.Test.YtpehcdeaboagbaaMx6
import Derived.Test.YtpehcdeaboagbaaMx7
import Derived.Test.YtpehcdeaboagbaaMx8
import Derived.Test.YtpehcdeaboagbaaMx9
import Derived.Test.YtpehcdeaboagbaaTell
namespace Go.Proofs.Ytpehcdeaboagbaa.BFnExactSureTrace
open Go Go.RowKit Go.Proofs.Ytpehcdeaboagbaa.Tell Go.Proofs.Ytpehcdeaboagbaa.M Go.Proofs.YtpehcdeaboagbaaW.PrintWords Go.Proofs.YtpehcdeaboagbaaW.PrintLast Go.Proofs.YtpehcdeaboagbaaW.PrintMore
set_option linter.unusedVariables false
set_option linter.unusedSimpArgs false

def cD (x : S91) : S54 := ⟨x.f0, x.f1, x.f2⟩
theorem toDevArgS_ev (l : List S91) (hl : l.length ≤ 1099511627776) : Ev (fun k => laws_toDevArgS.f k l) (l.map cD) := by
  unfold laws_toDevArgS.f
  simp only [if_pos (show 0 ≤ (l.length : Int) by omega), Int.toNat_natCast, if_pos (show l.length ≤ 11728124029610 by omega)]
  refine map_loop (L := fun k x i => laws_toDevArgS.l0 k l x i) (fun x => ?_) (fun i h x r hx hr => ?_)
  · refine Ev.step (f := fun _ => some x) (fun k => ?_) (Ev.now _)
    simp only [laws_toDevArgS.l0]; rw [if_neg (by omega)]
  · refine Ev.step (fun k => ?_) hr
    have w : wrap64 ((i : Int) + 1) = ((i + 1 : Nat) : Int) := by unfold wrap64; omega
    have hg : rd_T91 l (i : Int) = l[i] := by unfold rd_T91; rw [Int.toNat_natCast, getD_lt l _ i h]
    simp only [laws_toDevArgS.l0]
    rw [if_pos (by omega), if_pos (by omega), hg, w, Int.toNat_natCast]
    show (if (i : Int) < (x.length : Int) then _ else _) = _
    rw [if_pos (by omega)]; rfl

theorem eqDevArg_self (a b c : Int) : laws_eqDevArg.f a b c a b c = some true := by
  unfold laws_eqDevArg.f; rw [if_pos rfl, if_pos rfl, if_pos rfl]
theorem eqDevArgS_self (l : List S54) (hl : l.length ≤ 1099511627776) : Ev (fun k => laws_eqDevArgS.f k l l) true := by
  unfold laws_eqDevArgS.f
  simp only [if_true]
  refine all_loop (L := fun k i => laws_eqDevArgS.l0 k l l i) (n := l.length) ?_ (fun i h hr => ?_)
  · refine Ev.step (f := fun _ => some true) (fun k => ?_) (Ev.now _)
    simp only [laws_eqDevArgS.l0]; rw [if_neg (by omega)]
  · refine Ev.step (fun k => ?_) hr
    have w : wrap64 ((i : Int) + 1) = ((i + 1 : Nat) : Int) := by unfold wrap64; omega
    simp only [laws_eqDevArgS.l0]
    rw [if_pos (by omega), if_pos (by omega), if_pos (by omega), eqDevArg_self, Option.bind_some, if_pos rfl, w]

theorem szDevArgS_tells (l : List S91) (a : Int) (ha0 : 0 ≤ a) (ha : a ≤ 1048576) (hl : l.length ≤ maxLen) : ∃ r, laws_szDevArgS.f l a = some r ∧ (0 ≤ r → (l.length : Int) ≤ a ∧ r = a - l.length) := by
  unfold maxLen at hl
  unfold laws_szDevArgS.f
  have w : wrap64 (a - (l.length : Int)) = a - l.length := wrap64_in (by omega) (by omega)
  rw [w]
  split
  · exact ⟨-1, rfl, fun h => by omega⟩
  · exact ⟨_, rfl, fun h => by omega⟩

theorem szElem_tells (o : Int) (l : List S91) (n : Int) (ha0 : 0 ≤ n) (ha : n ≤ 1048576) (hl : l.length ≤ maxLen) : ∃ r, laws_szElem.f o l n = some r ∧ (0 ≤ r → (l.length : Int) ≤ n ∧ r = n - l.length) := by
  obtain ⟨r, hr, h⟩ := szDevArgS_tells l n ha0 ha hl
  unfold laws_szElem.f
  rw [hr, Option.bind_some]
  split
  · exact ⟨-1, rfl, fun h => by omega⟩
  · exact ⟨r, rfl, h⟩

theorem szInst_tells (c o : Int) (l : List S91) (n : Int) (ha0 : 0 ≤ n) (ha : n ≤ 1048576) (hl : l.length ≤ maxLen) : ∃ r, laws_szInst.f c o l n = some r ∧ (0 ≤ r → (l.length : Int) ≤ n ∧ r = n - l.length) := by
  obtain ⟨r, hr, h⟩ := szElem_tells o l n ha0 ha hl
  unfold laws_szInst.f
  rw [hr, Option.bind_some]
  split
  · exact ⟨-1, rfl, fun h => by omega⟩
  · exact ⟨r, rfl, h⟩

theorem toElem_ev (o : Int) (l : List S91) (hl : l.length ≤ 1099511627776) : Ev (fun k => laws_toElem.f k o l) (o, l.map cD) := by
  unfold laws_toElem.f
  exact Ev.bind (toDevArgS_ev l hl) (Ev.now _)

theorem eqElem_self (o : Int) (l : List S54) (hl : l.length ≤ 1099511627776) : Ev (fun k => laws_eqElem.f k o l o l) true := by
  unfold laws_eqElem.f
  simp only [if_true]
  exact Ev.bind (eqDevArgS_self l hl) (Ev.now _)

theorem toInst_ev (c o : Int) (l : List S91) (hl : l.length ≤ 1099511627776) : Ev (fun k => laws_toInst.f k c o l) (c, o, l.map cD) := by
  unfold laws_toInst.f
  exact Ev.bind (toElem_ev o l hl) (Ev.now _)

theorem eqInst_self (c o : Int) (l : List S54) (hl : l.length ≤ 1099511627776) : Ev (fun k => laws_eqInst.f k c o l c o l) true := by
  unfold laws_eqInst.f
  simp only [if_true]
  exact Ev.bind (eqElem_self o l hl) (Ev.now _)

def cI (x : S47) : S52 := ⟨x.f0, ⟨x.f1.f0, x.f1.f1.map cD⟩⟩
theorem toInstS_ev (l : List S47) (hl : l.length ≤ 1048576) (ha : ∀ x ∈ l, x.f1.f1.length ≤ 1048576) : Ev (fun k => laws_toInstS.f k l) (l.map cI) := by
  unfold laws_toInstS.f
  simp only [if_pos (show 0 ≤ (l.length : Int) by omega), Int.toNat_natCast, if_pos (show l.length ≤ 7036874417766 by omega)]
  refine map_loop (L := fun k x i => laws_toInstS.l0 k l x i) (fun x => ?_) (fun i h x r hx hr => ?_)
  · refine Ev.step (f := fun _ => some x) (fun k => ?_) (Ev.now _)
    simp only [laws_toInstS.l0]; rw [if_neg (by omega)]
  · have w : wrap64 ((i : Int) + 1) = ((i + 1 : Nat) : Int) := by unfold wrap64; omega
    have hg : rd_T47 l (i : Int) = l[i] := by unfold rd_T47; rw [Int.toNat_natCast, getD_lt l _ i h]
    have hal := ha _ (List.getElem_mem h)
    refine Ev.step (f := fun k => (laws_toInst.f k (l[i]).f0 (l[i]).f1.f0 (l[i]).f1.f1).bind fun bt => (if (i : Int) < (x.length : Int) then (laws_toInstS.l0 k l (x.set i (⟨bt.1, (⟨bt.2.1, bt.2.2⟩ : S50)⟩ : S52)) ((i + 1 : Nat) : Int)) else none)) (fun k => ?_) ?_
    · simp only [laws_toInstS.l0]
      rw [if_pos (by omega), if_pos (by omega), hg, w, Int.toNat_natCast]
    · refine Ev.bind (toInst_ev _ _ _ (by omega)) ?_
      simp only [if_pos (show (i : Int) < (x.length : Int) by omega)]
      exact hr

theorem eqInstS_self (l : List S52) (hl : l.length ≤ 1048576) (ha : ∀ x ∈ l, x.f1.f1.length ≤ 1048576) : Ev (fun k => laws_eqInstS.f k l l) true := by
  unfold laws_eqInstS.f
  simp only [if_true]
  refine all_loop (L := fun k i => laws_eqInstS.l0 k l l i) (n := l.length) ?_ (fun i h hr => ?_)
  · refine Ev.step (f := fun _ => some true) (fun k => ?_) (Ev.now _)
    simp only [laws_eqInstS.l0]; rw [if_neg (by omega)]
  · have w : wrap64 ((i : Int) + 1) = ((i + 1 : Nat) : Int) := by unfold wrap64; omega
    have hg : rd_T52 l (i : Int) = l[i] := by unfold rd_T52; rw [Int.toNat_natCast, getD_lt l _ i h]
    have hal := ha _ (List.getElem_mem h)
    refine Ev.step (f := fun k => (laws_eqInst.f k (l[i]).f0 (l[i]).f1.f0 (l[i]).f1.f1 (l[i]).f0 (l[i]).f1.f0 (l[i]).f1.f1).bind fun t => (if t = true then (laws_eqInstS.l0 k l l ((i + 1 : Nat) : Int)) else (some false))) (fun k => ?_) ?_
    · simp only [laws_eqInstS.l0]
      rw [if_pos (by omega), if_pos (by omega), if_pos (by omega), hg, w]
    · refine Ev.bind (eqInst_self _ _ _ (by omega)) ?_
      simp only [if_true]
      exact hr

theorem szInstS_loop (l : List S47) (hl : l.length ≤ 1048576) (hm : ∀ x ∈ l, x.f1.f1.length ≤ maxLen) (d : Nat) : ∀ (i : Nat) (a : Int), l.length - i = d → i ≤ l.length → 0 ≤ a → a ≤ 1048576 →
    Tells (fun k => laws_szInstS.l0 k l a (i : Int)) (fun r => 0 ≤ r → r ≤ a ∧ ∀ x ∈ l.drop i, x.f1.f1.length ≤ 1048576) := by
  induction d with
  | zero =>
    intro i a hd hi ha0 ha
    obtain rfl : i = l.length := by omega
    refine Tells.step (f := fun _ => some a) (fun k => ?_) (Tells.now fun _ => ⟨Int.le_refl _, fun x hx => by simp at hx⟩)
    simp only [laws_szInstS.l0]; rw [if_neg (by omega)]
  | succ d ih =>
    intro i a hd hi ha0 ha
    have hlt : i < l.length := by omega
    have w : wrap64 ((i : Int) + 1) = ((i + 1 : Nat) : Int) := by unfold wrap64; omega
    have hg : rd_T47 l (i : Int) = l[i] := by unfold rd_T47; rw [Int.toNat_natCast, getD_lt l _ i hlt]
    obtain ⟨r, hr, h⟩ := szInst_tells (l[i]).f0 (l[i]).f1.f0 (l[i]).f1.f1 a ha0 ha (hm _ (List.getElem_mem hlt))
    by_cases c : r < 0
    · refine Tells.step (f := fun _ => some (-1)) (fun k => ?_) (Tells.now fun h => by omega)
      simp only [laws_szInstS.l0]
      rw [if_pos (by omega), if_pos (by omega), hg, hr, Option.bind_some, if_pos c]
    · have hh := h (by omega)
      refine Tells.step (fun k => ?_) ((ih (i + 1) r (by omega) (by omega) (by omega) (by omega)).mono fun r' hr' h0 => ?_)
      · simp only [laws_szInstS.l0]
        rw [if_pos (by omega), if_pos (by omega), hg, hr, Option.bind_some, if_neg c, w]
      · obtain ⟨h1, h2⟩ := hr' h0
        refine ⟨by omega, fun x hx => ?_⟩
        rw [List.drop_eq_getElem_cons hlt] at hx
        rcases List.mem_cons.1 hx with rfl | hx
        · omega
        · exact h2 x hx
theorem szInstS_tells (l : List S47) (a : Int) (ha0 : 0 ≤ a) (ha : a ≤ 1048576) (hl : l.length ≤ maxLen) (hm : ∀ x ∈ l, x.f1.f1.length ≤ maxLen) :
    Tells (fun k => laws_szInstS.f k l a) (fun r => 0 ≤ r → r ≤ a ∧ l.length ≤ 1048576 ∧ ∀ x ∈ l, x.f1.f1.length ≤ 1048576) := by
  unfold maxLen at hl
  unfold laws_szInstS.f
  have w : wrap64 (a - (l.length : Int)) = a - l.length := wrap64_in (by omega) (by omega)
  rw [w]
  by_cases c : a - (l.length : Int) < 0
  · simp only [if_pos c]; exact Tells.now fun h => by omega
  · simp only [if_neg c]
    refine (szInstS_loop l (by omega) hm l.length 0 (a - l.length) (by omega) (by omega) (by omega) (by omega)).mono fun r hr h0 => ?_
    obtain ⟨h1, h2⟩ := hr h0
    exact ⟨by omega, by omega, h2⟩

theorem cI_args (l : List S47) (ha : ∀ x ∈ l, x.f1.f1.length ≤ 1048576) : ∀ x ∈ l.map cI, x.f1.f1.length ≤ 1048576 := fun x hx => by
  obtain ⟨y, hy, rfl⟩ := List.mem_map.1 hx
  simpa [cI] using ha y hy

/-- How high both stacks are behind a code. -/
def beh (b f c : Int) : Int × Int :=
  if c = 1 then (wrap64 (b + 1), f) else if c = 4 ∨ c = 5 ∨ c = 11 then (wrap64 (b - 1), f) else if c = 7 then (b, wrap64 (f + 1)) else if c = 9 then (b, wrap64 (f - 1)) else (b, f)
def tr : List S52 → Int → Int → List S60
  | [], _, _ => []
  | x :: l, b, f => ⟨(beh b f x.f0).1, (beh b f x.f0).2⟩ :: tr l (beh b f x.f0).1 (beh b f x.f0).2
theorem tr_length (l : List S52) : ∀ b f, (tr l b f).length = l.length := by
  induction l with
  | nil => intro b f; rfl
  | cons x l ih => intro b f; simp [tr, ih]
theorem behind_ev (b f c : Int) : Ev (fun k => impl_SureState_behind.f k b f c) (beh b f c) := by
  have j : ∀ y : Bool, (y = true ↔ c = 4 ∨ c = 5 ∨ c = 11) → c ≠ 1 → Ev (fun k => impl_SureState_behind.j0 k c y b f) (beh b f c) := by
    intro y hy hc
    refine Ev.step (f := fun _ => some (beh b f c)) (fun k => ?_) (Ev.now _)
    simp only [impl_SureState_behind.j0]
    unfold beh
    rw [if_neg hc]
    by_cases h : y = true
    · rw [if_pos h, if_pos (hy.1 h)]
    · rw [if_neg h, if_neg (fun h2 => h (hy.2 h2))]
      split
      · rfl
      · split <;> rfl
  unfold impl_SureState_behind.f
  by_cases c1 : c = 1
  · simp only [if_pos c1]; unfold beh; rw [if_pos c1]; exact Ev.now _
  · simp only [if_neg c1]
    by_cases c4 : c = 4
    · simp only [if_pos c4]; exact j _ (by simp [c4]) c1
    · simp only [if_neg c4]
      by_cases c5 : c = 5
      · simp only [if_pos c5]; exact j _ (by simp [c5]) c1
      · simp only [if_neg c5]; exact j _ (by simp [c4, c5]) c1
theorem impl_SureTrace_loop (l : List S52) (hl : l.length ≤ 1000) (d : Nat) : ∀ (i : Nat) (acc : List S60) (b f : Int), l.length - i = d → i ≤ l.length → acc.length = i →
    Ev (fun k => impl_SureTrace.l0 k (acc ++ List.replicate (l.length - i) z60) l (l.length : Int) (i : Int) b f) (acc ++ tr (l.drop i) b f) := by
  induction d with
  | zero =>
    intro i acc b f hd hi ha
    obtain rfl : i = l.length := by omega
    refine Ev.step (f := fun _ => some _) (fun k => ?_) (Ev.now _)
    simp only [impl_SureTrace.l0]; rw [if_neg (by omega)]; simp [tr]
  | succ d ih =>
    intro i acc b f hd hi ha
    have hlt : i < l.length := by omega
    have w : wrap64 ((i : Int) + 1) = ((i + 1 : Nat) : Int) := by unfold wrap64; omega
    have hg : rd_T52 l (i : Int) = l[i] := by unfold rd_T52; rw [Int.toNat_natCast, getD_lt l _ i hlt]
    rw [List.drop_eq_getElem_cons hlt]
    have hll : (acc ++ List.replicate (l.length - i) z60).length = l.length := by rw [List.length_append, List.length_replicate]; omega
    have hn := ih (i + 1) (acc ++ [⟨(beh b f (l[i]).f0).1, (beh b f (l[i]).f0).2⟩]) (beh b f (l[i]).f0).1 (beh b f (l[i]).f0).2 (by omega) (by omega) (by simp; omega)
    refine Ev.step (f := fun k => (impl_SureState_behind.f k b f (l[i]).f0).bind fun bt => (if (i : Int) < ((acc ++ List.replicate (l.length - i) z60).length : Int) then (impl_SureTrace.l0 k ((acc ++ List.replicate (l.length - i) z60).set i (⟨bt.1, bt.2⟩ : S60)) l (l.length : Int) ((i + 1 : Nat) : Int) bt.1 bt.2) else none)) (fun k => ?_) ?_
    · simp only [impl_SureTrace.l0]
      rw [if_pos (by omega), if_pos (by omega), if_pos (by omega), hg, w, Int.toNat_natCast]
    · refine Ev.bind (behind_ev b f (l[i]).f0) ?_
      simp only [if_pos (show (i : Int) < ((acc ++ List.replicate (l.length - i) z60).length : Int) by rw [hll]; omega)]
      obtain ⟨m, hm⟩ : ∃ m, l.length - i = m + 1 := ⟨l.length - i - 1, by omega⟩
      have hm2 : l.length - (i + 1) = m := by omega
      have hs : (acc ++ List.replicate (l.length - i) z60).set i (⟨(beh b f (l[i]).f0).1, (beh b f (l[i]).f0).2⟩ : S60) = acc ++ [⟨(beh b f (l[i]).f0).1, (beh b f (l[i]).f0).2⟩] ++ List.replicate (l.length - (i + 1)) z60 := by
        rw [hm, hm2, List.set_append_right _ _ (by omega), ha, Nat.sub_self, List.replicate_succ, List.set_cons_zero]; simp
      rw [hs]
      simpa [tr] using hn
theorem impl_SureTrace_ev (l : List S52) : Ev (fun k => impl_SureTrace.f k l) (if l.length > 1000 then [] else tr l 0 0) := by
  unfold impl_SureTrace.f
  by_cases c : (l.length : Int) > 1000
  · simp only [if_pos c, if_pos (show l.length > 1000 by omega)]; exact Ev.now _
  · simp only [if_neg c, if_neg (show ¬ l.length > 1000 by omega), if_pos (show 0 ≤ (l.length : Int) by omega), Int.toNat_natCast, if_pos (show l.length ≤ 17592186044416 by omega)]
    have h := impl_SureTrace_loop l (by omega) l.length 0 [] 0 0 (by omega) (by omega) rfl
    simpa using h

theorem spec_SureTrace_loop (l : List S52) (hl : l.length ≤ 1000) (d : Nat) : ∀ (i : Nat) (acc : List S60) (b f : Int), l.length - i = d → i ≤ l.length → acc.length = i →
    Ev (fun k => spec_SureTrace.l0 k l acc (i : Int) b f) (acc ++ tr (l.drop i) b f) := by
  induction d with
  | zero =>
    intro i acc b f hd hi ha
    obtain rfl : i = l.length := by omega
    refine Ev.step (f := fun _ => some _) (fun k => ?_) (Ev.now _)
    simp only [spec_SureTrace.l0]; rw [if_neg (by omega)]; simp [tr]
  | succ d ih =>
    intro i acc b f hd hi ha
    have hlt : i < l.length := by omega
    have w : wrap64 ((i : Int) + 1) = ((i + 1 : Nat) : Int) := by unfold wrap64; omega
    have hg : rd_T52 l (i : Int) = l[i] := by unfold rd_T52; rw [Int.toNat_natCast, getD_lt l _ i hlt]
    rw [List.drop_eq_getElem_cons hlt]
    have hn := ih (i + 1) (acc ++ [⟨(beh b f (l[i]).f0).1, (beh b f (l[i]).f0).2⟩]) (beh b f (l[i]).f0).1 (beh b f (l[i]).f0).2 (by omega) (by omega) (by simp; omega)
    have hn2 : Ev (fun k => spec_SureTrace.l0 k l (acc ++ [⟨(beh b f (l[i]).f0).1, (beh b f (l[i]).f0).2⟩]) ((i + 1 : Nat) : Int) (beh b f (l[i]).f0).1 (beh b f (l[i]).f0).2) (acc ++ tr (l[i] :: l.drop (i + 1)) b f) := by simpa [tr] using hn
    have j : ∀ y : Bool, (y = true ↔ (l[i]).f0 = 4 ∨ (l[i]).f0 = 5 ∨ (l[i]).f0 = 11) → (l[i]).f0 ≠ 1 → Ev (fun k => spec_SureTrace.j1 k l acc (i : Int) (l[i]).f0 y b f) (acc ++ tr (l[i] :: l.drop (i + 1)) b f) := by
      intro y hy hc
      refine Ev.step (fun k => ?_) hn2
      simp only [spec_SureTrace.j1]
      unfold beh
      rw [if_neg hc, w]
      by_cases h : y = true
      · rw [if_pos h, if_pos (hy.1 h), if_pos (by omega)]
      · rw [if_neg h, if_neg (fun h2 => h (hy.2 h2))]
        by_cases c7 : (l[i]).f0 = 7
        · rw [if_pos c7, if_pos c7, if_pos (by omega)]
        · rw [if_neg c7, if_neg c7]
          by_cases c9 : (l[i]).f0 = 9
          · rw [if_pos c9, if_pos c9, if_pos (by omega)]
          · rw [if_neg c9, if_neg c9, if_pos (by omega)]
    by_cases c1 : (l[i]).f0 = 1
    · refine Ev.step (fun k => ?_) hn2
      simp only [spec_SureTrace.l0]
      rw [if_pos (by omega), if_pos (by omega), hg, if_pos c1, if_pos (by omega), w]
      unfold beh
      rw [if_pos c1]
    · by_cases c4 : (l[i]).f0 = 4
      · refine Ev.step (fun k => ?_) (j ((l[i]).f0 == 4) (by simp [c4]) c1)
        simp only [spec_SureTrace.l0]
        rw [if_pos (by omega), if_pos (by omega), hg, if_neg c1, if_pos c4]
      · by_cases c5 : (l[i]).f0 = 5
        · refine Ev.step (fun k => ?_) (j ((l[i]).f0 == 5) (by simp [c5]) c1)
          simp only [spec_SureTrace.l0]
          rw [if_pos (by omega), if_pos (by omega), hg, if_neg c1, if_neg c4, if_pos c5]
        · refine Ev.step (fun k => ?_) (j ((l[i]).f0 == 11) (by simp [c4, c5]) c1)
          simp only [spec_SureTrace.l0]
          rw [if_pos (by omega), if_pos (by omega), hg, if_neg c1, if_neg c4, if_neg c5]
theorem spec_SureTrace_ev (l : List S52) : Ev (fun k => spec_SureTrace.f k l) (if l.length > 1000 then [] else tr l 0 0) := by
  unfold spec_SureTrace.f
  simp only [Option.bind_some]
  by_cases c : (l.length : Int) > 1000
  · simp only [if_pos c, if_pos (show l.length > 1000 by omega)]; exact Ev.now _
  · simp only [if_neg c, if_neg (show ¬ l.length > 1000 by omega)]
    have h := spec_SureTrace_loop l (by omega) l.length 0 [] 0 0 (by omega) (by omega) rfl
    simpa using h
theorem trace_length (l : List S52) : (if l.length > 1000 then [] else tr l 0 0).length ≤ 1000 := by
  split
  · simp
  · rw [tr_length]; omega

theorem eqSureStateS_self (l : List S60) (hl : l.length ≤ 1000) : Ev (fun k => laws_eqSureStateS.f k l l) true := by
  have he : ∀ x y : Int, laws_eqSureState.f x y x y = some true := fun x y => by unfold laws_eqSureState.f; rw [if_pos rfl, if_pos rfl]
  unfold laws_eqSureStateS.f
  simp only [if_true]
  refine all_loop (L := fun k i => laws_eqSureStateS.l0 k l l i) (n := l.length) ?_ (fun i h hr => ?_)
  · refine Ev.step (f := fun _ => some true) (fun k => ?_) (Ev.now _)
    simp only [laws_eqSureStateS.l0]; rw [if_neg (by omega)]
  · have w : wrap64 ((i : Int) + 1) = ((i + 1 : Nat) : Int) := by unfold wrap64; omega
    refine Ev.step (fun k => ?_) hr
    simp only [laws_eqSureStateS.l0, he, Option.bind_some, if_true]
    rw [if_pos (by omega), if_pos (by omega), if_pos (by omega), w]

theorem markInstS_loop (l : List S52) (hl : l.length ≤ 1048576) (ha : ∀ x ∈ l, x.f1.f1.length ≤ 1048576) (d : Nat) : ∀ (i : Nat) (a : Int), l.length - i = d → i ≤ l.length → 0 ≤ a → a ≤ 1 + 3145730 * (i : Int) →
    Tells (fun k => laws_markInstS.l0 k l a (i : Int)) (fun r => 0 ≤ r) := by
  induction d with
  | zero =>
    intro i a hd hi ha0 ha1
    obtain rfl : i = l.length := by omega
    refine Tells.step (f := fun _ => some a) (fun k => ?_) (Tells.now ha0)
    simp only [laws_markInstS.l0]; rw [if_neg (by omega)]
  | succ d ih =>
    intro i a hd hi ha0 ha1
    have hlt : i < l.length := by omega
    have w : wrap64 ((i : Int) + 1) = ((i + 1 : Nat) : Int) := by unfold wrap64; omega
    have hg : rd_T52 l (i : Int) = l[i] := by unfold rd_T52; rw [Int.toNat_natCast, getD_lt l _ i hlt]
    have hal := ha _ (List.getElem_mem hlt)
    have e : wrap64 (wrap64 (wrap64 (a + 1) + 1) + wrap64 (((l[i]).f1.f1.length : Int) * 3)) = a + 2 + 3 * (l[i]).f1.f1.length := by unfold wrap64; omega
    refine Tells.step (fun k => ?_) (ih (i + 1) (a + 2 + 3 * (l[i]).f1.f1.length) (by omega) (by omega) (by omega) (by push_cast; omega))
    simp only [laws_markInstS.l0]
    rw [if_pos (by omega), if_pos (by omega), hg, e, w]
theorem markInstS_tells (l : List S52) (hl : l.length ≤ 1048576) (ha : ∀ x ∈ l, x.f1.f1.length ≤ 1048576) : Tells (fun k => laws_markInstS.f k l 1) (fun r => 0 ≤ r) := by
  unfold laws_markInstS.f
  exact markInstS_loop l hl ha l.length 0 1 (by omega) (by omega) (by omega) (by omega)

def marks2 (n : Nat) : List S60 := (List.range n).map fun (i : Nat) => (⟨2 * (i : Int) + 1, 2 * (i : Int) + 2⟩ : S60)
theorem marks2_length (n : Nat) : (marks2 n).length = n := by simp [marks2]
theorem mark2_loop (l : List S60) (hl : l.length ≤ 1000) (d : Nat) : ∀ i : Nat, l.length - i = d → i ≤ l.length →
    Ev (fun k => laws_markSureStateS.l0 k (marks2 i ++ l.drop i) (2 * (i : Int) + 1) (i : Int)) (2 * (l.length : Int) + 1, marks2 l.length) := by
  induction d with
  | zero =>
    intro i hd hi
    obtain rfl : i = l.length := by omega
    refine Ev.step (f := fun _ => some (2 * (l.length : Int) + 1, marks2 l.length)) (fun k => ?_) (Ev.now _)
    simp only [laws_markSureStateS.l0]
    rw [if_neg (by simp [marks2_length])]; simp
  | succ d ih =>
    intro i hd hi
    have hlt : i < l.length := by omega
    have w : wrap64 ((i : Int) + 1) = ((i + 1 : Nat) : Int) := by unfold wrap64; omega
    have w1 : wrap64 (2 * (i : Int) + 1 + 1) = 2 * (i : Int) + 2 := by unfold wrap64; omega
    have w2 : wrap64 (2 * (i : Int) + 2 + 1) = 2 * ((i + 1 : Nat) : Int) + 1 := by unfold wrap64; omega
    have hll : (marks2 i ++ l.drop i).length = l.length := by rw [List.length_append, marks2_length, List.length_drop]; omega
    have hs : ∀ a : S60, (marks2 i ++ l.drop i).set i a = marks2 i ++ a :: l.drop (i + 1) := by
      intro a
      rw [List.set_append_right _ _ (by rw [marks2_length]; omega), marks2_length, Nat.sub_self, List.drop_eq_getElem_cons hlt, List.set_cons_zero]
    have hrd : ∀ a : S60, rd_T60 ((marks2 i ++ l.drop i).set i a) (i : Int) = a := by
      intro a
      unfold rd_T60
      rw [Int.toNat_natCast, List.getD_eq_getElem?_getD, List.getElem?_set_self (by rw [hll]; exact hlt)]; rfl
    have hm : marks2 (i + 1) ++ l.drop (i + 1) = marks2 i ++ (⟨2 * (i : Int) + 1, 2 * (i : Int) + 2⟩ : S60) :: l.drop (i + 1) := by
      unfold marks2
      rw [List.range_succ, List.map_append, List.append_assoc]; rfl
    refine Ev.step (fun k => ?_) (ih (i + 1) (by omega) (by omega))
    simp only [laws_markSureStateS.l0, Option.bind_some]
    rw [if_pos (by rw [hll]; omega), if_pos (by omega), w, w1, w2, Int.toNat_natCast, hrd, List.set_set, hs, hm]
theorem mark2_ev (l : List S60) (hl : l.length ≤ 1000) : Ev (fun k => laws_markSureStateS.f k l 1) (2 * (l.length : Int) + 1, marks2 l.length) := by
  unfold laws_markSureStateS.f
  have h := mark2_loop l hl l.length 0 (by omega) (by omega)
  simpa [marks2] using h
theorem held2_loop (n : Nat) (hn : n ≤ 1000) (d : Nat) : ∀ i : Nat, n - i = d → i ≤ n →
    Ev (fun k => laws_heldSureStateS.l0 k (marks2 n) (2 * (i : Int) + 1) (i : Int)) (2 * (n : Int) + 1) := by
  induction d with
  | zero =>
    intro i hd hi
    obtain rfl : i = n := by omega
    refine Ev.step (f := fun _ => some (2 * (i : Int) + 1)) (fun k => ?_) (Ev.now _)
    simp only [laws_heldSureStateS.l0]
    rw [if_neg (by rw [marks2_length]; omega)]
  | succ d ih =>
    intro i hd hi
    refine Ev.step (fun k => ?_) (ih (i + 1) (by omega) (by omega))
    have w : wrap64 ((i : Int) + 1) = ((i + 1 : Nat) : Int) := by unfold wrap64; omega
    have w1 : wrap64 (2 * (i : Int) + 1 + 1) = 2 * (i : Int) + 2 := by unfold wrap64; omega
    have w2 : wrap64 (2 * (i : Int) + 2 + 1) = 2 * ((i + 1 : Nat) : Int) + 1 := by unfold wrap64; omega
    have hr : rd_T60 (marks2 n) (i : Int) = ⟨2 * (i : Int) + 1, 2 * (i : Int) + 2⟩ := by
      unfold rd_T60 marks2
      rw [Int.toNat_natCast, List.getD_eq_getElem?_getD, List.getElem?_map, List.getElem?_range (by omega)]; rfl
    simp only [laws_heldSureStateS.l0, hr]
    rw [if_pos (by rw [marks2_length]; omega), if_pos (by omega), if_pos trivial, w1, if_pos rfl, w, w2]
theorem held2_ev (n : Nat) (hn : n ≤ 1000) : Ev (fun k => laws_heldSureStateS.f k (marks2 n) 1) (2 * (n : Int) + 1) := by
  unfold laws_heldSureStateS.f
  have h := held2_loop n hn n 0 (by omega) (by omega)
  simpa using h

theorem holds (a : List S47) (hl : a.length ≤ maxLen) (hm : ∀ x ∈ a, x.f1.f1.length ≤ maxLen) : ∃ k, laws_FnExactSureTrace.f k a = some true := by
  refine Tells.rounds ?_
  unfold laws_FnExactSureTrace.f
  refine Tells.bind (szInstS_tells a 1048576 (by decide) (by decide) hl hm) fun r hr => ?_
  by_cases c : r < 0
  · simp only [if_pos c]; exact Tells.now rfl
  · simp only [if_neg c]
    obtain ⟨_, hl1, hm1⟩ := hr (by omega)
    have hx : (a.map cI).length ≤ 1048576 := by rw [List.length_map]; exact hl1
    have hy := cI_args a hm1
    have ht := trace_length (a.map cI)
    have hs := spec_SureTrace_ev (a.map cI)
    have hi := impl_SureTrace_ev (a.map cI)
    generalize (if (a.map cI).length > 1000 then [] else tr (a.map cI) 0 0) = z at ht hs hi
    refine Tells.bindEv (toInstS_ev a hl1 hm1) ?_
    refine Tells.bindEv hs ?_
    refine Tells.bindEv (toInstS_ev a hl1 hm1) ?_
    refine Tells.bindEv hi ?_
    refine Tells.bindEv (eqSureStateS_self z ht) ?_
    simp only [if_true]
    refine Tells.bindEv (toInstS_ev a hl1 hm1) ?_
    refine Tells.bindEv (eqInstS_self _ hx hy) ?_
    simp only [if_true]
    refine Tells.bind (markInstS_tells _ hx hy) fun r2 hr2 => ?_
    simp only [if_neg (show ¬ (r2 < 0) by omega)]
    refine Tells.bindEv (eqSureStateS_self z ht) ?_
    refine Tells.step (fun k => by simp only [laws_FnExactSureTrace.j0, Bool.not_true, Bool.false_eq_true, if_false]; rfl) ?_
    refine Tells.bindEv (mark2_ev z ht) ?_
    refine Tells.bindEv (held2_ev _ ht) ?_
    simp only [if_neg (show ¬ (2 * (z.length : Int) + 1 < 0) by omega), if_true]
    refine Tells.bindEv (toInstS_ev a hl1 hm1) ?_
    refine Tells.bindEv hi ?_
    refine Tells.bindEv (eqSureStateS_self z ht) ?_
    simp only [if_true]
    refine Tells.bindEv (held2_ev _ ht) ?_
    simp only [if_neg (show ¬ (2 * (z.length : Int) + 1 < 0) by omega), if_true]
    exact Tells.now rfl

end Go.Proofs.Ytpehcdeaboagbaa.BFnExactSureTrace
