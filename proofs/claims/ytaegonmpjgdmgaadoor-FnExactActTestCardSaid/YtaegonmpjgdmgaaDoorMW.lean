/- Words for walks over structs with arrays: the call's own blocks as a list, one law an operation; the ladders' memory as plain data and its cells. No program in sight. -/
import Derived.Test.YtaegonmpjgdmgaaDoorOzWWords
import Derived.Laws.CopyRow
import Derived.Laws.CopyOwn
import Derived.Laws.Rows
import Derived.Laws.Tables
import Derived.StillTailTactics
namespace Go.Proofs.YtaegonmpjgdmgaaDoor.MW
open Go Go.RowKit Go.Proofs.YtaegonmpjgdmgaaDoorW Go.Proofs.YtaegonmpjgdmgaaDoorW.PrintWords
set_option linter.unusedVariables false

/-! ### A piece laid over cells -/
def lay (cs : Array Value) (off : Nat) (seg : Array Value) : Array Value := Array.ofFn (n := cs.size) fun i => if h : off ≤ i.1 ∧ i.1 - off < seg.size then seg[i.1 - off]'h.2 else cs[i.1]
theorem lay_size (cs : Array Value) (off : Nat) (seg : Array Value) : (lay cs off seg).size = cs.size := by simp [lay]
theorem lay_get (cs : Array Value) (off : Nat) (seg : Array Value) (i : Nat) (hi : i < cs.size) : (lay cs off seg)[i]? = if off ≤ i ∧ i - off < seg.size then seg[i - off]? else cs[i]? := by
  rw [Array.getElem?_eq_getElem (by rw [lay_size]; exact hi)]
  unfold lay
  rw [Array.getElem_ofFn]
  by_cases h : off ≤ i ∧ i - off < seg.size
  · rw [dif_pos h, if_pos h, Array.getElem?_eq_getElem h.2]
  · rw [dif_neg h, if_neg h, Array.getElem?_eq_getElem hi]
theorem lay_ext {cs cs' seg : Array Value} {off : Nat} (hs : cs'.size = cs.size) (h : ∀ i, i < cs.size → cs'[i]? = if off ≤ i ∧ i - off < seg.size then seg[i - off]? else cs[i]?) : lay cs off seg = cs' := by
  apply Array.ext_getElem?
  intro i
  by_cases hi : i < cs.size
  · rw [lay_get _ _ _ _ hi, h i hi]
  · rw [Array.getElem?_eq_none (by rw [lay_size]; omega), Array.getElem?_eq_none (by omega)]
theorem lay_list (cs seg : Array Value) (off : Nat) (h : off + seg.size ≤ cs.size) : (cs.toList.take off ++ seg.toList ++ cs.toList.drop (off + seg.toList.length)).toArray = lay cs off seg := by
  symm
  apply lay_ext
  · simp; omega
  · intro i hi
    simp only [List.getElem?_toArray, List.getElem?_append, List.length_append, List.length_take, List.getElem?_take, List.getElem?_drop, Array.length_toList, Array.getElem?_toList]
    have hm : min off cs.size = off := by omega
    rw [hm]
    by_cases h1 : i < off
    · have a1 : i < off + seg.size := by omega
      have a2 : ¬ (off ≤ i ∧ i - off < seg.size) := by omega
      simp only [a1, h1, a2, if_true, if_false]
    · by_cases h2 : i - off < seg.size
      · have a1 : i < off + seg.size := by omega
        have a2 : off ≤ i ∧ i - off < seg.size := by omega
        simp only [a1, h1, if_true, if_false, if_pos a2]
      · have a1 : ¬ i < off + seg.size := by omega
        have a2 : ¬ (off ≤ i ∧ i - off < seg.size) := by omega
        simp only [a1, if_false, if_neg a2]
        congr 1; omega
theorem lay_cell (cs : Array Value) (off : Nat) (v : Value) : cs.setIfInBounds off v = lay cs off #[v] := by
  symm
  apply lay_ext
  · simp
  · intro i hi
    rw [Array.getElem?_setIfInBounds]
    by_cases h : off = i
    · subst h; simp [hi]
    · rw [if_neg h, if_neg (by simp; omega)]

/-! ### The call's own blocks -/
structure Priv (w W : World) (L : List (Nat × Array Value)) : Prop where
  below : Below w.heap.size w W
  ge : ∀ x ∈ L, w.heap.size ≤ x.1
  blk : ∀ x ∈ L, ∃ t, W.heap[x.1]? = some (.cells x.2 t (0, 0))
  nd : (L.map (·.1)).Nodup
section
variable {w W W' : World} {L : List (Nat × Array Value)} {g off i : Nat} {cs cs' seg : Array Value} {t : TypeId} {v : Value}
theorem Priv.nil (w : World) : Priv w w [] := ⟨Below.refl _ _, (fun _ h => by cases h), (fun _ h => by cases h), List.nodup_nil⟩
theorem Priv.lt (H : Priv w W L) {x : Nat × Array Value} (hx : x ∈ L) : x.1 < W.heap.size := by
  obtain ⟨t, h⟩ := H.blk x hx
  exact (Array.getElem?_eq_some_iff.1 h).1
theorem Priv.drewN (H : Priv w W L) (n : Nat) : Priv w (W.drewN n) L := ⟨pw_below_drewN H.below n, H.ge, H.blk, H.nd⟩
theorem Priv.drew (H : Priv w W L) : Priv w W.drew L := ⟨H.below.drew, H.ge, H.blk, H.nd⟩
theorem Priv.call (H : Priv w W L) (hb : Below W.heap.size W W') : Priv w W' L :=
  ⟨below_then H.below H.below.size hb, H.ge, fun x hx => by
    obtain ⟨t, h⟩ := H.blk x hx
    exact ⟨t, (hb.block _ (H.lt hx)).trans h⟩, H.nd⟩
theorem Priv.alloc (H : Priv w W L) (cs : Array Value) (t : TypeId) : Priv w (W.alloc (.cells cs t)) ((W.heap.size, cs) :: L) := by
  refine ⟨H.below.alloc H.below.size _, fun x hx => ?_, fun x hx => ?_, ?_⟩
  · rcases List.mem_cons.1 hx with rfl | hx
    · exact H.below.size
    · exact H.ge x hx
  · rcases List.mem_cons.1 hx with rfl | hx
    · exact ⟨t, heap_alloc_new W _⟩
    · obtain ⟨t', h⟩ := H.blk x hx
      exact ⟨t', (Below.heap_alloc W _ _ (H.lt hx)).trans h⟩
  · rw [List.map_cons, List.nodup_cons]
    refine ⟨fun hm => ?_, H.nd⟩
    obtain ⟨x, hx, he⟩ := List.mem_map.1 hm
    have := H.lt hx
    omega
theorem Priv.set (H : Priv w W L) (hi : L[i]? = some (g, cs)) (cs' : Array Value) : Priv w (W.setRow g cs') (L.set i (g, cs')) := by
  have hmem : (g, cs) ∈ L := List.mem_of_getElem? hi
  have hil : i < L.length := (List.getElem?_eq_some_iff.1 hi).1
  have hLi : L[i] = (g, cs) := (List.getElem?_eq_some_iff.1 hi).2
  obtain ⟨t, hg⟩ := H.blk _ hmem
  have hmap : (L.set i (g, cs')).map (·.1) = L.map (·.1) := by
    apply List.ext_getElem (by simp)
    intro j h1 h2
    simp only [List.getElem_map, List.getElem_set]
    split
    · rename_i hij; subst hij; rw [hLi]
    · rfl
  refine ⟨below_setRow H.below (H.ge _ hmem) _, fun x hx => ?_, fun x hx => ?_, by rw [hmap]; exact H.nd⟩
  · rcases List.mem_or_eq_of_mem_set hx with hx | rfl
    · exact H.ge x hx
    · exact H.ge (g, cs) hmem
  · obtain ⟨j, hj, rfl⟩ := List.mem_iff_getElem.1 hx
    rw [List.length_set] at hj
    rw [List.getElem_set]
    by_cases hij : i = j
    · rw [if_pos hij]; exact ⟨t, setRow_heap W g cs cs' t (0, 0) hg⟩
    · rw [if_neg hij]
      obtain ⟨t', h'⟩ := H.blk _ (List.getElem_mem hj)
      refine ⟨t', (setRow_other W g _ cs' ?_).trans h'⟩
      intro he
      have hpw := List.pairwise_iff_getElem.1 H.nd
      have hi' : (L.map (·.1))[i]'(by simpa using hil) = g := by simp [hLi]
      have hj' : (L.map (·.1))[j]'(by simpa using hj) = g := by simp [he]
      rcases Nat.lt_or_gt_of_ne hij with hlt | hlt
      · exact hpw i j (by simpa using hil) (by simpa using hj) hlt (hi'.trans hj'.symm)
      · exact hpw j i (by simpa using hj) (by simpa using hil) hlt (hj'.trans hi'.symm)
theorem Priv.at_ (H : Priv w W L) (hi : L[i]? = some (g, cs)) : ∃ t, W.heap[g]? = some (.cells cs t (0, 0)) := H.blk _ (List.mem_of_getElem? hi)
end

/-! ### One law an operation -/
def aggSize (P : Program) (t : TypeId) : Option Nat :=
  match P.underlying t with
  | some (.struct _) => (P.info? t).map (·.size)
  | some (.array _ _) => (P.info? t).map (·.size)
  | _ => none
def oneT (P : Program) (t : TypeId) : Bool :=
  match P.underlying t with
  | some (.struct _) => false
  | some (.array _ _) => false
  | some _ => (P.info? t).map (·.size) == some 1
  | _ => false
def fieldOff (P : Program) (t : TypeId) (j : Nat) : Option Nat :=
  match P.underlying t with
  | some (.struct fs) => match fs[j]? with
    | some f => if (P.info? f.type).map (·.size) == some 0 then none else if (P.info? f.type).isNone then none else some f.offset
    | none => none
  | _ => none
def arrOf (P : Program) (t : TypeId) : Option (Nat × Nat) :=
  match P.underlying t with
  | some (.array n e) => (P.info? e).map (fun i => (n, i.size))
  | _ => none
def zeroOf (P : Program) (t : TypeId) : Option (Array Value) := (P.info? t).bind fun i => i.zero.map Value.cells
section
variable {P : Program} {ops : Array Oper} {rest : List Oper} {o : Oper} {a : Act} {Q : Exit → Act → World → Prop} {w W : World} {L : List (Nat × Array Value)}
variable {g off n : Nat} {cs cs' seg : Array Value} {ty : TypeId} {p x : Operand} {v : Value}
theorem isAgg_of (h : aggSize P ty = some n) : (isAgg ty).run P W = .ok true W ∧ (sizeOf ty).run P W = .ok n W := by
  unfold aggSize at h
  unfold isAgg sizeOf typeInfo
  cases hu : P.underlying ty with
  | none => rw [hu] at h; cases h
  | some d =>
    rw [hu] at h
    cases hi : P.info? ty with
    | none => rw [hi] at h; cases d <;> simp at h
    | some ii =>
      rw [hi] at h
      cases d <;> simp at h <;> subst h <;> simp [run_underlying hu, hi]
theorem isOne_of (h : oneT P ty = true) : (isAgg ty).run P W = .ok false W ∧ (sizeOf ty).run P W = .ok 1 W := by
  unfold oneT at h
  unfold isAgg sizeOf typeInfo
  cases hu : P.underlying ty with
  | none => rw [hu] at h; cases h
  | some d =>
    rw [hu] at h
    cases hi : P.info? ty with
    | none => rw [hi] at h; cases d <;> simp at h
    | some ii =>
      rw [hi] at h
      cases d <;> simp at h <;> simp [run_underlying hu, hi, h]
theorem run_loadVar_seg (hg : ∃ t, W.heap[g]? = some (.cells cs t (0, 0))) (hz : aggSize P ty = some seg.size) (hs : ∀ j, j < seg.size → cs[off + j]? = seg[j]?) : (loadVar ty ⟨g, off, none⟩).run P W = .ok (.agg seg) W := by
  obtain ⟨t, hg⟩ := hg
  obtain ⟨h1, h2⟩ := isAgg_of (W := W) hz
  have hl : (loadCells ⟨g, off, none⟩ seg.toList.length).run P W = .ok seg.toList.toArray W :=
    run_loadCells_list (P := P) W ⟨g, off, none⟩ seg.toList (fun j u hu => by
      have hadd : (⟨g, off, none⟩ : Addr).add j = ⟨g, off + j, none⟩ := by unfold Addr.add; split <;> simp_all
      have hj : j < seg.size := by
        have := (List.getElem?_eq_some_iff.1 hu).1
        simpa using this
      rw [hadd, cell_of_row W g (off + j) cs t (0, 0) hg, hs j hj]
      simpa using hu)
  rw [Array.length_toList, Array.toArray_toList] at hl
  simp [loadVar, h1, h2, hl]
theorem run_loadVar_one (hg : ∃ t, W.heap[g]? = some (.cells cs t (0, 0))) (hz : oneT P ty = true) (hs : cs[off]? = some v) : (loadVar ty ⟨g, off, none⟩).run P W = .ok v W := by
  obtain ⟨t, hg⟩ := hg
  obtain ⟨h1, _⟩ := isOne_of (W := W) hz
  have hc : W.cell? ⟨g, off, none⟩ = some v := (cell_of_row W g off cs t (0, 0) hg).trans hs
  simp [loadVar, h1, load, Sem.run, hc]
theorem ev_value {W1 : World} (hgd : o.guard = none) (hrun : (execOp a.eval o).run P W = .ok (.value v) W1) (h : wpList P ops Q rest (a.put o.dst v) W1) : wpList P ops Q (o :: rest) a W := Kd.event_run hgd hrun h
theorem st_value {QA : Act → Prop} (hgd : o.guard = none) (hrun : (execOp a.eval o).run P W = .ok (.value v) W) (h : wpStill P ops W QA rest (a.put o.dst v)) : wpStill P ops W QA (o :: rest) a := by
  unfold wpStill
  rw [if_pos (by simp [Region.wanted, hgd])]
  unfold Oper.still
  rw [hrun, Oper.stillUpon_value]
  exact h
theorem gate_region {id : Nat} {os : Array Oper} {d : Bool} (h : (Code.region id os d).wp P Q a W) : (Code.region id os d).wp P Q a W := h
theorem region_tail {id : Nat} {l : List Oper} (HS : Priv w W L) (n : Nat) (hm : P.follows .mixedOrders = true) (hB : Region.lexTailB .any l.toArray n = true)
    (h : ∀ W', Priv w W' L → Below W.heap.size W W' → wpStill P l.toArray W' (fun a' => wpList P l.toArray Q (l.drop n) a' W') (l.take n) a) : (Code.region id l.toArray true).wp P Q a W :=
  wp_region_still_tail n hm hB (h W.drew HS.drew (Below.refl _ _).drew)
theorem region_lit {id : Nat} {l : List Oper} (HS : Priv w W L) (hm : P.follows .mixedOrders = true) (hB : Region.lexB .any l.toArray = true)
    (h : ∀ W', Priv w W' L → Below W.heap.size W W' → wpStill P l.toArray W' (fun a' => Q .normal a' W') l a) : (Code.region id l.toArray true).wp P Q a W :=
  wp_region_still_lit hm hB (h W.drew HS.drew (Below.refl _ _).drew)
theorem st_gate {QA : Act → Prop} {N : Tmp} (_hN : o.dst = some N) (h : wpStill P ops W QA (o :: rest) a) : wpStill P ops W QA (o :: rest) a := h
theorem run_load_seg (HS : Priv w W L) {i : Nat} (hgd : o.guard = none) (ho : o.op = .load ty p) (hz : aggSize P ty = some n) (hp : a.eval p = .pointer (some ⟨g, off, none⟩)) (hi : L[i]? = some (g, cs)) (hs : ∀ j, j < seg.size → cs[off + j]? = seg[j]?) (hn : seg.size = n)
    : (execOp a.eval o).run P W = .ok (.value (.agg seg)) W := by
  unfold execOp
  simp [ho, hp, Instr.loadAt, Instr.sureAddr, run_loadVar_seg (HS.at_ hi) (hn ▸ hz) hs]
theorem load_seg (HS : Priv w W L) {i : Nat} (hgd : o.guard = none) (ho : o.op = .load ty p) (hz : aggSize P ty = some n) (hp : a.eval p = .pointer (some ⟨g, off, none⟩)) (hi : L[i]? = some (g, cs)) (hs : ∀ j, j < seg.size → cs[off + j]? = seg[j]?) (hn : seg.size = n)
    (h : wpList P ops Q rest (a.put o.dst (.agg seg)) W) : wpList P ops Q (o :: rest) a W := ev_value hgd (run_load_seg HS hgd ho hz hp hi hs hn) h
theorem st_load_seg {QA : Act → Prop} (HS : Priv w W L) {i : Nat} (hgd : o.guard = none) (ho : o.op = .load ty p) (hz : aggSize P ty = some n) (hp : a.eval p = .pointer (some ⟨g, off, none⟩)) (hi : L[i]? = some (g, cs)) (hs : ∀ j, j < seg.size → cs[off + j]? = seg[j]?) (hn : seg.size = n)
    (h : wpStill P ops W QA rest (a.put o.dst (.agg seg))) : wpStill P ops W QA (o :: rest) a := st_value hgd (run_load_seg HS hgd ho hz hp hi hs hn) h
theorem run_load_one (HS : Priv w W L) {i : Nat} (hgd : o.guard = none) (ho : o.op = .load ty p) (hz : oneT P ty = true) (hp : a.eval p = .pointer (some ⟨g, off, none⟩)) (hi : L[i]? = some (g, cs))
    (hs : cs[off]? = some v) : (execOp a.eval o).run P W = .ok (.value v) W := by
  unfold execOp
  simp [ho, hp, Instr.loadAt, Instr.sureAddr, run_loadVar_one (HS.at_ hi) hz hs]
theorem load_one (HS : Priv w W L) {i : Nat} (hgd : o.guard = none) (ho : o.op = .load ty p) (hz : oneT P ty = true) (hp : a.eval p = .pointer (some ⟨g, off, none⟩)) (hi : L[i]? = some (g, cs))
    (hs : cs[off]? = some v) (h : wpList P ops Q rest (a.put o.dst v) W) : wpList P ops Q (o :: rest) a W := ev_value hgd (run_load_one HS hgd ho hz hp hi hs) h
theorem st_load_one {QA : Act → Prop} (HS : Priv w W L) {i : Nat} (hgd : o.guard = none) (ho : o.op = .load ty p) (hz : oneT P ty = true) (hp : a.eval p = .pointer (some ⟨g, off, none⟩)) (hi : L[i]? = some (g, cs))
    (hs : cs[off]? = some v) (h : wpStill P ops W QA rest (a.put o.dst v)) : wpStill P ops W QA (o :: rest) a := st_value hgd (run_load_one HS hgd ho hz hp hi hs) h
theorem run_store_seg (hg : ∃ t, W.heap[g]? = some (.cells cs t (0, 0))) (hn : (sizeOf ty).run P W = .ok seg.size W) (hf : off + seg.size ≤ cs.size) (h1 : ∀ u ∈ seg, u.oneCell' = true) (hc : v.cells = seg) :
    (storeVar ty ⟨g, off, none⟩ v).run P W = .ok () (W.setRow g (lay cs off seg)) := by
  obtain ⟨t, hg⟩ := hg
  have hst := run_storeCells_at (P := P) g off t seg.toList 0 cs W hg (by simpa using hf) (fun u hu => h1 u (by simpa using hu))
  rw [Nat.add_zero, lay_list cs seg off hf] at hst
  simp [storeVar, hn, hc, hst]
theorem ev_store {W1 : World} (hgd : o.guard = none) (hN : o.dst = none) (hrun : (execOp a.eval o).run P W = .ok .skip W1) (h : wpList P ops Q rest a W1) : wpList P ops Q (o :: rest) a W := by
  refine wpList_plain hgd fun K hK => ?_
  unfold Oper.wp
  rw [hrun]
  show K (a.put o.dst undef) W1
  rw [hN]
  exact hK _ _ h
theorem store_seg (HS : Priv w W L) {i : Nat} (hgd : o.guard = none) (hN : o.dst = none) (ho : o.op = .store ty p x) (hz : aggSize P ty = some n) (hp : a.eval p = .pointer (some ⟨g, off, none⟩)) (hx : a.eval x = .agg seg) (hi : L[i]? = some (g, cs)) (he : lay cs off seg = cs') (hn : seg.size = n)
    (hf : off + seg.size ≤ cs.size) (h1 : ∀ u ∈ seg, u.oneCell' = true) (h : ∀ W', Priv w W' (L.set i (g, cs')) → wpList P ops Q rest a W') : wpList P ops Q (o :: rest) a W := by
  subst he
  refine ev_store hgd hN ?_ (h _ (HS.set hi _))
  unfold execOp
  simp [ho, hp, hx, Instr.storeAt, Instr.sureAddr, run_store_seg (v := .agg seg) (HS.at_ hi) (isAgg_of (hn ▸ hz)).2 hf h1 rfl]
theorem store_one (HS : Priv w W L) {i : Nat} (hgd : o.guard = none) (hN : o.dst = none) (ho : o.op = .store ty p x) (hz : oneT P ty = true) (hp : a.eval p = .pointer (some ⟨g, off, none⟩)) (hx : a.eval x = v) (hi : L[i]? = some (g, cs)) (he : lay cs off #[v] = cs')
    (hf : off < cs.size) (h1 : v.oneCell' = true) (hv : v.cells = #[v]) (h : ∀ W', Priv w W' (L.set i (g, cs')) → wpList P ops Q rest a W') : wpList P ops Q (o :: rest) a W := by
  subst he
  refine ev_store hgd hN ?_ (h _ (HS.set hi _))
  unfold execOp
  simp [ho, hp, hx, Instr.storeAt, Instr.sureAddr, run_store_seg (v := v) (off := off) (seg := #[v]) (HS.at_ hi) (isOne_of hz).2 (by simp; omega) (by simpa using h1) hv]
theorem alloc_new (HS : Priv w W L) (hgd : o.guard = none) (ho : o.op = .alloc ty) (hz : zeroOf P ty = some cs) (h : ∀ g W', Priv w W' ((g, cs) :: L) → wpList P ops Q rest (a.put o.dst (.pointer (some ⟨g, 0, none⟩))) W') : wpList P ops Q (o :: rest) a W := by
  refine ev_value hgd ?_ (h _ _ (HS.alloc cs ty))
  unfold zeroOf at hz
  cases hi : P.info? ty with
  | none => rw [hi] at hz; cases hz
  | some ii =>
    rw [hi] at hz
    cases hzz : ii.zero with
    | none => simp [hzz] at hz
    | some z =>
      simp [hzz] at hz
      subst hz
      unfold execOp
      simp [ho, Instr.alloc, zeroValue, typeInfo, hi, hzz, newVar, newRow, newObj]
      rfl
theorem box_new (HS : Priv w W L) (hgd : o.guard = none) (ho : o.op = .box ty x) (hx : a.eval x = .agg cs) (h : ∀ g W', Priv w W' ((g, cs) :: L) → wpList P ops Q rest (a.put o.dst (.pointer (some ⟨g, 0, none⟩))) W') : wpList P ops Q (o :: rest) a W := by
  refine ev_value hgd ?_ (h _ _ (HS.alloc cs ty))
  unfold execOp
  simp [ho, hx, Instr.box, Value.cells, newVar, newRow, newObj]
  rfl
theorem run_field_at {j k : Nat} (hgd : o.guard = none) (ho : o.op = .fieldAddr ty p j) (hp : a.eval p = .pointer (some ⟨g, off, none⟩)) (hf : fieldOff P ty j = some k) : (execOp a.eval o).run P W = .ok (.value (.pointer (some ⟨g, off + k, none⟩))) W := by
  unfold fieldOff at hf
  cases hu : P.underlying ty with
  | none => rw [hu] at hf; cases hf
  | some d =>
    rw [hu] at hf
    cases d <;> simp at hf
    rename_i fs
    cases hfs : fs[j]? with
    | none => rw [hfs] at hf; cases hf
    | some f =>
      rw [hfs] at hf
      simp at hf
      cases hi : P.info? f.type with
      | none => simp [hi] at hf
      | some ii =>
        simp [hi] at hf
        obtain ⟨h0, rfl⟩ := hf
        have hadd : (⟨g, off, none⟩ : Addr).add f.offset = ⟨g, off + f.offset, none⟩ := by unfold Addr.add; split <;> simp_all
        unfold execOp
        simp [ho, hp, Instr.fieldAt, run_underlying hu, hfs, Instr.sureAddr, fieldPlace, sizeOf, typeInfo, hi, h0, hadd]
theorem field_at {j k : Nat} (hgd : o.guard = none) (ho : o.op = .fieldAddr ty p j) (hp : a.eval p = .pointer (some ⟨g, off, none⟩)) (hf : fieldOff P ty j = some k) (h : wpList P ops Q rest (a.put o.dst (.pointer (some ⟨g, off + k, none⟩))) W) : wpList P ops Q (o :: rest) a W := ev_value hgd (run_field_at hgd ho hp hf) h
theorem run_index_at {m s : Nat} {k : IntKind} {j : Int} (hgd : o.guard = none) (ho : o.op = .indexAddr ty p x) (hp : a.eval p = .pointer (some ⟨g, off, none⟩)) (hx : a.eval x = .int k j) (hf : arrOf P ty = some (m, s)) (h0 : 0 ≤ j) (h1 : j < m)
    : (execOp a.eval o).run P W = .ok (.value (.pointer (some ⟨g, off + j.toNat * s, none⟩))) W := by
  unfold arrOf at hf
  cases hu : P.underlying ty with
  | none => rw [hu] at hf; cases hf
  | some d =>
    rw [hu] at hf
    cases d <;> simp at hf
    rename_i n' e
    obtain ⟨ii, hi, rfl, rfl⟩ := hf
    have hadd : (⟨g, off, none⟩ : Addr).add (j.toNat * ii.size) = ⟨g, off + j.toNat * ii.size, none⟩ := by unfold Addr.add; split <;> simp_all
    unfold execOp
    simp [ho, hp, hx, Instr.indexAt, asIntOf, run_underlying hu, Instr.sureAddr, sizeOf, typeInfo, hi, hadd, h0, h1]
theorem index_at {m s : Nat} {k : IntKind} {j : Int} (hgd : o.guard = none) (ho : o.op = .indexAddr ty p x) (hp : a.eval p = .pointer (some ⟨g, off, none⟩)) (hx : a.eval x = .int k j) (hf : arrOf P ty = some (m, s)) (h0 : 0 ≤ j) (h1 : j < m)
    (h : wpList P ops Q rest (a.put o.dst (.pointer (some ⟨g, off + j.toNat * s, none⟩))) W) : wpList P ops Q (o :: rest) a W := ev_value hgd (run_index_at hgd ho hp hx hf h0 h1) h
theorem st_index_at {QA : Act → Prop} {m s : Nat} {k : IntKind} {j : Int} (hgd : o.guard = none) (ho : o.op = .indexAddr ty p x) (hp : a.eval p = .pointer (some ⟨g, off, none⟩)) (hx : a.eval x = .int k j) (hf : arrOf P ty = some (m, s)) (h0 : 0 ≤ j) (h1 : j < m)
    (h : wpStill P ops W QA rest (a.put o.dst (.pointer (some ⟨g, off + j.toNat * s, none⟩)))) : wpStill P ops W QA (o :: rest) a := st_value hgd (run_index_at hgd ho hp hx hf h0 h1) h
end

/-! ### Contracts, calls, results -/
/-- The call hands back a value of which R holds; nothing that was there is changed. -/
def Ret (w : World) (R : Value → Prop) (e : Ending) (w' : World) : Prop := ∃ v, e = .returned v ∧ R v ∧ Below w.heap.size w w'
theorem Ret.of_eq {P : Program} {f : FuncId} {args : Array Value} {w : World} {v : Value} (h : Calls P f args w fun e w' => e = .returned v ∧ Below w.heap.size w w') : Calls P f args w (Ret w (· = v)) :=
  h.mono fun e w' ⟨he, hb⟩ => ⟨v, he, rfl, hb⟩
section
variable {P : Program} {ops : Array Oper} {rest : List Oper} {o : Oper} {a : Act} {Q : Exit → Act → World → Prop} {w W : World} {L : List (Nat × Array Value)}
variable {g : Nat} {cs : Array Value} {ty : TypeId} {p u : Tmp} {fn : Func} {R : Ending → World → Prop}
theorem call_ev {f : FuncId} {as : Array Operand} {ts : Array TypeId} {fn : Func} {args : Array Value} {R : Value → Prop} (HS : Priv w W L) (hgd : o.guard = none) (ho : o.op = .call { callee := .value (.func f), args := as, argTypes := ts })
    (hf : P.funcs[f]? = some fn) (hname : (fn.name == "runtime.NumGoroutine") = false) (hb : fn.body.isSome = true) (hc : Calls P f args W (Ret W R)) (hargs : as.map a.eval = args)
    (h : ∀ v W', R v → Priv w W' L → Below W.heap.size W W' → wpList P ops Q rest (a.put o.dst v) W') : wpList P ops Q (o :: rest) a W := by
  refine PrintLast.goesL_ (N := o.dst) rfl hgd hf hname hb args ho hargs ?_
  refine hc.mono ?_
  rintro e W' ⟨v, rfl, hv, hbel⟩
  exact ⟨v, rfl, h v W' hv (HS.call hbel) hbel⟩
theorem ret_agg (HS : Priv w W L) (hd : a.defers = []) (hres : fn.results = #[.cell p ty]) (hp : a.tmps.getD p undef = .pointer (some ⟨g, 0, none⟩)) {i : Nat} (hi : L[i]? = some (g, cs)) {n : Nat} (hz : aggSize P ty = some n) (hn : cs.size = n) (h : R (.returned (.agg cs)) W) : bodyPost P fn R .ret a W := by
  refine bodyPost_ret (v := .agg cs) ?_ hd h
  have hp' : a.tmps[p]?.getD undef = .pointer (some ⟨g, 0, none⟩) := by simpa using hp
  simp [results, hres, hp', asAddr, run_loadVar_seg (off := 0) (HS.at_ hi) (hn ▸ hz) (fun j _ => by rw [Nat.zero_add])]
theorem ret_agg_tmp (HS : Priv w W L) (hd : a.defers = []) (hres : fn.results = #[.cell p ty, .tmp u]) (hp : a.tmps.getD p undef = .pointer (some ⟨g, 0, none⟩)) {i : Nat} (hi : L[i]? = some (g, cs)) {n : Nat} (hz : aggSize P ty = some n) (hn : cs.size = n) (h : R (.returned (.tuple #[.agg cs, a.tmps.getD u undef])) W) : bodyPost P fn R .ret a W := by
  refine bodyPost_ret (v := .tuple #[.agg cs, a.tmps.getD u undef]) ?_ hd h
  have hp' : a.tmps[p]?.getD undef = .pointer (some ⟨g, 0, none⟩) := by simpa using hp
  simp [results, hres, hp', asAddr, run_loadVar_seg (off := 0) (HS.at_ hi) (hn ▸ hz) (fun j _ => by rw [Nat.zero_add])]
end
section
variable {α : Type} {a b c d e f g : α} {l : List α}
theorem at0 : (a :: l)[0]? = some a := rfl
theorem at1 : (a :: b :: l)[1]? = some b := rfl
theorem at2 : (a :: b :: c :: l)[2]? = some c := rfl
theorem at3 : (a :: b :: c :: d :: l)[3]? = some d := rfl
theorem at4 : (a :: b :: c :: d :: e :: l)[4]? = some e := rfl
theorem at5 : (a :: b :: c :: d :: e :: f :: l)[5]? = some f := rfl
theorem at6 : (a :: b :: c :: d :: e :: f :: g :: l)[6]? = some g := rfl
end
theorem eval_tmp {l : List Value} {d : List Deferred} {t : Nat} {v : Value} (h : l[t]? = some v) : Act.eval { tmps := l.toArray, defers := d } (.tmp t) = v := by
  simp [Act.eval, h]
theorem eval_const {a : Act} {v : Value} : a.eval (.const v) = v := rfl
theorem toNat_16 (k : Nat) : ((16 : Int) + (k : Int)).toNat = 16 + k := by omega
theorem toNat_12 (k : Nat) : ((12 : Int) + (k : Int)).toNat = 12 + k := by omega
theorem whole (cs : Array Value) : ∀ j, j < cs.size → cs[0 + j]? = cs[j]? := fun j _ => by rw [Nat.zero_add]
theorem lay_whole {cs seg : Array Value} (h : cs.size = seg.size) : lay cs 0 seg = seg := by
  refine lay_ext h.symm (fun i hi => ?_)
  rw [if_pos ⟨Nat.zero_le _, by omega⟩, Nat.sub_zero]

section
variable {a b c d : Value} {l : List Value}
theorem at0a : (List.toArray (a :: l))[0]? = some a := rfl
theorem at1a : (List.toArray (a :: b :: l))[1]? = some b := by simp
theorem at2a : (List.toArray (a :: b :: c :: l))[2]? = some c := by simp
theorem at3a : (List.toArray (a :: b :: c :: d :: l))[3]? = some d := by simp
variable {x y z : Value}
theorem lay2_0 : lay #[a, b] 0 #[x] = #[x, b] := (lay_cell _ _ _).symm.trans rfl
theorem lay2_1 : lay #[a, b] 1 #[x] = #[a, x] := (lay_cell _ _ _).symm.trans rfl
theorem lay3_0 : lay #[a, b, c] 0 #[x] = #[x, b, c] := (lay_cell _ _ _).symm.trans rfl
theorem lay3_1 : lay #[a, b, c] 1 #[x] = #[a, x, c] := (lay_cell _ _ _).symm.trans rfl
theorem lay3_2 : lay #[a, b, c] 2 #[x] = #[a, b, x] := (lay_cell _ _ _).symm.trans rfl
theorem sz1 : (#[a] : Array Value).size = 1 := rfl
theorem sz2 : (#[a, b] : Array Value).size = 2 := rfl
theorem sz3 : (#[a, b, c] : Array Value).size = 3 := rfl
theorem sz4 : (#[a, b, c, d] : Array Value).size = 4 := rfl
theorem lay2_w : lay #[a, b] 0 #[x, y] = #[x, y] := lay_whole rfl
theorem lay3_w : lay #[a, b, c] 0 #[x, y, z] = #[x, y, z] := lay_whole rfl
end

section
variable {P : Program} {ops : Array Oper} {rest : List Oper} {o : Oper} {a : Act} {W : World}
/-- A quiet call inside a region that draws its order. -/
theorem st_call {QA : Act → Prop} {f : FuncId} {ars : Array Operand} {ts : Array TypeId} {fn : Func} {args : Array Value} {v : Value} (hgd : o.guard = none) (ho : o.op = .call { callee := .value (.func f), args := ars, argTypes := ts })
    (hf : P.funcs[f]? = some fn) (hname : (fn.name == "runtime.NumGoroutine") = false) (hb : fn.body.isSome = true) (hc : Calls P f args W (fun e w' => e = .returned v ∧ w' = W)) (hargs : ars.map a.eval = args)
    (h : wpStill P ops W QA rest (a.put o.dst v)) : wpStill P ops W QA (o :: rest) a := by
  unfold wpStill
  rw [if_pos (by simp [Region.wanted, hgd])]
  unfold Oper.still
  have he := PrintLast.enters_ hf hname hb args W
  have hrun : (execOp a.eval o).run P W = .ok (.enter f args) W := by
    unfold execOp
    simp [ho, resolve, Deferred.ofValue, invoke, Act.eval, hargs, he]
  rw [hrun]
  exact ⟨rfl, v, hc, h⟩
end

/-! ### A struct laid out of its parts; copy between the call's own blocks -/
section
variable {P : Program} {ops : Array Oper} {rest : List Oper} {o : Oper} {a : Act} {Q : Exit → Act → World → Prop} {w W : World} {L : List (Nat × Array Value)}
end

section
variable {P : Program} {ops : Array Oper} {rest : List Oper} {o : Oper} {a : Act} {Q : Exit → Act → World → Prop} {w W : World} {L : List (Nat × Array Value)}
end

/-! ### The ladders' memory -/
structure Mm where
  X : Int
  Y : Int
  M : Int
  S : Int
  E : Int
  T : Nat → Bool × Int
  C : Nat → Bool × Bool × Int
  D : Nat → Int
  R : Nat → Nat
  Time : Int
  Ran : Bool
  Fault : Bool
def tcell (T : Nat → Bool × Int) (i : Nat) : Value := if i % 2 = 0 then .bool (T (i / 2)).1 else .int .u16 (T (i / 2)).2
def ccell (C : Nat → Bool × Bool × Int) (i : Nat) : Value := if i % 3 = 0 then .bool (C (i / 3)).1 else if i % 3 = 1 then .bool (C (i / 3)).2.1 else .int .u16 (C (i / 3)).2.2
def Mm.cell (m : Mm) (i : Nat) : Value :=
  if i = 0 then .int .u32 m.X else if i = 1 then .int .u32 m.Y else if i = 2 then .int .u64 m.M else if i = 3 then .int .u16 m.S else if i = 4 then .int .u32 m.E
  else if i < 37 then tcell m.T (i - 5) else if i < 85 then ccell m.C (i - 37) else if i < 117 then .int .i16 (m.D (i - 85)) else if i < 133 then .float .f64 (m.R (i - 117))
  else if i = 133 then .int .u32 m.Time else if i = 134 then .bool m.Ran else .bool m.Fault
def tc (T : Nat → Bool × Int) : Array Value := Array.ofFn (n := 32) fun i => tcell T i.1
def cc (C : Nat → Bool × Bool × Int) : Array Value := Array.ofFn (n := 48) fun i => ccell C i.1
def dc (D : Nat → Int) : Array Value := Array.ofFn (n := 32) fun i => .int .i16 (D i.1)
def rc (R : Nat → Nat) : Array Value := Array.ofFn (n := 16) fun i => .float .f64 (R i.1)
def mc (m : Mm) : Array Value := Array.ofFn (n := 136) fun i => m.cell i.1
def upd {α : Type} (f : Nat → α) (k : Nat) (v : α) : Nat → α := fun i => if i = k then v else f i
theorem upd_same {α : Type} (f : Nat → α) (k : Nat) (v : α) : upd f k v k = v := by simp [upd]
theorem upd_other {α : Type} (f : Nat → α) (k i : Nat) (v : α) (h : i ≠ k) : upd f k v i = f i := by simp [upd, h]
theorem ofFn_get {n : Nat} (f : Nat → Value) (i : Nat) (h : i < n) : (Array.ofFn (n := n) fun i => f i.1)[i]? = some (f i) := by simp [h]
theorem tc_size (T : Nat → Bool × Int) : (tc T).size = 32 := by simp [tc]
theorem cc_size (C : Nat → Bool × Bool × Int) : (cc C).size = 48 := by simp [cc]
theorem dc_size (D : Nat → Int) : (dc D).size = 32 := by simp [dc]
theorem rc_size (R : Nat → Nat) : (rc R).size = 16 := by simp [rc]
theorem mc_size (m : Mm) : (mc m).size = 136 := by simp [mc]
def zm : Mm := ⟨0, 0, 0, 0, 0, fun _ => (false, 0), fun _ => (false, false, 0), fun _ => 0, fun _ => 0, 0, false, false⟩
theorem lay_mc (m m' : Mm) : lay (mc m) 0 (mc m') = mc m' := lay_whole (by rw [mc_size, mc_size])
theorem lay_tc (m m' : Nat → Bool × Int) : lay (tc m) 0 (tc m') = tc m' := lay_whole (by rw [tc_size, tc_size])
theorem lay_cc (m m' : Nat → Bool × Bool × Int) : lay (cc m) 0 (cc m') = cc m' := lay_whole (by rw [cc_size, cc_size])
theorem lay_dc (m m' : Nat → Int) : lay (dc m) 0 (dc m') = dc m' := lay_whole (by rw [dc_size, dc_size])
theorem lay_rc (m m' : Nat → Nat) : lay (rc m) 0 (rc m') = rc m' := lay_whole (by rw [rc_size, rc_size])
theorem mc_get (m : Mm) (i : Nat) (h : i < 136) : (mc m)[i]? = some (m.cell i) := ofFn_get _ i h
theorem tc_get (T : Nat → Bool × Int) (i : Nat) (h : i < 32) : (tc T)[i]? = some (tcell T i) := ofFn_get _ i h
theorem cc_get (C : Nat → Bool × Bool × Int) (i : Nat) (h : i < 48) : (cc C)[i]? = some (ccell C i) := ofFn_get _ i h
theorem dc_get (D : Nat → Int) (i : Nat) (h : i < 32) : (dc D)[i]? = some (.int .i16 (D i)) := ofFn_get (fun i => .int .i16 (D i)) i h
theorem rc_get (R : Nat → Nat) (i : Nat) (h : i < 16) : (rc R)[i]? = some (.float .f64 (R i)) := ofFn_get (fun i => .float .f64 (R i)) i h
theorem tcell_one (T : Nat → Bool × Int) (i : Nat) : (tcell T i).oneCell' = true := by unfold tcell; split <;> rfl
theorem ccell_one (C : Nat → Bool × Bool × Int) (i : Nat) : (ccell C i).oneCell' = true := by unfold ccell; split; rfl; split <;> rfl
theorem Mm.cell_one (m : Mm) (i : Nat) : (m.cell i).oneCell' = true := by
  unfold Mm.cell
  split; rfl
  split; rfl
  split; rfl
  split; rfl
  split; rfl
  split; exact tcell_one _ _
  split; exact ccell_one _ _
  split; rfl
  split; rfl
  split; rfl
  split <;> rfl
theorem one_ofFn {n : Nat} (f : Nat → Value) (h : ∀ i, (f i).oneCell' = true) : ∀ u ∈ (Array.ofFn (n := n) fun i => f i.1), u.oneCell' = true := by
  intro u hu
  simp at hu
  obtain ⟨i, rfl⟩ := hu
  exact h _
theorem tc_one (T : Nat → Bool × Int) : ∀ u ∈ tc T, u.oneCell' = true := one_ofFn _ (tcell_one T)
theorem cc_one (C : Nat → Bool × Bool × Int) : ∀ u ∈ cc C, u.oneCell' = true := one_ofFn _ (ccell_one C)
theorem dc_one (D : Nat → Int) : ∀ u ∈ dc D, u.oneCell' = true := one_ofFn (fun i => .int .i16 (D i)) (fun _ => rfl)
theorem rc_one (R : Nat → Nat) : ∀ u ∈ rc R, u.oneCell' = true := one_ofFn (fun i => .float .f64 (R i)) (fun _ => rfl)
theorem mc_one (m : Mm) : ∀ u ∈ mc m, u.oneCell' = true := one_ofFn _ m.cell_one
theorem t2_one (x : Bool) (y : Int) : ∀ u ∈ (#[.bool x, .int .u16 y] : Array Value), u.oneCell' = true := by simp [Value.oneCell']
theorem t3_one (x y : Bool) (z : Int) : ∀ u ∈ (#[.bool x, .bool y, .int .u16 z] : Array Value), u.oneCell' = true := by simp [Value.oneCell']
theorem cell_X (m : Mm) : m.cell 0 = .int .u32 m.X := by simp [Mm.cell]
theorem cell_Y (m : Mm) : m.cell 1 = .int .u32 m.Y := by simp [Mm.cell]
theorem cell_M (m : Mm) : m.cell 2 = .int .u64 m.M := by simp [Mm.cell]
theorem cell_S (m : Mm) : m.cell 3 = .int .u16 m.S := by simp [Mm.cell]
theorem cell_E (m : Mm) : m.cell 4 = .int .u32 m.E := by simp [Mm.cell]
theorem cell_Time (m : Mm) : m.cell 133 = .int .u32 m.Time := by simp [Mm.cell]
theorem cell_Ran (m : Mm) : m.cell 134 = .bool m.Ran := by simp [Mm.cell]
theorem cell_Fault (m : Mm) : m.cell 135 = .bool m.Fault := by simp [Mm.cell]
theorem cell_T (m : Mm) (i : Nat) (h0 : 5 ≤ i) (h1 : i < 37) : m.cell i = tcell m.T (i - 5) := by
  unfold Mm.cell
  repeat rw [if_neg (by omega)]
  rw [if_pos h1]
theorem cell_C (m : Mm) (i : Nat) (h0 : 37 ≤ i) (h1 : i < 85) : m.cell i = ccell m.C (i - 37) := by
  unfold Mm.cell
  repeat rw [if_neg (by omega)]
  rw [if_pos h1]
theorem cell_D (m : Mm) (i : Nat) (h0 : 85 ≤ i) (h1 : i < 117) : m.cell i = .int .i16 (m.D (i - 85)) := by
  unfold Mm.cell
  repeat rw [if_neg (by omega)]
  rw [if_pos h1]
theorem cell_R (m : Mm) (i : Nat) (h0 : 117 ≤ i) (h1 : i < 133) : m.cell i = .float .f64 (m.R (i - 117)) := by
  unfold Mm.cell
  repeat rw [if_neg (by omega)]
  rw [if_pos h1]
theorem ivl (i : Nat) (h : i < 136) : i = 0 ∨ i = 1 ∨ i = 2 ∨ i = 3 ∨ i = 4 ∨ (5 ≤ i ∧ i < 37) ∨ (37 ≤ i ∧ i < 85) ∨ (85 ≤ i ∧ i < 117) ∨ (117 ≤ i ∧ i < 133) ∨ i = 133 ∨ i = 134 ∨ i = 135 := by omega
theorem get_X (m : Mm) : (mc m)[0]? = some (.int .u32 m.X) := (mc_get m 0 (by decide)).trans (by rw [cell_X])
theorem set_X (m : Mm) (v : Int) : lay (mc m) 0 #[.int .u32 v] = mc { m with X := v } := by
  refine lay_ext (by rw [mc_size, mc_size]) (fun i hi => ?_)
  rw [mc_size] at hi
  rw [mc_get _ i hi, mc_get _ i hi]
  rcases ivl i hi with rfl | rfl | rfl | rfl | rfl | ⟨h0, h1⟩ | ⟨h0, h1⟩ | ⟨h0, h1⟩ | ⟨h0, h1⟩ | rfl | rfl | rfl
  · rw [if_pos (by simp), cell_X]; rfl
  · rw [if_neg (by first | (simp; done) | (simp; omega)), cell_Y, cell_Y]
  · rw [if_neg (by first | (simp; done) | (simp; omega)), cell_M, cell_M]
  · rw [if_neg (by first | (simp; done) | (simp; omega)), cell_S, cell_S]
  · rw [if_neg (by first | (simp; done) | (simp; omega)), cell_E, cell_E]
  · rw [if_neg (by simp; omega), cell_T _ i h0 h1, cell_T _ i h0 h1]
  · rw [if_neg (by simp; omega), cell_C _ i h0 h1, cell_C _ i h0 h1]
  · rw [if_neg (by simp; omega), cell_D _ i h0 h1, cell_D _ i h0 h1]
  · rw [if_neg (by simp; omega), cell_R _ i h0 h1, cell_R _ i h0 h1]
  · rw [if_neg (by first | (simp; done) | (simp; omega)), cell_Time, cell_Time]
  · rw [if_neg (by first | (simp; done) | (simp; omega)), cell_Ran, cell_Ran]
  · rw [if_neg (by first | (simp; done) | (simp; omega)), cell_Fault, cell_Fault]
theorem get_Y (m : Mm) : (mc m)[1]? = some (.int .u32 m.Y) := (mc_get m 1 (by decide)).trans (by rw [cell_Y])
theorem set_Y (m : Mm) (v : Int) : lay (mc m) 1 #[.int .u32 v] = mc { m with Y := v } := by
  refine lay_ext (by rw [mc_size, mc_size]) (fun i hi => ?_)
  rw [mc_size] at hi
  rw [mc_get _ i hi, mc_get _ i hi]
  rcases ivl i hi with rfl | rfl | rfl | rfl | rfl | ⟨h0, h1⟩ | ⟨h0, h1⟩ | ⟨h0, h1⟩ | ⟨h0, h1⟩ | rfl | rfl | rfl
  · rw [if_neg (by first | (simp; done) | (simp; omega)), cell_X, cell_X]
  · rw [if_pos (by simp), cell_Y]; rfl
  · rw [if_neg (by first | (simp; done) | (simp; omega)), cell_M, cell_M]
  · rw [if_neg (by first | (simp; done) | (simp; omega)), cell_S, cell_S]
  · rw [if_neg (by first | (simp; done) | (simp; omega)), cell_E, cell_E]
  · rw [if_neg (by simp; omega), cell_T _ i h0 h1, cell_T _ i h0 h1]
  · rw [if_neg (by simp; omega), cell_C _ i h0 h1, cell_C _ i h0 h1]
  · rw [if_neg (by simp; omega), cell_D _ i h0 h1, cell_D _ i h0 h1]
  · rw [if_neg (by simp; omega), cell_R _ i h0 h1, cell_R _ i h0 h1]
  · rw [if_neg (by first | (simp; done) | (simp; omega)), cell_Time, cell_Time]
  · rw [if_neg (by first | (simp; done) | (simp; omega)), cell_Ran, cell_Ran]
  · rw [if_neg (by first | (simp; done) | (simp; omega)), cell_Fault, cell_Fault]
theorem get_M (m : Mm) : (mc m)[2]? = some (.int .u64 m.M) := (mc_get m 2 (by decide)).trans (by rw [cell_M])
theorem set_M (m : Mm) (v : Int) : lay (mc m) 2 #[.int .u64 v] = mc { m with M := v } := by
  refine lay_ext (by rw [mc_size, mc_size]) (fun i hi => ?_)
  rw [mc_size] at hi
  rw [mc_get _ i hi, mc_get _ i hi]
  rcases ivl i hi with rfl | rfl | rfl | rfl | rfl | ⟨h0, h1⟩ | ⟨h0, h1⟩ | ⟨h0, h1⟩ | ⟨h0, h1⟩ | rfl | rfl | rfl
  · rw [if_neg (by first | (simp; done) | (simp; omega)), cell_X, cell_X]
  · rw [if_neg (by first | (simp; done) | (simp; omega)), cell_Y, cell_Y]
  · rw [if_pos (by simp), cell_M]; rfl
  · rw [if_neg (by first | (simp; done) | (simp; omega)), cell_S, cell_S]
  · rw [if_neg (by first | (simp; done) | (simp; omega)), cell_E, cell_E]
  · rw [if_neg (by simp; omega), cell_T _ i h0 h1, cell_T _ i h0 h1]
  · rw [if_neg (by simp; omega), cell_C _ i h0 h1, cell_C _ i h0 h1]
  · rw [if_neg (by simp; omega), cell_D _ i h0 h1, cell_D _ i h0 h1]
  · rw [if_neg (by simp; omega), cell_R _ i h0 h1, cell_R _ i h0 h1]
  · rw [if_neg (by first | (simp; done) | (simp; omega)), cell_Time, cell_Time]
  · rw [if_neg (by first | (simp; done) | (simp; omega)), cell_Ran, cell_Ran]
  · rw [if_neg (by first | (simp; done) | (simp; omega)), cell_Fault, cell_Fault]
theorem get_S (m : Mm) : (mc m)[3]? = some (.int .u16 m.S) := (mc_get m 3 (by decide)).trans (by rw [cell_S])
theorem set_S (m : Mm) (v : Int) : lay (mc m) 3 #[.int .u16 v] = mc { m with S := v } := by
  refine lay_ext (by rw [mc_size, mc_size]) (fun i hi => ?_)
  rw [mc_size] at hi
  rw [mc_get _ i hi, mc_get _ i hi]
  rcases ivl i hi with rfl | rfl | rfl | rfl | rfl | ⟨h0, h1⟩ | ⟨h0, h1⟩ | ⟨h0, h1⟩ | ⟨h0, h1⟩ | rfl | rfl | rfl
  · rw [if_neg (by first | (simp; done) | (simp; omega)), cell_X, cell_X]
  · rw [if_neg (by first | (simp; done) | (simp; omega)), cell_Y, cell_Y]
  · rw [if_neg (by first | (simp; done) | (simp; omega)), cell_M, cell_M]
  · rw [if_pos (by simp), cell_S]; rfl
  · rw [if_neg (by first | (simp; done) | (simp; omega)), cell_E, cell_E]
  · rw [if_neg (by simp; omega), cell_T _ i h0 h1, cell_T _ i h0 h1]
  · rw [if_neg (by simp; omega), cell_C _ i h0 h1, cell_C _ i h0 h1]
  · rw [if_neg (by simp; omega), cell_D _ i h0 h1, cell_D _ i h0 h1]
  · rw [if_neg (by simp; omega), cell_R _ i h0 h1, cell_R _ i h0 h1]
  · rw [if_neg (by first | (simp; done) | (simp; omega)), cell_Time, cell_Time]
  · rw [if_neg (by first | (simp; done) | (simp; omega)), cell_Ran, cell_Ran]
  · rw [if_neg (by first | (simp; done) | (simp; omega)), cell_Fault, cell_Fault]
theorem get_E (m : Mm) : (mc m)[4]? = some (.int .u32 m.E) := (mc_get m 4 (by decide)).trans (by rw [cell_E])
theorem set_E (m : Mm) (v : Int) : lay (mc m) 4 #[.int .u32 v] = mc { m with E := v } := by
  refine lay_ext (by rw [mc_size, mc_size]) (fun i hi => ?_)
  rw [mc_size] at hi
  rw [mc_get _ i hi, mc_get _ i hi]
  rcases ivl i hi with rfl | rfl | rfl | rfl | rfl | ⟨h0, h1⟩ | ⟨h0, h1⟩ | ⟨h0, h1⟩ | ⟨h0, h1⟩ | rfl | rfl | rfl
  · rw [if_neg (by first | (simp; done) | (simp; omega)), cell_X, cell_X]
  · rw [if_neg (by first | (simp; done) | (simp; omega)), cell_Y, cell_Y]
  · rw [if_neg (by first | (simp; done) | (simp; omega)), cell_M, cell_M]
  · rw [if_neg (by first | (simp; done) | (simp; omega)), cell_S, cell_S]
  · rw [if_pos (by simp), cell_E]; rfl
  · rw [if_neg (by simp; omega), cell_T _ i h0 h1, cell_T _ i h0 h1]
  · rw [if_neg (by simp; omega), cell_C _ i h0 h1, cell_C _ i h0 h1]
  · rw [if_neg (by simp; omega), cell_D _ i h0 h1, cell_D _ i h0 h1]
  · rw [if_neg (by simp; omega), cell_R _ i h0 h1, cell_R _ i h0 h1]
  · rw [if_neg (by first | (simp; done) | (simp; omega)), cell_Time, cell_Time]
  · rw [if_neg (by first | (simp; done) | (simp; omega)), cell_Ran, cell_Ran]
  · rw [if_neg (by first | (simp; done) | (simp; omega)), cell_Fault, cell_Fault]
theorem get_Time (m : Mm) : (mc m)[133]? = some (.int .u32 m.Time) := (mc_get m 133 (by decide)).trans (by rw [cell_Time])
theorem set_Time (m : Mm) (v : Int) : lay (mc m) 133 #[.int .u32 v] = mc { m with Time := v } := by
  refine lay_ext (by rw [mc_size, mc_size]) (fun i hi => ?_)
  rw [mc_size] at hi
  rw [mc_get _ i hi, mc_get _ i hi]
  rcases ivl i hi with rfl | rfl | rfl | rfl | rfl | ⟨h0, h1⟩ | ⟨h0, h1⟩ | ⟨h0, h1⟩ | ⟨h0, h1⟩ | rfl | rfl | rfl
  · rw [if_neg (by first | (simp; done) | (simp; omega)), cell_X, cell_X]
  · rw [if_neg (by first | (simp; done) | (simp; omega)), cell_Y, cell_Y]
  · rw [if_neg (by first | (simp; done) | (simp; omega)), cell_M, cell_M]
  · rw [if_neg (by first | (simp; done) | (simp; omega)), cell_S, cell_S]
  · rw [if_neg (by first | (simp; done) | (simp; omega)), cell_E, cell_E]
  · rw [if_neg (by simp; omega), cell_T _ i h0 h1, cell_T _ i h0 h1]
  · rw [if_neg (by simp; omega), cell_C _ i h0 h1, cell_C _ i h0 h1]
  · rw [if_neg (by simp; omega), cell_D _ i h0 h1, cell_D _ i h0 h1]
  · rw [if_neg (by simp; omega), cell_R _ i h0 h1, cell_R _ i h0 h1]
  · rw [if_pos (by simp), cell_Time]; rfl
  · rw [if_neg (by first | (simp; done) | (simp; omega)), cell_Ran, cell_Ran]
  · rw [if_neg (by first | (simp; done) | (simp; omega)), cell_Fault, cell_Fault]
theorem get_Ran (m : Mm) : (mc m)[134]? = some (.bool m.Ran) := (mc_get m 134 (by decide)).trans (by rw [cell_Ran])
theorem set_Ran (m : Mm) (v : Bool) : lay (mc m) 134 #[.bool v] = mc { m with Ran := v } := by
  refine lay_ext (by rw [mc_size, mc_size]) (fun i hi => ?_)
  rw [mc_size] at hi
  rw [mc_get _ i hi, mc_get _ i hi]
  rcases ivl i hi with rfl | rfl | rfl | rfl | rfl | ⟨h0, h1⟩ | ⟨h0, h1⟩ | ⟨h0, h1⟩ | ⟨h0, h1⟩ | rfl | rfl | rfl
  · rw [if_neg (by first | (simp; done) | (simp; omega)), cell_X, cell_X]
  · rw [if_neg (by first | (simp; done) | (simp; omega)), cell_Y, cell_Y]
  · rw [if_neg (by first | (simp; done) | (simp; omega)), cell_M, cell_M]
  · rw [if_neg (by first | (simp; done) | (simp; omega)), cell_S, cell_S]
  · rw [if_neg (by first | (simp; done) | (simp; omega)), cell_E, cell_E]
  · rw [if_neg (by simp; omega), cell_T _ i h0 h1, cell_T _ i h0 h1]
  · rw [if_neg (by simp; omega), cell_C _ i h0 h1, cell_C _ i h0 h1]
  · rw [if_neg (by simp; omega), cell_D _ i h0 h1, cell_D _ i h0 h1]
  · rw [if_neg (by simp; omega), cell_R _ i h0 h1, cell_R _ i h0 h1]
  · rw [if_neg (by first | (simp; done) | (simp; omega)), cell_Time, cell_Time]
  · rw [if_pos (by simp), cell_Ran]; rfl
  · rw [if_neg (by first | (simp; done) | (simp; omega)), cell_Fault, cell_Fault]
theorem get_Fault (m : Mm) : (mc m)[135]? = some (.bool m.Fault) := (mc_get m 135 (by decide)).trans (by rw [cell_Fault])
theorem set_Fault (m : Mm) (v : Bool) : lay (mc m) 135 #[.bool v] = mc { m with Fault := v } := by
  refine lay_ext (by rw [mc_size, mc_size]) (fun i hi => ?_)
  rw [mc_size] at hi
  rw [mc_get _ i hi, mc_get _ i hi]
  rcases ivl i hi with rfl | rfl | rfl | rfl | rfl | ⟨h0, h1⟩ | ⟨h0, h1⟩ | ⟨h0, h1⟩ | ⟨h0, h1⟩ | rfl | rfl | rfl
  · rw [if_neg (by first | (simp; done) | (simp; omega)), cell_X, cell_X]
  · rw [if_neg (by first | (simp; done) | (simp; omega)), cell_Y, cell_Y]
  · rw [if_neg (by first | (simp; done) | (simp; omega)), cell_M, cell_M]
  · rw [if_neg (by first | (simp; done) | (simp; omega)), cell_S, cell_S]
  · rw [if_neg (by first | (simp; done) | (simp; omega)), cell_E, cell_E]
  · rw [if_neg (by simp; omega), cell_T _ i h0 h1, cell_T _ i h0 h1]
  · rw [if_neg (by simp; omega), cell_C _ i h0 h1, cell_C _ i h0 h1]
  · rw [if_neg (by simp; omega), cell_D _ i h0 h1, cell_D _ i h0 h1]
  · rw [if_neg (by simp; omega), cell_R _ i h0 h1, cell_R _ i h0 h1]
  · rw [if_neg (by first | (simp; done) | (simp; omega)), cell_Time, cell_Time]
  · rw [if_neg (by first | (simp; done) | (simp; omega)), cell_Ran, cell_Ran]
  · rw [if_pos (by simp), cell_Fault]; rfl
theorem get_T (m : Mm) : ∀ j, j < (tc m.T).size → (mc m)[5 + j]? = (tc m.T)[j]? := by
  intro j hj
  rw [tc_size] at hj
  rw [mc_get _ _ (by omega), tc_get _ _ hj, cell_T _ _ (by omega) (by omega), show 5 + j - 5 = j by omega]
theorem set_T (m : Mm) (v : Nat → Bool × Int) : lay (mc m) 5 (tc v) = mc { m with T := v } := by
  refine lay_ext (by rw [mc_size, mc_size]) (fun i hi => ?_)
  rw [mc_size] at hi
  rw [mc_get _ i hi, mc_get _ i hi]
  rcases ivl i hi with rfl | rfl | rfl | rfl | rfl | ⟨h0, h1⟩ | ⟨h0, h1⟩ | ⟨h0, h1⟩ | ⟨h0, h1⟩ | rfl | rfl | rfl
  · rw [if_neg (by rw [tc_size]; omega), cell_X, cell_X]
  · rw [if_neg (by rw [tc_size]; omega), cell_Y, cell_Y]
  · rw [if_neg (by rw [tc_size]; omega), cell_M, cell_M]
  · rw [if_neg (by rw [tc_size]; omega), cell_S, cell_S]
  · rw [if_neg (by rw [tc_size]; omega), cell_E, cell_E]
  · rw [tc_size, if_pos (by omega), tc_get _ _ (by omega), cell_T _ i h0 h1]
  · rw [if_neg (by rw [tc_size]; omega), cell_C _ i h0 h1, cell_C _ i h0 h1]
  · rw [if_neg (by rw [tc_size]; omega), cell_D _ i h0 h1, cell_D _ i h0 h1]
  · rw [if_neg (by rw [tc_size]; omega), cell_R _ i h0 h1, cell_R _ i h0 h1]
  · rw [if_neg (by rw [tc_size]; omega), cell_Time, cell_Time]
  · rw [if_neg (by rw [tc_size]; omega), cell_Ran, cell_Ran]
  · rw [if_neg (by rw [tc_size]; omega), cell_Fault, cell_Fault]
theorem get_C (m : Mm) : ∀ j, j < (cc m.C).size → (mc m)[37 + j]? = (cc m.C)[j]? := by
  intro j hj
  rw [cc_size] at hj
  rw [mc_get _ _ (by omega), cc_get _ _ hj, cell_C _ _ (by omega) (by omega), show 37 + j - 37 = j by omega]
theorem set_C (m : Mm) (v : Nat → Bool × Bool × Int) : lay (mc m) 37 (cc v) = mc { m with C := v } := by
  refine lay_ext (by rw [mc_size, mc_size]) (fun i hi => ?_)
  rw [mc_size] at hi
  rw [mc_get _ i hi, mc_get _ i hi]
  rcases ivl i hi with rfl | rfl | rfl | rfl | rfl | ⟨h0, h1⟩ | ⟨h0, h1⟩ | ⟨h0, h1⟩ | ⟨h0, h1⟩ | rfl | rfl | rfl
  · rw [if_neg (by rw [cc_size]; omega), cell_X, cell_X]
  · rw [if_neg (by rw [cc_size]; omega), cell_Y, cell_Y]
  · rw [if_neg (by rw [cc_size]; omega), cell_M, cell_M]
  · rw [if_neg (by rw [cc_size]; omega), cell_S, cell_S]
  · rw [if_neg (by rw [cc_size]; omega), cell_E, cell_E]
  · rw [if_neg (by rw [cc_size]; omega), cell_T _ i h0 h1, cell_T _ i h0 h1]
  · rw [cc_size, if_pos (by omega), cc_get _ _ (by omega), cell_C _ i h0 h1]
  · rw [if_neg (by rw [cc_size]; omega), cell_D _ i h0 h1, cell_D _ i h0 h1]
  · rw [if_neg (by rw [cc_size]; omega), cell_R _ i h0 h1, cell_R _ i h0 h1]
  · rw [if_neg (by rw [cc_size]; omega), cell_Time, cell_Time]
  · rw [if_neg (by rw [cc_size]; omega), cell_Ran, cell_Ran]
  · rw [if_neg (by rw [cc_size]; omega), cell_Fault, cell_Fault]
theorem get_D (m : Mm) : ∀ j, j < (dc m.D).size → (mc m)[85 + j]? = (dc m.D)[j]? := by
  intro j hj
  rw [dc_size] at hj
  rw [mc_get _ _ (by omega), dc_get _ _ hj, cell_D _ _ (by omega) (by omega), show 85 + j - 85 = j by omega]
theorem set_D (m : Mm) (v : Nat → Int) : lay (mc m) 85 (dc v) = mc { m with D := v } := by
  refine lay_ext (by rw [mc_size, mc_size]) (fun i hi => ?_)
  rw [mc_size] at hi
  rw [mc_get _ i hi, mc_get _ i hi]
  rcases ivl i hi with rfl | rfl | rfl | rfl | rfl | ⟨h0, h1⟩ | ⟨h0, h1⟩ | ⟨h0, h1⟩ | ⟨h0, h1⟩ | rfl | rfl | rfl
  · rw [if_neg (by rw [dc_size]; omega), cell_X, cell_X]
  · rw [if_neg (by rw [dc_size]; omega), cell_Y, cell_Y]
  · rw [if_neg (by rw [dc_size]; omega), cell_M, cell_M]
  · rw [if_neg (by rw [dc_size]; omega), cell_S, cell_S]
  · rw [if_neg (by rw [dc_size]; omega), cell_E, cell_E]
  · rw [if_neg (by rw [dc_size]; omega), cell_T _ i h0 h1, cell_T _ i h0 h1]
  · rw [if_neg (by rw [dc_size]; omega), cell_C _ i h0 h1, cell_C _ i h0 h1]
  · rw [dc_size, if_pos (by omega), dc_get _ _ (by omega), cell_D _ i h0 h1]
  · rw [if_neg (by rw [dc_size]; omega), cell_R _ i h0 h1, cell_R _ i h0 h1]
  · rw [if_neg (by rw [dc_size]; omega), cell_Time, cell_Time]
  · rw [if_neg (by rw [dc_size]; omega), cell_Ran, cell_Ran]
  · rw [if_neg (by rw [dc_size]; omega), cell_Fault, cell_Fault]
theorem get_R (m : Mm) : ∀ j, j < (rc m.R).size → (mc m)[117 + j]? = (rc m.R)[j]? := by
  intro j hj
  rw [rc_size] at hj
  rw [mc_get _ _ (by omega), rc_get _ _ hj, cell_R _ _ (by omega) (by omega), show 117 + j - 117 = j by omega]
theorem set_R (m : Mm) (v : Nat → Nat) : lay (mc m) 117 (rc v) = mc { m with R := v } := by
  refine lay_ext (by rw [mc_size, mc_size]) (fun i hi => ?_)
  rw [mc_size] at hi
  rw [mc_get _ i hi, mc_get _ i hi]
  rcases ivl i hi with rfl | rfl | rfl | rfl | rfl | ⟨h0, h1⟩ | ⟨h0, h1⟩ | ⟨h0, h1⟩ | ⟨h0, h1⟩ | rfl | rfl | rfl
  · rw [if_neg (by rw [rc_size]; omega), cell_X, cell_X]
  · rw [if_neg (by rw [rc_size]; omega), cell_Y, cell_Y]
  · rw [if_neg (by rw [rc_size]; omega), cell_M, cell_M]
  · rw [if_neg (by rw [rc_size]; omega), cell_S, cell_S]
  · rw [if_neg (by rw [rc_size]; omega), cell_E, cell_E]
  · rw [if_neg (by rw [rc_size]; omega), cell_T _ i h0 h1, cell_T _ i h0 h1]
  · rw [if_neg (by rw [rc_size]; omega), cell_C _ i h0 h1, cell_C _ i h0 h1]
  · rw [if_neg (by rw [rc_size]; omega), cell_D _ i h0 h1, cell_D _ i h0 h1]
  · rw [rc_size, if_pos (by omega), rc_get _ _ (by omega), cell_R _ i h0 h1]
  · rw [if_neg (by rw [rc_size]; omega), cell_Time, cell_Time]
  · rw [if_neg (by rw [rc_size]; omega), cell_Ran, cell_Ran]
  · rw [if_neg (by rw [rc_size]; omega), cell_Fault, cell_Fault]
theorem tcell_0 (T : Nat → Bool × Int) (k : Nat) : tcell T (k * 2) = .bool (T k).1 := by unfold tcell; rw [if_pos (by omega), show k * 2 / 2 = k by omega]
theorem tcell_1 (T : Nat → Bool × Int) (k : Nat) : tcell T (k * 2 + 1) = .int .u16 (T k).2 := by unfold tcell; rw [if_neg (by omega), show (k * 2 + 1) / 2 = k by omega]
theorem ccell_0 (C : Nat → Bool × Bool × Int) (k : Nat) : ccell C (k * 3) = .bool (C k).1 := by unfold ccell; rw [if_pos (by omega), show k * 3 / 3 = k by omega]
theorem ccell_1 (C : Nat → Bool × Bool × Int) (k : Nat) : ccell C (k * 3 + 1) = .bool (C k).2.1 := by unfold ccell; rw [if_neg (by omega), if_pos (by omega), show (k * 3 + 1) / 3 = k by omega]
theorem ccell_2 (C : Nat → Bool × Bool × Int) (k : Nat) : ccell C (k * 3 + 2) = .int .u16 (C k).2.2 := by unfold ccell; rw [if_neg (by omega), if_neg (by omega), show (k * 3 + 2) / 3 = k by omega]
theorem tc_el (T : Nat → Bool × Int) (k : Nat) (h : k < 16) : ∀ j, j < (#[.bool (T k).1, .int .u16 (T k).2] : Array Value).size → (tc T)[k * 2 + j]? = (#[.bool (T k).1, .int .u16 (T k).2] : Array Value)[j]? := by
  intro j hj
  have hj : j < 2 := hj
  rw [tc_get _ _ (by omega)]
  match j, hj with
  | 0, _ => rw [Nat.add_zero, tcell_0]; rfl
  | 1, _ => rw [tcell_1]; rfl
theorem cc_el (C : Nat → Bool × Bool × Int) (k : Nat) (h : k < 16) : ∀ j, j < (#[.bool (C k).1, .bool (C k).2.1, .int .u16 (C k).2.2] : Array Value).size → (cc C)[k * 3 + j]? = (#[.bool (C k).1, .bool (C k).2.1, .int .u16 (C k).2.2] : Array Value)[j]? := by
  intro j hj
  have hj : j < 3 := hj
  rw [cc_get _ _ (by omega)]
  match j, hj with
  | 0, _ => rw [Nat.add_zero, ccell_0]; rfl
  | 1, _ => rw [ccell_1]; rfl
  | 2, _ => rw [ccell_2]; rfl
theorem tc_put (T : Nat → Bool × Int) (k : Nat) (h : k < 16) (x : Bool) (y : Int) : lay (tc T) (k * 2) #[.bool x, .int .u16 y] = tc (upd T k (x, y)) := by
  refine lay_ext (by rw [tc_size, tc_size]) (fun i hi => ?_)
  rw [tc_size] at hi
  rw [tc_get _ i hi, tc_get _ i hi]
  by_cases hk : i / 2 = k
  · obtain ⟨r, hr, rfl⟩ : ∃ r, r < 2 ∧ i = k * 2 + r := ⟨i % 2, by omega, by omega⟩
    rw [if_pos (by simp; omega), show k * 2 + r - k * 2 = r by omega]
    match r, hr with
    | 0, _ => rw [Nat.add_zero, tcell_0, upd_same]; rfl
    | 1, _ => rw [tcell_1, upd_same]; rfl
  · rw [if_neg (by simp; omega)]
    unfold tcell
    rw [upd_other _ _ _ _ hk]
theorem cc_put (C : Nat → Bool × Bool × Int) (k : Nat) (h : k < 16) (x y : Bool) (z : Int) : lay (cc C) (k * 3) #[.bool x, .bool y, .int .u16 z] = cc (upd C k (x, y, z)) := by
  refine lay_ext (by rw [cc_size, cc_size]) (fun i hi => ?_)
  rw [cc_size] at hi
  rw [cc_get _ i hi, cc_get _ i hi]
  by_cases hk : i / 3 = k
  · obtain ⟨r, hr, rfl⟩ : ∃ r, r < 3 ∧ i = k * 3 + r := ⟨i % 3, by omega, by omega⟩
    rw [if_pos (by simp; omega), show k * 3 + r - k * 3 = r by omega]
    match r, hr with
    | 0, _ => rw [Nat.add_zero, ccell_0, upd_same]; rfl
    | 1, _ => rw [ccell_1, upd_same]; rfl
    | 2, _ => rw [ccell_2, upd_same]; rfl
  · rw [if_neg (by simp; omega)]
    unfold ccell
    rw [upd_other _ _ _ _ hk]
theorem dc_put (D : Nat → Int) (k : Nat) (h : k < 32) (v : Int) : lay (dc D) k #[.int .i16 v] = dc (upd D k v) := by
  refine lay_ext (by rw [dc_size, dc_size]) (fun i hi => ?_)
  rw [dc_size] at hi
  rw [dc_get _ i hi, dc_get _ i hi]
  by_cases hk : i = k
  · subst hk; rw [if_pos (by simp), upd_same]; simp
  · rw [if_neg (by simp; omega), upd_other _ _ _ _ hk]
theorem rc_put (R : Nat → Nat) (k : Nat) (h : k < 16) (v : Nat) : lay (rc R) k #[.float .f64 v] = rc (upd R k v) := by
  refine lay_ext (by rw [rc_size, rc_size]) (fun i hi => ?_)
  rw [rc_size] at hi
  rw [rc_get _ i hi, rc_get _ i hi]
  by_cases hk : i = k
  · subst hk; rw [if_pos (by simp), upd_same]; simp
  · rw [if_neg (by simp; omega), upd_other _ _ _ _ hk]
/-- A piece laid over a part of the memory is laid over that part. -/
theorem lay_in {cs sub seg sub' cs' : Array Value} {o k : Nat} (hg : ∀ j, j < sub.size → cs[o + j]? = sub[j]?) (ho : o + sub.size ≤ cs.size) (hk : k + seg.size ≤ sub.size) (h1 : lay sub k seg = sub') (h2 : lay cs o sub' = cs') : lay cs (o + k) seg = cs' := by
  subst h1
  rw [← h2]
  refine lay_ext (lay_size _ _ _) (fun i hi => ?_)
  rw [lay_get _ _ _ _ hi, lay_size]
  by_cases h : o ≤ i ∧ i - o < sub.size
  · rw [if_pos h, lay_get _ _ _ _ h.2]
    have e : cs[i]? = sub[i - o]? := by rw [← hg _ h.2]; congr 1; omega
    by_cases h3 : k ≤ i - o ∧ i - o - k < seg.size
    · rw [if_pos h3, if_pos (by omega)]; congr 1; omega
    · rw [if_neg h3, if_neg (by omega), e]
  · rw [if_neg h, if_neg (by omega)]
theorem get_in {cs sub : Array Value} {o k : Nat} (hg : ∀ j, j < sub.size → cs[o + j]? = sub[j]?) {seg : Array Value} (hk : k + seg.size ≤ sub.size) (h : ∀ j, j < seg.size → sub[k + j]? = seg[j]?) : ∀ j, j < seg.size → cs[o + k + j]? = seg[j]? := by
  intro j hj
  rw [Nat.add_assoc, hg _ (by omega), h j hj]

theorem put_T (m : Mm) (k : Nat) (h : k < 16) (x : Bool) (y : Int) : lay (mc m) (5 + k * 2) #[.bool x, .int .u16 y] = mc { m with T := upd m.T k (x, y) } :=
  lay_in (get_T m) (by rw [tc_size, mc_size]; decide) (by rw [tc_size]; show k * 2 + 2 ≤ 32; omega) (tc_put _ k h x y) (set_T m _)
theorem put_C (m : Mm) (k : Nat) (h : k < 16) (x y : Bool) (z : Int) : lay (mc m) (37 + k * 3) #[.bool x, .bool y, .int .u16 z] = mc { m with C := upd m.C k (x, y, z) } :=
  lay_in (get_C m) (by rw [cc_size, mc_size]; decide) (by rw [cc_size]; show k * 3 + 3 ≤ 48; omega) (cc_put _ k h x y z) (set_C m _)
theorem put_D (m : Mm) (k : Nat) (h : k < 32) (v : Int) : lay (mc m) (85 + k) #[.int .i16 v] = mc { m with D := upd m.D k v } :=
  lay_in (get_D m) (by rw [dc_size, mc_size]; decide) (by rw [dc_size]; show k + 1 ≤ 32; omega) (dc_put _ k h v) (set_D m _)
theorem put_R (m : Mm) (k : Nat) (h : k < 16) (v : Nat) : lay (mc m) (117 + k) #[.float .f64 v] = mc { m with R := upd m.R k v } :=
  lay_in (get_R m) (by rw [rc_size, mc_size]; decide) (by rw [rc_size]; show k + 1 ≤ 16; omega) (rc_put _ k h v) (set_R m _)
theorem el_T (m : Mm) (k : Nat) (h : k < 16) : ∀ j, j < (#[.bool (m.T k).1, .int .u16 (m.T k).2] : Array Value).size → (mc m)[5 + k * 2 + j]? = (#[.bool (m.T k).1, .int .u16 (m.T k).2] : Array Value)[j]? := get_in (get_T m) (by rw [tc_size]; show k * 2 + 2 ≤ 32; omega) (tc_el m.T k h)
theorem el_C (m : Mm) (k : Nat) (h : k < 16) : ∀ j, j < (#[.bool (m.C k).1, .bool (m.C k).2.1, .int .u16 (m.C k).2.2] : Array Value).size → (mc m)[37 + k * 3 + j]? = (#[.bool (m.C k).1, .bool (m.C k).2.1, .int .u16 (m.C k).2.2] : Array Value)[j]? := get_in (get_C m) (by rw [cc_size]; show k * 3 + 3 ≤ 48; omega) (cc_el m.C k h)
theorem el_T0 (m : Mm) (k : Nat) (h : k < 16) : (mc m)[5 + k * 2]? = some (.bool (m.T k).1) := el_T m k h 0 (by show 0 < 2; decide)
theorem el_T1 (m : Mm) (k : Nat) (h : k < 16) : (mc m)[5 + k * 2 + 1]? = some (.int .u16 (m.T k).2) := el_T m k h 1 (by show 1 < 2; decide)
theorem el_C0 (m : Mm) (k : Nat) (h : k < 16) : (mc m)[37 + k * 3]? = some (.bool (m.C k).1) := el_C m k h 0 (by show 0 < 3; decide)
theorem el_C1 (m : Mm) (k : Nat) (h : k < 16) : (mc m)[37 + k * 3 + 1]? = some (.bool (m.C k).2.1) := el_C m k h 1 (by show 1 < 3; decide)
theorem el_C2 (m : Mm) (k : Nat) (h : k < 16) : (mc m)[37 + k * 3 + 2]? = some (.int .u16 (m.C k).2.2) := el_C m k h 2 (by show 2 < 3; decide)
theorem el_D (m : Mm) (k : Nat) (h : k < 32) : (mc m)[85 + k]? = some (.int .i16 (m.D k)) := by rw [get_D m k (by rw [dc_size]; exact h), dc_get _ _ h]
theorem el_R (m : Mm) (k : Nat) (h : k < 16) : (mc m)[117 + k]? = some (.float .f64 (m.R k)) := by rw [get_R m k (by rw [rc_size]; exact h), rc_get _ _ h]

theorem ofFn_congr {n : Nat} (f f' : Nat → Value) (h : ∀ i, i < n → f i = f' i) : (Array.ofFn (n := n) fun i => f i.1) = Array.ofFn (n := n) fun i => f' i.1 := by
  congr 1
  funext i
  exact h _ i.2
theorem tc_congr {T T' : Nat → Bool × Int} (h : ∀ i, i < 16 → T i = T' i) : tc T = tc T' := ofFn_congr _ _ (fun i hi => by unfold tcell; rw [h _ (by omega)])
theorem cc_congr {T T' : Nat → Bool × Bool × Int} (h : ∀ i, i < 16 → T i = T' i) : cc T = cc T' := ofFn_congr _ _ (fun i hi => by unfold ccell; rw [h _ (by omega)])
theorem dc_congr {T T' : Nat → Int} (h : ∀ i, i < 32 → T i = T' i) : dc T = dc T' := ofFn_congr (fun i => .int .i16 (T i)) (fun i => .int .i16 (T' i)) (fun i hi => by rw [h _ hi])
theorem rc_congr {T T' : Nat → Nat} (h : ∀ i, i < 16 → T i = T' i) : rc T = rc T' := ofFn_congr (fun i => .float .f64 (T i)) (fun i => .float .f64 (T' i)) (fun i hi => by rw [h _ hi])
theorem upd_step {α : Type} {f g : Nat → α} {k : Nat} {v : α} (h : ∀ i, i < k → f i = g i) (hv : v = g k) : ∀ i, i < k + 1 → upd f k v i = g i := by
  intro i hi
  unfold upd
  split
  · rename_i e; rw [e, hv]
  · exact h i (by omega)
end Go.Proofs.YtaegonmpjgdmgaaDoor.MW

