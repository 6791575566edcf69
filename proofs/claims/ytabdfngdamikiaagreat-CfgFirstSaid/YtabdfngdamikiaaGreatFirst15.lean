/- The library's sort by a function, at steps: a contract on a row of the caller's own. Conditions: the rows' lengths; no place is the greatest number. -/
import Derived.Test.YtabdfngdamikiaaGreatFirst14
set_option linter.unusedSimpArgs false
set_option linter.unusedVariables false
namespace Go.Ab
open Go.Proofs Go.Sort Go.RowKit Go.Lib
theorem Frm.grown {w w' : World} (h : Frm (fun _ => False) w w') : ∃ q os, w' = grow (w.drewN q) os := by
  obtain ⟨hh, ht, hd, ho, hp⟩ := w
  obtain ⟨hh', ht', hd', ho', hp'⟩ := w'
  obtain ⟨h1, h2, h3, h4, h5, h6⟩ := h
  simp only at h1 h2 h3 h4 h5 h6
  refine ⟨hd' - hd, hh'.extract hh.size hh'.size, ?_⟩
  subst h1 h2 h3
  have e : hd + (hd' - hd) = hd' := by omega
  show World.mk hh' ht' hd' ho' hp' = World.mk (hh ++ hh'.extract hh.size hh'.size) ht' (hd + (hd' - hd)) ho' hp'
  rw [e]
  congr 1
  apply Array.ext
  · simp; omega
  · intro i hi1 hi2
    by_cases hi : i < hh.size
    · have := h6 i hi id
      rw [Array.getElem?_eq_getElem hi1, Array.getElem?_eq_getElem hi] at this
      rw [Array.getElem_append_left hi]
      exact Option.some.inj this
    · rw [Array.getElem_append_right (by omega)]
      simp
      congr 1; omega
def stepLt (a b : Step) : Bool := decide (stepC a b < 0)
theorem orI_neg (a b c : Int) : orI [a, b, c] < 0 ↔ a < 0 ∨ a = 0 ∧ (b < 0 ∨ b = 0 ∧ c < 0) := by
  by_cases h1 : a = 0 <;> by_cases h2 : b = 0 <;> by_cases h3 : c = 0 <;> simp [orI, h1, h2, h3]
theorem cmpI_neg (x y : Int) : cmpI x y < 0 ↔ x < y := by
  unfold cmpI
  split
  · omega
  · split <;> omega
theorem cmpI_zero (x y : Int) : cmpI x y = 0 ↔ x = y := by
  unfold cmpI
  split
  · omega
  · split <;> omega
theorem stepC_lt (a b : Step) : stepC a b < 0 ↔ rankI a.src < rankI b.src ∨ rankI a.src = rankI b.src ∧ (rankI a.dst < rankI b.dst ∨ rankI a.dst = rankI b.dst ∧ a.kind < b.kind) := by
  unfold stepC
  rw [orI_neg, cmpI_neg, cmpI_neg, cmpI_neg, cmpI_zero, cmpI_zero]
def okSt (s : Step) : Prop := s.src ≠ 9223372036854775807 ∧ s.dst ≠ 9223372036854775807
abbrev OSt := {s : Step // okSt s}
instance : Inhabited OSt := ⟨⟨⟨0, 0, 0⟩, by constructor <;> decide⟩⟩
def cfO (a b : OSt) : Int := stepC a.1 b.1
theorem rankI_inj {x y : Int} (hx : x ≠ 9223372036854775807) (hy : y ≠ 9223372036854775807) (h : rankI x = rankI y) : x = y := by
  unfold rankI at h
  split at h <;> split at h <;> omega
theorem cfO_swo : SWO (ltOf cfO) := by
  refine ⟨fun x => ?_, fun x y z h1 h2 => ?_, fun x y z h1 h2 => ?_⟩
  all_goals
    unfold ltOf cfO at *
    simp only [decide_eq_true_eq, decide_eq_false_iff_not, stepC_lt] at *
    omega
theorem cfO_tot (x y : OSt) (h1 : ltOf cfO x y = false) (h2 : ltOf cfO y x = false) : x = y := by
  unfold ltOf cfO at *
  simp only [decide_eq_false_iff_not, stepC_lt] at h1 h2
  obtain ⟨⟨a, b, c⟩, h3, h4⟩ := x
  obtain ⟨⟨d, e, f⟩, h5, h6⟩ := y
  simp only at *
  have e1 := rankI_inj (x := a) (y := d) h3 h5 (by omega)
  have e2 := rankI_inj (x := b) (y := e) h4 h6 (by omega)
  have e3 : c = f := by omega
  subst e1 e2 e3
  rfl
def encO (s : OSt) : List Value := [.int .i64 s.1.src, .int .i64 s.1.dst, .int .i64 s.1.kind]
theorem aggStep_rep {σ : Mem} (s : OSt) : Rep σ (.agg s.1.cells) (.agg (encO s).toArray) := by
  refine .agg _ _ (fun j => (encO s).toArray.getD j undef) rfl (fun j c hj => ?_) (fun j c hj => ?_)
  · match j, hj with
    | 0, _ => rfl
    | 1, _ => rfl
    | 2, _ => rfl
  · match j, hj with
    | 0, hj => cases hj; exact .int _ _
    | 1, hj => cases hj; exact .int _ _
    | 2, hj => cases hj; exact .int _ _
theorem cmp_lays (W : World) (x y : OSt) : Calls Tryz.prog 201 (#[.agg (encO x).toArray, .agg (encO y).toArray] ++ #[]) W fun e w' => e = .returned (.int .i64 (cfO x y)) ∧ ∃ q os', w' = grow (W.drewN q) os' := by
  refine ((flat_Sort_1 x.1 y.1).ok (fun _ => none) W #[.agg (encO x).toArray, .agg (encO y).toArray] rfl (fun j c hj => ?_) (fun b c h => by cases h)).mono ?_
  · match j, hj with
    | 0, hj => cases hj; exact aggStep_rep x
    | 1, hj => cases hj; exact aggStep_rep y
  · rintro e w' ⟨c, u, σ', rfl, rfl, hr, _, _, hf, _⟩
    cases hr
    exact ⟨rfl, hf.grown⟩
theorem steps_get {σ : Mem} {l : List OSt} {vs : Array Value} (h : ∀ (m : Nat) (x : AV), (l.map fun s => AV.agg s.1.cells)[m]? = some x → x.cells.length = 3 ∧ ∀ (j : Nat) (c : AV), x.cells[j]? = some c → ∃ u : Value, vs[m * 3 + j]? = some u ∧ Rep σ c u) {m j : Nat} (hm : m < l.length) (hj : j < 3) :
    vs[m * 3 + j]? = (encO l[m])[j]? := by
  have h1 := (h m (.agg l[m].1.cells) (by simp [hm])).2
  match j, hj with
  | 0, _ =>
    obtain ⟨u, h2, h3⟩ := h1 0 (.int .i64 l[m].1.src) rfl
    cases h3; exact h2
  | 1, _ =>
    obtain ⟨u, h2, h3⟩ := h1 1 (.int .i64 l[m].1.dst) rfl
    cases h3; exact h2
  | 2, _ =>
    obtain ⟨u, h2, h3⟩ := h1 2 (.int .i64 l[m].1.kind) rfl
    cases h3; exact h2
theorem steps_rep {σ : Mem} {l : List OSt} {vs : Array Value} (h : ∀ (m : Nat) (hm : m < l.length) (j : Nat), j < 3 → vs[m * 3 + j]? = (encO l[m])[j]?) : ∀ (m : Nat) (x : AV), (l.map fun s => AV.agg s.1.cells)[m]? = some x → x.cells.length = 3 ∧ ∀ (j : Nat) (c : AV), x.cells[j]? = some c → ∃ u : Value, vs[m * 3 + j]? = some u ∧ Rep σ c u := by
  intro m x hx
  rw [List.getElem?_map] at hx
  cases hq : l[m]? with
  | none => rw [hq] at hx; cases hx
  | some s =>
    rw [hq] at hx; cases hx
    obtain ⟨hm, rfl⟩ := List.getElem?_eq_some_iff.1 hq
    refine ⟨rfl, fun j c hj => ?_⟩
    match j, hj with
    | 0, hj => cases hj; exact ⟨_, h m hm 0 (by omega), .int _ _⟩
    | 1, hj => cases hj; exact ⟨_, h m hm 1 (by omega), .int _ _⟩
    | 2, hj => cases hj; exact ⟨_, h m hm 2 (by omega), .int _ _⟩
theorem flatK_get {d : Array OSt} {t : Nat} (h : t < d.size * 3) : (flatK encO 3 d)[t]? = (encO (d[t / 3]'(by omega)))[t % 3]? := by
  have h1 := get_flatK encO 3 d t h
  rw [getElem!_pos _ t (by simpa using h), getElem!_pos d (t / 3) (by omega)] at h1
  rw [Array.getElem?_eq_getElem (by simpa using h), h1]
  have h3 : t % 3 < (encO (d[t / 3]'(by omega))).length := by simp [encO]; omega
  rw [List.getElem?_eq_getElem h3, getElem!_pos (encO (d[t / 3]'(by omega))) (t % 3) h3]
def sortSt (l : List Step) : List Step := l.mergeSort fun x y => !stepLt y x
theorem sortSt_len {l : List Step} : (sortSt l).length = l.length := by unfold sortSt; simp
theorem sortSt_perm (l : List Step) : (sortSt l).Perm l := List.mergeSort_perm _ _
theorem slices_SortFunc_some (l : List OSt) (hlen : l.length ≤ 1000000000) :
    SpecH Tryz.prog 200 [.hd 1000 0 l.length, .p (.fn 201 [])] [(1000, .own 45 3 (l.map fun s => .agg s.1.cells))]
      (fun r H => r = .p (.tup []) ∧ H = [(1000, .own 45 3 ((l.mergeSort fun x y => !(ltOf cfO) y x).map fun s => .agg s.1.cells))]) := by
  refine ⟨Tryz.call200, fun σ β w vals hn hv hH => ?_⟩
  obtain ⟨v, u, rfl⟩ := vals2 hn
  have hv1 : RepL σ β (.hd 1000 0 l.length) v := by simpa using hv 0 _ rfl
  have hv2 : RepL σ β (.p (.fn 201 [])) u := by simpa using hv 1 _ rfl
  obtain rfl : u = .func (.func 201) #[] #[] := by
    cases hv2 with
    | p h => cases h with
      | fn _ _ vs u hn' hc hr =>
        obtain rfl : vs = #[] := Array.size_eq_zero_iff.1 hn'
        rfl
  have hch := hH.chunks 1000 _ List.mem_cons_self
  rcases hch with ⟨hb0, hes⟩ | ⟨i, vs, hi, hsz, hh, h2, h3, h4, h5⟩
  · have hl0 : l = [] := List.map_eq_nil_iff.1 hes
    subst hl0
    obtain ⟨rfl, _⟩ := hd_nil hv1 hb0
    have hc := AnyF.slices_SortFunc_none Tryz.laysF none 0 (.func (.func 201) #[] #[]) w
    change Calls Tryz.prog 200 _ _ _ at hc
    refine hc.mono ?_
    rintro e w' ⟨rfl, rfl⟩
    exact ⟨.p (.tup []), .tuple #[], σ, β, _, rfl, ⟨rfl, rfl⟩, .p (.tup [] #[] (fun _ => undef) rfl (by simp) (by simp)), by simpa using hH, by simpa using Later.refl _ _ _ _⟩
  · have hve := hd_own hv1 hi
    subst hve
    have hlt := (hH.apart 1000 (by simp) i hi i.blk i.has_blk).2
    have hcap : l.length ≤ i.cap := by simpa using h3
    have hle : l.length * 3 ≤ vs.size := by rw [h2]; omega
    have hget := fun m j hm hj => steps_get (σ := σ) (l := l) h5 (m := m) (j := j) hm hj
    have hc := AnyQ.slices_SortFunc_total Tryz.laysF 3 Tryz.isAgg45 Tryz.sizeOf45 encO (fun _ => rfl) (fun x v hv => by simp [encO] at hv; rcases hv with rfl | rfl | rfl <;> rfl) cfO cfO_swo 201 #[] i.blk 0 i.cap l.toArray w
      Tryz.call201 (fun m os dk _ x y => cmp_lays _ x y) (fun t ht => by
        have ht' : t < l.toArray.size * 3 := by simpa using ht
        refine ⟨?_, frozen_own hh _⟩
        have h6 := flatK_get ht'
        have h7 := hget (t / 3) (t % 3) (by simp at ht'; omega) (by omega)
        rw [Nat.div_add_mod'] at h7
        rw [cell_own hh, Nat.zero_add, h7, getElem!_pos _ t (by simpa using ht')]
        rw [Array.getElem?_eq_getElem (by simpa using ht')] at h6
        simpa using h6.symm) hlt (by simp; omega) cfO_tot
    simp only [List.size_toArray] at hc
    change Calls Tryz.prog 200 _ _ _ at hc
    refine hc.mono ?_
    rintro e w' ⟨rfl, n, os, rfl⟩
    generalize hS : (l.mergeSort fun x y => !(ltOf cfO) y x) = S
    have hSl : S.length = l.length := by rw [← hS]; simp
    obtain ⟨hf, hb⟩ := world_turn (enc := id) (n := n) (os := os) (d := flatK encO 3 S.toArray) hh hlt
    obtain ⟨hH', hL⟩ := row_turn (c' := .own 45 3 (S.map fun s => .agg s.1.cells)) hH hi hf (.inr ⟨i, _, hi, hsz, hb, by rw [putCells_size]; exact h2, by simp [hSl]; exact hcap, h4, steps_rep fun m hm j hj => by
      have h6 := putCells_get (enc := id) (d := flatK encO 3 S.toArray) (vs := vs) (by simp [hSl]; omega) (k := m * 3 + j) (by simp; omega)
      have h7 := flatK_get (d := S.toArray) (t := m * 3 + j) (by simp; omega)
      rw [Array.getElem?_eq_getElem (by simp; omega)] at h7
      rw [h6]
      simp only [id]
      rw [h7]
      simp [show (m * 3 + j) / 3 = m by omega, show (m * 3 + j) % 3 = j by omega]⟩)
    exact ⟨.p (.tup []), .tuple #[], σ, β, _, rfl, ⟨rfl, rfl⟩, .p (.tup [] #[] (fun _ => undef) rfl (by simp) (by simp)), hH', hL⟩
theorem slices_SortFunc (l : List Step) (hok : ∀ s ∈ l, okSt s) (hlen : l.length ≤ 1000000000) :
    SpecH Tryz.prog 200 [.hd 1000 0 l.length, .p (.fn 201 [])] [(1000, .own 45 3 (l.map fun s => .agg s.cells))]
      (fun r H => r = .p (.tup []) ∧ H = [(1000, .own 45 3 ((sortSt l).map fun s => .agg s.cells))]) := by
  have h := slices_SortFunc_some (l.attachWith okSt hok) (by simpa using hlen)
  have e1 : ((l.attachWith okSt hok).map fun s => AV.agg s.1.cells) = l.map fun s => AV.agg s.cells := by
    have := congrArg (List.map fun s : Step => AV.agg s.cells) (List.attachWith_map_subtype_val (l := l) (p := okSt) hok)
    simp
  have e2 : (((l.attachWith okSt hok).mergeSort fun x y => !(ltOf cfO) y x).map fun s => AV.agg s.1.cells) = (sortSt l).map fun s => AV.agg s.cells := by
    have h1 := List.map_mergeSort (l := l.attachWith okSt hok) (f := Subtype.val) (r := fun x y => !(ltOf cfO) y x) (s := fun x y => !stepLt y x) (fun a _ b _ => rfl)
    rw [List.attachWith_map_subtype_val] at h1
    unfold sortSt
    rw [← h1, List.map_map]
    rfl
  rw [e1, e2] at h
  simpa using h
end Go.Ab
namespace Go.Ab
section
variable {P : Program} {T : Tab} {N : Nat}
/-- A block of the call's own turned in place. -/
theorem heap_in {σ : Mem} {β : Lab} {k : Nat} {H H' : Heap} {d : Chunk} {w w' : World} {i : BInfo} (h : HRel σ β H w) (hk : k ∈ H.map (·.1)) (hi : β k = some i) (hf : Frm (fun b => b = i.blk) w w')
    (h3 : H'.map (·.1) = H.map (·.1)) (h4 : ∀ j c, (j, c) ∈ H' → j ≠ k → (j, c) ∈ H) (h5 : ∀ c, (k, c) ∈ H' → c = d) (hnew : d.holds σ β w' k) : HRel σ β H' w' ∧ Later σ β H w σ β H' w' := by
  have hap := h.apart k hk i hi
  refine ⟨⟨fun b cs hb => ?_, fun j c hj => ?_, by rw [h3]; exact h.nodup, fun j hj i' hi' b hb => ?_, fun j hj j' hj' => h.inj j (h3 ▸ hj) j' (h3 ▸ hj')⟩, Mem.le_refl σ, ⟨hf.os, hf.tape, hf.output, hf.drawn, hf.size, fun b hb hn => hf.block b hb fun he => hn ⟨k, hk, i, hi, .inl he.symm⟩⟩,
    fun b h0 h1 => absurd h0 h1, fun b ⟨j, hj, r⟩ => .inl ⟨j, h3 ▸ hj, r⟩, fun _ _ _ => rfl⟩
  · obtain ⟨e, fr, hh⟩ := h.mem b cs hb
    exact ⟨e, fr, (hf.block b (Array.getElem?_eq_some_iff.1 hh).1 fun he => by rw [he, (hap _ i.has_blk).1] at hb; cases hb).trans hh⟩
  · by_cases hjk : j = k
    · subst hjk
      rw [h5 c hj]
      exact hnew
    · have hm := h4 j c hj hjk
      have hjm : j ∈ H.map (·.1) := List.mem_map.2 ⟨_, hm, rfl⟩
      exact (h.chunks j c hm).mono (Mem.le_refl σ) fun i' hi' b hb => hf.block b (h.apart j hjm i' hi' b hb).2 fun he => hjk (h.inj j hjm k hk i' i hi' hi b hb (.inl he.symm))
  · have := h.apart j (h3 ▸ hj) i' hi' b hb
    exact ⟨this.1, Nat.lt_of_lt_of_le this.2 hf.size⟩
theorem OpK.clear (hT : TabOK P T) {s : St} {o : Oper} {K : St → Prop} {t : TypeId} {x : Operand} (hop : o.op = .call { callee := .builtin .clear, args := #[x], argTypes := #[t] }) {k off len : Nat} (hx : evalO s.sl x = .hd k off len) {e sz : Nat} {es : List AV} (hg : getH s.H k = some (.own e sz es))
    {i ie : TyI} (ht : T.get t = some i) (hd : i.desc = .slice e) (hte : T.get e = some ie) (hz : ie.zero.cells.size = sz) (hone : ie.zero.cells.all (·.oneCell') = true) (hpos : 0 < sz)
    (h : setHK s.H k (.own e sz (es.take off)) fun H => setD N s.sl o.dst (.p (.tup [])) fun sl => K ⟨sl, H⟩) : OpK P N s o K := by
  refine ⟨fun σ β a w hr Q => ?_⟩
  have hx' := evalO_rep hr.slots x
  rw [hx] at hx'
  generalize hxe : a.eval x = v at hx'
  obtain ⟨H', hK, h3, h4, h5⟩ := setHK_spec hr.heap.nodup h
  have hlab := getH_label hg
  have hu := hT.of ht
  rw [hd] at hu
  have hue := hT _ _ hte
  have htup : RepL σ β (.p (.tup [])) (.tuple #[]) := .p (.tup [] #[] (fun _ => undef) rfl (by simp) (by simp))
  have hbc : ∀ {w'} , (Builtin.clear_ #[t] o.type #[v]).run P w = .ok (.tuple #[]) w' → (execOp a.eval o).run P w = .ok (.value (.tuple #[])) w' := fun {w'} hc => by
    simp [execOp, hop, resolve, invoke, builtin, hxe, hc]
  have hch := hr.heap.chunks k _ (getH_mem hg)
  -- nothing to clear
  have none' : len = 0 → (Builtin.clear_ #[t] o.type #[v]).run P w = .ok (.tuple #[]) w → (o.wp P a w (fun a' w' => ∃ σ' β' s', K s' ∧ Rel N σ' β' s' a' w' ∧ Later σ β s.H w σ' β' s'.H w') Q) := fun _ hrun => by
    have hheap : HRel σ β H' w ∧ Later σ β s.H w σ β H' w := by
      refine ⟨⟨hr.heap.mem, fun j c hj => ?_, by rw [h3]; exact hr.heap.nodup, fun j hj => hr.heap.apart j (h3 ▸ hj), fun j hj j' hj' => hr.heap.inj j (h3 ▸ hj) j' (h3 ▸ hj')⟩, Mem.le_refl σ, Frm.refl _ w, fun b h0 h1 => absurd h0 h1, fun b ⟨j, hj, r⟩ => .inl ⟨j, h3 ▸ hj, r⟩, fun _ _ _ => rfl⟩
      by_cases hjk : j = k
      · subst hjk
        rw [h5 c hj]
        rcases hch with ⟨h6, h7⟩ | ⟨bi, vs, h6, h7, h8, h9, h10, h11, h12⟩
        · exact .inl ⟨h6, by rw [h7]; simp⟩
        · exact .inr ⟨bi, vs, h6, h7, h8, h9, by simp; omega, h11, fun m x hx => h12 m x (by rw [List.getElem?_take] at hx; split at hx; exact hx; cases hx)⟩
      · exact hr.heap.chunks j c (h4 j c hj hjk)
    have hr1 : Rel N σ β ⟨s.sl, H'⟩ a w := ⟨hr.size, hr.defers, hr.slots, hheap.1⟩
    obtain ⟨sl, hK, hr2⟩ := hr1.setD htup hK
    exact wp_value (hbc hrun) ⟨σ, β, _, hK, hr2, hheap.2⟩
  rcases hx'.hdI with ⟨hk0, hoff, hlen, hv⟩ | ⟨bi, oo, hk, hfit, hoo, hv⟩
  · subst hv
    refine none' hlen ?_
    simp [Builtin.clear_, run_underlying hu]
  by_cases hl0 : len = 0
  · subst hl0 hv
    refine none' rfl ?_
    simp [Builtin.clear_, run_underlying hu]
  rcases hch with ⟨h6, _⟩ | ⟨bi', vs, h6, h7, h8, h9, h10, h11, h12⟩
  · rw [hk] at h6; cases h6
  rw [hk] at h6; cases h6
  have hoo : oo = off * sz := by
    rcases hoo with hoo | ⟨h13, _⟩
    · rw [hoo, h7]
    · omega
  obtain ⟨zs, hzs⟩ : ∃ zs, zs = (Builtin.zeroCells ie.zero.cells len).toList := ⟨_, rfl⟩
  have hzl : zs.length = len * sz := by rw [hzs]; simp [Builtin.zeroCells, hz]
  have hz1 : ∀ v ∈ zs, v.oneCell' = true := fun v hv => by
    rw [hzs] at hv
    simp only [Builtin.zeroCells, Array.toList_map, List.mem_map] at hv
    obtain ⟨q, hq, rfl⟩ := hv
    have hlt : q % ie.zero.cells.size < ie.zero.cells.size := Nat.mod_lt _ (by omega)
    rw [getElem!_pos ie.zero.cells (q % ie.zero.cells.size) hlt]
    exact Array.all_eq_true.1 hone _ hlt
  have hend : off * sz + len * sz ≤ vs.size := by
    rw [h9, ← Nat.add_mul]
    exact Nat.mul_le_mul_right _ hfit
  have hst := run_storeCells_cells (P := P) bi.blk oo zs 0 w (fun j hj => by
      have : oo + 0 + j < vs.size := by omega
      simp only [World.cell?, h8]
      rw [Array.getElem?_eq_getElem this]
      rfl) (fun j hj => by simp [World.frozen?, h8]) hz1
  have hrun : (Builtin.clear_ #[t] o.type #[v]).run P w = .ok (.tuple #[]) (w.setCells bi.blk oo zs) := by
    subst hv
    have hzv : (zeroValue e).run P w = .ok ie.zero w := by
      have := hue.info
      cases hq : P.info? e with
      | none => rw [hq] at this; cases this
      | some f =>
        rw [hq] at this
        simp at this
        simp [zeroValue, typeInfo, hq, this]
    obtain ⟨len', rfl⟩ : ∃ l', len = l' + 1 := ⟨len - 1, by omega⟩
    simp only [Nat.add_zero] at hst
    simp [Builtin.clear_, Sem.run_bind, run_underlying hu, hzv, ← hzs, hst]
  obtain ⟨s1, s2⟩ := setCells_own zs oo h8
  have hnew : (Chunk.own e sz (es.take off)).holds σ β (w.setCells bi.blk oo zs) k := by
    refine .inr ⟨bi, _, hk, h7, s1, by rw [setL_size]; exact h9, by simp; omega, h11, fun m x hx => ?_⟩
    rw [List.getElem?_take] at hx
    split at hx
    · rename_i hm
      obtain ⟨h13, h14⟩ := h12 m x hx
      refine ⟨h13, fun j c hj => ?_⟩
      obtain ⟨u, h15, h16⟩ := h14 j c hj
      have hjl : j < sz := by rw [← h13]; exact (List.getElem?_eq_some_iff.1 hj).1
      have hlt : m * sz + j < off * sz := by
        have : (m + 1) * sz ≤ off * sz := Nat.mul_le_mul_right _ hm
        rw [Nat.add_mul] at this
        omega
      exact ⟨u, by rw [setL_get _ _ _ _ (by omega), if_neg (by omega)]; exact h15, h16⟩
    · cases hx
  obtain ⟨hh, hl⟩ := heap_in hr.heap hlab hk s2 h3 h4 h5 hnew
  have hr1 : Rel N σ β ⟨s.sl, H'⟩ a (w.setCells bi.blk oo zs) := ⟨hr.size, hr.defers, hr.slots, hh⟩
  obtain ⟨sl, hK, hr2⟩ := hr1.setD htup hK
  exact wp_value (hbc hrun) ⟨σ, β, _, hK, hr2, hl⟩
end
end Go.Ab
namespace Go.Ab
open Go.Proofs
def compFrom (p : Step) : List Step → List Step
  | [] => []
  | b :: r => bif sameStep b p then compFrom b r else b :: compFrom b r
def compF : List Step → List Step
  | [] => []
  | a :: r => a :: compFrom a r
theorem compF_small {l : List Step} (h : l.length < 2) : compF l = l := by
  match l, h with
  | [], _ => rfl
  | [a], _ => rfl
def avS (l : List Step) : List AV := l.map fun s => .agg s.cells
set_option maxHeartbeats 4000000 in
set_option maxRecDepth 100000 in
theorem slices_CompactFunc (l : List Step) (hlen : l.length ≤ 1000000000) :
    SpecH Tryz.prog 205 [.hd 1000 0 l.length, .p (.fn 206 [])] [(1000, .own 45 3 (avS l))]
      (fun r H => r = .hd 1000 0 (compF l).length ∧ H = [(1000, .own 45 3 (avS (compF l)))]) := by
  refine SpecH.body I_slices_CompactFunc_api_Step_api_Step_ tabOK Tryz.func205 rfl Tryz.call205 (by show 2 ≤ _; decide) ?_
  conv => whnf
  repeat' (
    first
    | (intro (_ : _ ≤ 9223372036854775807); conv => whnf)
    | (refine Br.dec (fun _ => ?_) (fun _ => ?_) <;> first | (exfalso; omega) | conv => whnf)
    | (refine Br.dec2 (fun _ => ?_) (fun _ => ?_) <;> first | (exfalso; omega) | conv => whnf)
    | (refine DrawK.auto tabOK mixed (by kernel_rfl) ?_; conv => whnf)
    | (refine Br.n (fun _ => ?_) (fun _ => ?_) <;> conv => whnf)
    | (refine Br.b (fun _ => ?_) (fun _ => ?_) <;> conv => whnf)
    | (refine And.intro rfl ?_; conv => whnf)
    | (refine And.intro ⟨by decide, by decide⟩ ?_; conv => whnf)
    | (refine And.intro ⟨rfl, rfl, by decide⟩ ?_; conv => whnf)
    | (refine BsK.pure (fun x hx => by rcases List.mem_singleton.1 hx with rfl; rfl) rfl ?_; conv => whnf)
    | (refine IdxK.map (by omega) (fun _ => rfl) ?_; conv => whnf)
    | (refine IdxK.xs (by omega) ?_; conv => whnf)
    | (refine IdxK.ss (by omega) ?_; conv => whnf)
    | (refine ByteK.at (by omega) ?_; conv => whnf)
    | (refine Wr.i64 (by omega) (by omega) ?_; conv => whnf))
  · have e : compF l = l := compF_small (by omega)
    rw [e]
    exact ⟨_, LSub.refl _, rfl, rfl⟩
  refine LoopK.inv tabOK (fun k : Nat => ⟨[(0, .hd 1000 0 l.length), (1, .p (.fn 206 [])), (5, .p (.int .i64 k))], [(1000, .own 45 3 (avS l))]⟩)
    (fun k => 1 ≤ k ∧ k ≤ l.length ∧ ∃ a, l[k - 1]? = some a ∧ l.take k ++ compFrom a (l.drop k) = compF l) (fun k => l.length - k) 1 (Le.of_eq rfl) ⟨Nat.le_refl _, by omega, ?_⟩ ?_
  · cases l with
    | nil => simp at *
    | cons a r => exact ⟨a, rfl, rfl⟩
  rintro k ⟨h1, h2, a, ha, h3⟩
  rcases Nat.lt_or_ge k l.length with hk | hk
  rotate_left 1
  · rw [List.drop_eq_nil_of_le hk, List.take_of_length_le hk] at h3
    conv => whnf
    repeat' (
      first
      | (intro (_ : _ ≤ 9223372036854775807); conv => whnf)
      | (refine Br.dec (fun _ => ?_) (fun _ => ?_) <;> first | (exfalso; omega) | conv => whnf)
      | (refine Br.dec2 (fun _ => ?_) (fun _ => ?_) <;> first | (exfalso; omega) | conv => whnf)
      | (refine DrawK.auto tabOK mixed (by kernel_rfl) ?_; conv => whnf)
      | (refine Br.n (fun _ => ?_) (fun _ => ?_) <;> conv => whnf)
      | (refine Br.b (fun _ => ?_) (fun _ => ?_) <;> conv => whnf)
      | (refine And.intro rfl ?_; conv => whnf)
      | (refine And.intro ⟨by decide, by decide⟩ ?_; conv => whnf)
      | (refine And.intro ⟨rfl, rfl, by decide⟩ ?_; conv => whnf)
      | (refine BsK.pure (fun x hx => by rcases List.mem_singleton.1 hx with rfl; rfl) rfl ?_; conv => whnf)
      | (refine IdxK.map (by omega) (fun _ => rfl) ?_; conv => whnf)
      | (refine IdxK.xs (by omega) ?_; conv => whnf)
      | (refine IdxK.ss (by omega) ?_; conv => whnf)
      | (refine ByteK.at (by omega) ?_; conv => whnf)
      | (refine Wr.i64 (by omega) (by omega) ?_; conv => whnf))
    rw [← h3, compFrom, List.append_nil]
    exact ⟨_, LSub.refl _, rfl, rfl⟩
  rw [List.drop_eq_getElem_cons hk, compFrom] at h3
  have hk1 : k - 1 < l.length := by omega
  obtain ⟨_, ha'⟩ := List.getElem?_eq_some_iff.1 ha
  have gk : (avS l)[k]? = some (.agg l[k].cells) := by simp [avS, hk]
  have gk1 : (avS l)[k - 1]? = some (.agg a.cells) := by simp [avS, ha]
  conv => whnf
  repeat' (
    first
    | (intro (_ : _ ≤ 9223372036854775807); conv => whnf)
    | (refine Br.dec (fun _ => ?_) (fun _ => ?_) <;> first | (exfalso; omega) | conv => whnf)
    | (refine Br.dec2 (fun _ => ?_) (fun _ => ?_) <;> first | (exfalso; omega) | conv => whnf)
    | (refine DrawK.auto tabOK mixed (by kernel_rfl) ?_; conv => whnf)
    | (refine Br.n (fun _ => ?_) (fun _ => ?_) <;> conv => whnf)
    | (refine Br.b (fun _ => ?_) (fun _ => ?_) <;> conv => whnf)
    | (refine CallK.pure (flat_Sort_2 _ _) (by repeat' (first | exact ArgP.nil | refine ArgP.cons ?_ ?_ | exact Sub.refl _ | exact Sub.tt rfl | exact Sub.ff rfl)) ?_; rintro _ rfl; conv => whnf)
    | (refine And.intro rfl ?_; conv => whnf)
    | (refine And.intro ⟨by decide, by decide⟩ ?_; conv => whnf)
    | (refine And.intro ⟨rfl, rfl, by decide⟩ ?_; conv => whnf)
    | (refine BsK.pure (fun x hx => by rcases List.mem_singleton.1 hx with rfl; rfl) rfl ?_; conv => whnf)
    | (refine IdxK.map (by omega) (fun _ => rfl) ?_; conv => whnf)
    | (refine IdxK.xs (by omega) ?_; conv => whnf)
    | (refine IdxK.ss (by omega) ?_; conv => whnf)
    | (refine ByteK.at (by omega) ?_; conv => whnf)
    | (refine Wr.i64 (by omega) (by omega) ?_; conv => whnf)
    | (refine IdxL.mk k (by omega) (by omega) ?_; conv => whnf)
    | (refine IdxL.mk (k - 1) (by omega) (by omega) ?_; conv => whnf)
    | (refine LdOwn.mk k 0 (.agg l[k].cells) (by omega) gk ?_; conv => whnf)
    | (refine LdOwn.mk (k - 1) 0 (.agg a.cells) (by omega) gk1 ?_; conv => whnf)
    | (refine SlK.mk k l.length rfl rfl (by omega) (by omega) ?_; conv => whnf))
  rotate_left 1
  · have hsm : sameStep l[k] a = false := by assumption
    rw [hsm, cond_false] at h3
    exact ⟨k + 1, ⟨by omega, by omega, l[k], by simp [hk], by rw [← h3, List.take_succ_eq_append_getElem hk, List.append_assoc]; rfl⟩, by omega, Le.of_eq rfl⟩
  have hsm : sameStep l[k] a = true := by assumption
  rw [hsm, cond_true] at h3
  clear ha ha' gk gk1 hk1 hsm
  refine LoopK.inv tabOK (fun x : Nat × Nat × List Step => ⟨[(0, .hd 1000 0 l.length), (1, .p (.fn 206 [])), (5, .p (.int .i64 x.2.1)), (6, .hd 1000 (0 + k) (l.length - k)), (7, .p (.int .i64 x.1))], [(1000, .own 45 3 (avS x.2.2))]⟩)
    (fun x => 1 ≤ x.1 ∧ x.1 ≤ l.length - k ∧ x.2.1 ≤ k + x.1 - 1 ∧ x.2.2.length = l.length ∧ x.2.2.drop (k + x.1 - 1) = l.drop (k + x.1 - 1) ∧ ∃ a, l[k + x.1 - 1]? = some a ∧ x.2.2.take x.2.1 ++ compFrom a (l.drop (k + x.1)) = compF l) (fun x => l.length - k - x.1) (1, k, l) (Le.of_eq rfl) ⟨Nat.le_refl _, by simp only; omega, by simp only; omega, rfl, rfl, l[k], by simp [hk], h3⟩ ?_
  rintro ⟨q, i, es⟩ ⟨h4, h5, h6, h7, h8, a, ha, h9⟩
  clear h3
  simp only at h4 h5 h6 h7 h8 ha h9 ⊢
  have hes : (avS es).length = l.length := by simp [avS, h7]
  rcases Nat.lt_or_ge q (l.length - k) with hq | hq
  · have hkq : k + q < l.length := by omega
    have e1 : es[k + q]? = l[k + q]? := by
      have := congrArg (fun x => x[1]?) h8
      simp only [List.getElem?_drop] at this
      rwa [show k + q - 1 + 1 = k + q by omega] at this
    have e2 : es[k + q - 1]? = some a := by
      have := congrArg (fun x => x[0]?) h8
      simp only [List.getElem?_drop, Nat.add_zero] at this
      rw [this, ha]
    rw [List.getElem?_eq_getElem hkq] at e1
    have gk : (avS es)[k + q]? = some (.agg l[k + q].cells) := by simp [avS, e1]
    have gk1 : (avS es)[k + q - 1]? = some (.agg a.cells) := by simp [avS, e2]
    have hi : i < es.length := by omega
    have gi : (avS es)[i]? = some (.agg es[i].cells) := by simp [avS, hi]
    rw [List.drop_eq_getElem_cons hkq, compFrom] at h9
    conv => whnf
    repeat' (
      first
      | (intro (_ : _ ≤ 9223372036854775807); conv => whnf)
      | (refine Br.dec (fun _ => ?_) (fun _ => ?_) <;> first | (exfalso; omega) | conv => whnf)
      | (refine Br.dec2 (fun _ => ?_) (fun _ => ?_) <;> first | (exfalso; omega) | conv => whnf)
      | (refine DrawK.auto tabOK mixed (by kernel_rfl) ?_; conv => whnf)
      | (refine Br.n (fun _ => ?_) (fun _ => ?_) <;> conv => whnf)
      | (refine Br.b (fun _ => ?_) (fun _ => ?_) <;> conv => whnf)
      | (refine CallK.pure (flat_Sort_2 _ _) (by repeat' (first | exact ArgP.nil | refine ArgP.cons ?_ ?_ | exact Sub.refl _ | exact Sub.tt rfl | exact Sub.ff rfl)) ?_; rintro _ rfl; conv => whnf)
      | (refine And.intro rfl ?_; conv => whnf)
      | (refine And.intro ⟨by decide, by decide⟩ ?_; conv => whnf)
      | (refine And.intro ⟨rfl, rfl, by decide⟩ ?_; conv => whnf)
      | (refine BsK.pure (fun x hx => by rcases List.mem_singleton.1 hx with rfl; rfl) rfl ?_; conv => whnf)
      | (refine IdxK.map (by omega) (fun _ => rfl) ?_; conv => whnf)
      | (refine IdxK.xs (by omega) ?_; conv => whnf)
      | (refine IdxK.ss (by omega) ?_; conv => whnf)
      | (refine ByteK.at (by omega) ?_; conv => whnf)
      | (refine Wr.i64 (by omega) (by omega) ?_; conv => whnf)
      | (refine IdxL.mk q (by omega) (by omega) ?_; conv => whnf)
      | (refine IdxL.mk (q - 1) (by omega) (by omega) ?_; conv => whnf)
      | (refine IdxL.mk i (by omega) (by omega) ?_; conv => whnf)
      | (refine LdOwn.mk (k+q) 0 (.agg l[k+q].cells) (by omega) gk ?_; conv => whnf)
      | (refine LdOwn.mk (k+q-1) 0 (.agg a.cells) (by omega) gk1 ?_; conv => whnf)
      | (refine StOwn.mk i 0 (.agg es[i].cells) (.agg l[k+q].cells) (by omega) gi (show 3 ≤ 3 from Nat.le_refl 3) rfl ?_; conv => whnf))
    · have hsm : sameStep l[k + q] a = true := by assumption
      rw [hsm, cond_true] at h9
      exact ⟨(q + 1, i, es), ⟨by simp only; omega, by simp only; omega, by simp only; omega, h7, by
        have := congrArg (List.drop 1) h8
        simp only [List.drop_drop] at this
        simpa only [show k + (q + 1) - 1 = k + q - 1 + 1 by omega] using this, l[k + q], by simp [hkq], h9⟩, by simp only; omega, Le.of_eq rfl⟩
    · have hsm : sameStep l[k + q] a = false := by assumption
      rw [hsm, cond_false] at h9
      have h10 : (es.set i l[k + q]).drop (k + q) = l.drop (k + q) := by
        rw [List.drop_set_of_lt (by omega)]
        have := congrArg (List.drop 1) h8
        simp only [List.drop_drop] at this
        rwa [show k + q - 1 + 1 = k + q by omega] at this
      exact ⟨(q + 1, i + 1, es.set i l[k + q]), ⟨by simp only; omega, by simp only; omega, by simp only; omega, by simp only [List.length_set]; exact h7, h10, l[k + q], by simp [hkq], by
        simp only
        rw [← h9, List.take_succ_eq_append_getElem (by simp; omega), List.take_set_of_le (by omega), List.getElem_set_self, List.append_assoc]
        rfl⟩, by simp only; omega, Le.of_eq (by simp only [avS, List.map_set]; rfl)⟩
  · have hqe : k + q = l.length := by omega
    rw [hqe, List.drop_length, compFrom, List.append_nil] at h9
    conv => whnf
    repeat' (
      first
      | (intro (_ : _ ≤ 9223372036854775807); conv => whnf)
      | (refine Br.dec (fun _ => ?_) (fun _ => ?_) <;> first | (exfalso; omega) | conv => whnf)
      | (refine Br.dec2 (fun _ => ?_) (fun _ => ?_) <;> first | (exfalso; omega) | conv => whnf)
      | (refine DrawK.auto tabOK mixed (by kernel_rfl) ?_; conv => whnf)
      | (refine Br.n (fun _ => ?_) (fun _ => ?_) <;> conv => whnf)
      | (refine Br.b (fun _ => ?_) (fun _ => ?_) <;> conv => whnf)
      | (refine And.intro rfl ?_; conv => whnf)
      | (refine And.intro ⟨by decide, by decide⟩ ?_; conv => whnf)
      | (refine And.intro ⟨rfl, rfl, by decide⟩ ?_; conv => whnf)
      | (refine BsK.pure (fun x hx => by rcases List.mem_singleton.1 hx with rfl; rfl) rfl ?_; conv => whnf)
      | (refine IdxK.map (by omega) (fun _ => rfl) ?_; conv => whnf)
      | (refine IdxK.xs (by omega) ?_; conv => whnf)
      | (refine IdxK.ss (by omega) ?_; conv => whnf)
      | (refine ByteK.at (by omega) ?_; conv => whnf)
      | (refine Wr.i64 (by omega) (by omega) ?_; conv => whnf)
      | (refine SlK.mk i l.length rfl rfl (by omega) (by omega) ?_; conv => whnf)
      | (refine SlK.mk 0 i rfl rfl (by omega) (by omega) ?_; conv => whnf))
    refine OpK.clear tabOK rfl rfl rfl rfl rfl rfl rfl (by kernel_rfl) (by decide) ?_
    conv => whnf
    repeat' (
      first
      | (intro (_ : _ ≤ 9223372036854775807); conv => whnf)
      | (refine Br.dec (fun _ => ?_) (fun _ => ?_) <;> first | (exfalso; omega) | conv => whnf)
      | (refine Br.dec2 (fun _ => ?_) (fun _ => ?_) <;> first | (exfalso; omega) | conv => whnf)
      | (refine DrawK.auto tabOK mixed (by kernel_rfl) ?_; conv => whnf)
      | (refine Br.n (fun _ => ?_) (fun _ => ?_) <;> conv => whnf)
      | (refine Br.b (fun _ => ?_) (fun _ => ?_) <;> conv => whnf)
      | (refine And.intro rfl ?_; conv => whnf)
      | (refine And.intro ⟨by decide, by decide⟩ ?_; conv => whnf)
      | (refine And.intro ⟨rfl, rfl, by decide⟩ ?_; conv => whnf)
      | (refine BsK.pure (fun x hx => by rcases List.mem_singleton.1 hx with rfl; rfl) rfl ?_; conv => whnf)
      | (refine IdxK.map (by omega) (fun _ => rfl) ?_; conv => whnf)
      | (refine IdxK.xs (by omega) ?_; conv => whnf)
      | (refine IdxK.ss (by omega) ?_; conv => whnf)
      | (refine ByteK.at (by omega) ?_; conv => whnf)
      | (refine Wr.i64 (by omega) (by omega) ?_; conv => whnf)
      | (refine SlK.mk 0 i rfl rfl (by omega) (by omega) ?_; conv => whnf))
    have hl : i = (compF l).length := by rw [← h9]; simp; omega
    exact ⟨_, LSub.of_eq (by rw [← hl]; rfl), rfl, by rw [Nat.zero_add, ← h9]; simp [avS, List.map_take]⟩
def normS (l : List Step) : List Step := compF (sortSt l)
set_option maxHeartbeats 1000000 in
set_option maxRecDepth 100000 in
theorem flat_Sort (l : List Step) (hok : ∀ s ∈ l, okSt s) (hlen : l.length ≤ 1000000000) :
    SpecH Tryz.prog 143 [.hd 1000 0 l.length] [(1000, .own 45 3 (avS l))] (fun r H => r = .hd 1000 0 (normS l).length ∧ H = [(1000, .own 45 3 (avS (normS l)))]) := by
  refine SpecH.body I_flat_Sort tabOK Tryz.func143 rfl Tryz.call143 (by show 1 ≤ _; decide) ?_
  conv => whnf
  repeat' (
    first
    | (intro (_ : _ ≤ 9223372036854775807); conv => whnf)
    | (refine Br.dec (fun _ => ?_) (fun _ => ?_) <;> first | (exfalso; omega) | conv => whnf)
    | (refine Br.dec2 (fun _ => ?_) (fun _ => ?_) <;> first | (exfalso; omega) | conv => whnf)
    | (refine DrawK.auto tabOK mixed (by kernel_rfl) ?_; conv => whnf)
    | (refine Br.n (fun _ => ?_) (fun _ => ?_) <;> conv => whnf)
    | (refine Br.b (fun _ => ?_) (fun _ => ?_) <;> conv => whnf)
    | (refine And.intro rfl ?_; conv => whnf)
    | (refine And.intro ⟨by decide, by decide⟩ ?_; conv => whnf)
    | (refine And.intro ⟨rfl, rfl, by decide⟩ ?_; conv => whnf)
    | (refine BsK.pure (fun x hx => by rcases List.mem_singleton.1 hx with rfl; rfl) rfl ?_; conv => whnf)
    | (refine IdxK.map (by omega) (fun _ => rfl) ?_; conv => whnf)
    | (refine IdxK.xs (by omega) ?_; conv => whnf)
    | (refine IdxK.ss (by omega) ?_; conv => whnf)
    | (refine ByteK.at (by omega) ?_; conv => whnf)
    | (refine Wr.i64 (by omega) (by omega) ?_; conv => whnf)
    | (refine CallK.heap [(1000, 1000)] 0 (by repeat' (first | exact ArgsH.nil | refine ArgsH.cons ?_ ?_ | exact LSub.refl _ | exact LSub.p Sub.nils | exact LSub.p (Sub.tt rfl) | exact LSub.p (Sub.ff rfl) | exact LSub.p (Sub.int (by omega)))) (by refine BlksH.cons (j := 1000) rfl rfl ?_ ?_; exact CSub.refl _; exact BlksH.nil) (slices_SortFunc l hok hlen) rfl rfl ?_; rintro l' H' ⟨rfl, rfl⟩; conv => whnf)
    | (refine CallK.heap [(1000, 1000)] 0 (ArgsH.cons (LSub.of_eq (by rw [sortSt_len]; rfl)) (ArgsH.cons (LSub.refl _) ArgsH.nil)) (by refine BlksH.cons (j := 1000) rfl rfl ?_ ?_; exact CSub.refl _; exact BlksH.nil) (slices_CompactFunc (sortSt l) (by rw [sortSt_len]; exact hlen)) rfl rfl ?_; rintro l' H' ⟨rfl, rfl⟩; conv => whnf))
  exact ⟨_, LSub.refl _, rfl, rfl⟩
end Go.Ab
namespace Go.Ab
open Go.Proofs
def goesI (sh : Sheet) (f : Pr) (it : Item) : List Int :=
  if it.s.kind = 5 then [headI it.s.thn it.next, headI it.s.els it.next]
  else if it.s.kind = 6 then [headI it.s.thn it.s.id, it.next]
  else if it.s.kind = 7 then [((sh.l[(it.loop - 1).toNat]?).map Item.next).getD 0]
  else if it.s.kind = 8 then [it.loop]
  else if it.s.kind = 9 then [-1]
  else if it.s.kind = 10 then [(atB f it.s.name).1]
  else [it.next]
theorem flat_headS (l : List S) (o : Int) : SpecP Tryz.prog 226 [eSs l, .int .i64 o] (fun r => r = .int .i64 (headI l o)) := by
  unfold eSs
  rw [S.avs_eq]
  exact flat_head l o
set_option maxHeartbeats 1000000 in
set_option maxRecDepth 100000 in
theorem flat_Sheet_goes (p : Pg) (j : Nat) (f : Pr) (hj : p.procs[j]? = some f) (hc : cntP p.procs ≤ 1000) (it : Item) (hp : it.proc = j) (hl : it.s.kind = 7 → 1 ≤ it.loop ∧ it.loop ≤ (sheetOf p).l.length) : SpecP Tryz.prog 175 [.ip (sheetOf p).cells, .agg it.cells] (fun r => r = eInts (goesI (sheetOf p) f it)) := by
  refine SpecP.body I_flat_Sheet_goes tabOK Tryz.func175 rfl Tryz.call175 (by show 2 ≤ _; decide) ?_
  conv => whnf
  have hlen := (sheet_spec p).2.2.2.1
  have hx : it.s.kind = 7 → ∃ u, (sheetOf p).l[(it.loop - 1).toNat]? = some u ∧ ((sheetOf p).l.map fun i => AV.agg i.cells)[(it.loop - 1).toNat]? = some (.agg u.cells) := fun h => by
    have := hl h
    have hlt : (it.loop - 1).toNat < (sheetOf p).l.length := by omega
    exact ⟨_, List.getElem?_eq_getElem hlt, by rw [List.getElem?_map, List.getElem?_eq_getElem hlt]; rfl⟩
  repeat' (
    first
    | (intro (_ : _ ≤ 9223372036854775807); conv => whnf)
    | (refine Br.dec (fun _ => ?_) (fun _ => ?_) <;> first | (exfalso; omega) | conv => whnf)
    | (refine Br.dec2 (fun _ => ?_) (fun _ => ?_) <;> first | (exfalso; omega) | conv => whnf)
    | (refine DrawK.auto tabOK mixed (by kernel_rfl) ?_; conv => whnf)
    | (refine Br.n (fun _ => ?_) (fun _ => ?_) <;> conv => whnf)
    | (refine Br.b (fun _ => ?_) (fun _ => ?_) <;> conv => whnf)
    | (refine And.intro rfl ?_; conv => whnf)
    | (refine And.intro ⟨by decide, by decide⟩ ?_; conv => whnf)
    | (refine And.intro ⟨rfl, rfl, by decide⟩ ?_; conv => whnf)
    | (refine BsK.pure (fun x hx => by rcases List.mem_singleton.1 hx with rfl; rfl) rfl ?_; conv => whnf)
    | (refine IdxK.map (by omega) (fun _ => rfl) ?_; conv => whnf)
    | (refine IdxK.xs (by omega) ?_; conv => whnf)
    | (refine IdxK.ss (by omega) ?_; conv => whnf)
    | (refine ByteK.at (by omega) ?_; conv => whnf)
    | (refine Wr.i64 (by omega) (by omega) ?_; conv => whnf)
    | (refine CallK.pure (flat_Sheet_At p j f hj hc it.s.name) (.cons (Sub.refl _) (.cons (Sub.int hp) (.cons (Sub.refl _) .nil))) ?_; rintro _ rfl; conv => whnf)
    | (refine BsK.pureL rfl rfl ?_; conv => whnf)
    | (refine CallK.pure (flat_headS it.s.thn _) (.cons (Sub.refl _) (.cons (Sub.refl _) .nil)) ?_; rintro _ rfl; conv => whnf)
    | (refine CallK.pure (flat_headS it.s.els _) (.cons (Sub.refl _) (.cons (Sub.refl _) .nil)) ?_; rintro _ rfl; conv => whnf)
    | (refine Wr.i64 (by have := hl (by assumption); omega) (by have := hl (by assumption); omega) ?_; conv => whnf)
    | (obtain ⟨u, hu1, hu2⟩ := hx (by assumption); refine IdxK.at (by have := hl (by assumption); omega) hu2 rfl ?_; conv => whnf))
  all_goals first
    | exact RetK.p (by unfold goesI; rw [if_neg (by assumption), if_neg (by assumption), if_pos (by assumption), hu1]; rfl)
    | exact RetK.p (by unfold goesI; rw [if_pos (by assumption)]; rfl)
    | exact RetK.p (by unfold goesI; rw [if_neg (by assumption), if_pos (by assumption)]; rfl)
    | exact RetK.p (by unfold goesI; rw [if_neg (by assumption), if_neg (by assumption), if_neg (by assumption), if_pos (by assumption)]; rfl)
    | exact RetK.p (by unfold goesI; rw [if_neg (by assumption), if_neg (by assumption), if_neg (by assumption), if_neg (by assumption), if_pos (by assumption)]; rfl)
    | exact RetK.p (by unfold goesI; rw [if_neg (by assumption), if_neg (by assumption), if_neg (by assumption), if_neg (by assumption), if_neg (by assumption), if_pos (by assumption)]; rfl)
    | exact RetK.p (by unfold goesI; rw [if_neg (by assumption), if_neg (by assumption), if_neg (by assumption), if_neg (by assumption), if_neg (by assumption), if_neg (by assumption)]; rfl)
def stepsRaw (p : Pg) (j : Nat) (f : Pr) : List Step :=
  ⟨0, if offN p.procs j < offN p.procs j + cntL f.body then ((offN p.procs j : Nat) + 1 : Int) else -1, 1⟩ :: (itL j 0 (-1) 0 (offN p.procs j) f.body).flatMap fun it => (goesI (sheetOf p) f it).map (Step.mk it.s.id · 1)
def itsOf (p : Pg) (j : Nat) (f : Pr) : List Item := itL j 0 (-1) 0 (offN p.procs j) f.body
set_option maxHeartbeats 2000000 in
set_option maxRecDepth 100000 in
theorem flat_Sheet_Steps (p : Pg) (j : Nat) (f : Pr) (hj : p.procs[j]? = some f) (hc : cntP p.procs ≤ 1000) (hl : ∀ it ∈ itsOf p j f, it.s.kind = 7 → 1 ≤ it.loop ∧ it.loop ≤ (sheetOf p).l.length) (hok : ∀ s ∈ stepsRaw p j f, okSt s) : SpecP Tryz.prog 127 [.ip (sheetOf p).cells, .int .i64 j] (fun r => r = eSteps (normS (stepsRaw p j f))) := by
  refine SpecP.body I_flat_Sheet_Steps tabOK Tryz.func127 rfl Tryz.call127 (by show 2 ≤ _; decide) ?_
  conv => whnf
  obtain ⟨_, _, _, hlen, hsp⟩ := sheet_spec p
  obtain ⟨hlo, hhi, hle, _⟩ := hsp j f hj
  repeat' (
    first
    | (intro (_ : _ ≤ 9223372036854775807); conv => whnf)
    | (refine Br.dec (fun _ => ?_) (fun _ => ?_) <;> first | (exfalso; omega) | conv => whnf)
    | (refine Br.dec2 (fun _ => ?_) (fun _ => ?_) <;> first | (exfalso; omega) | conv => whnf)
    | (refine DrawK.auto tabOK mixed (by kernel_rfl) ?_; conv => whnf)
    | (refine Br.n (fun _ => ?_) (fun _ => ?_) <;> conv => whnf)
    | (refine Br.b (fun _ => ?_) (fun _ => ?_) <;> conv => whnf)
    | (refine And.intro rfl ?_; conv => whnf)
    | (refine And.intro ⟨by decide, by decide⟩ ?_; conv => whnf)
    | (refine And.intro ⟨rfl, rfl, by decide⟩ ?_; conv => whnf)
    | (refine IdxK.map (by omega) (fun _ => rfl) ?_; conv => whnf)
    | (refine IdxK.xs (by omega) ?_; conv => whnf)
    | (refine IdxK.ss (by omega) ?_; conv => whnf)
    | (refine ByteK.at (by omega) ?_; conv => whnf)
    | (refine Wr.i64 (by omega) (by omega) ?_; conv => whnf)
    | (refine CallK.pure (flat_Sheet_First (sheetOf p) j _ _ hlo hhi) (.cons (Sub.refl _) (.cons (Sub.refl _) .nil)) ?_; rintro _ rfl; conv => whnf)
    | (refine CallK.pure (Of_at p hj hc) (.cons (Sub.refl _) (.cons (Sub.refl _) .nil)) ?_; rintro _ rfl; conv => whnf)
    | (refine BsK.own (fun x hx => by rcases List.mem_singleton.1 hx with rfl; rfl) rfl ?_; conv => whnf))
  have hraw : stepsRaw p j f = ⟨0, if offN p.procs j < offN p.procs j + cntL f.body then ((offN p.procs j : Nat) + 1 : Int) else -1, 1⟩ :: (itsOf p j f).flatMap fun it => (goesI (sheetOf p) f it).map (Step.mk it.s.id · 1) := rfl
  have hits : itL j 0 (-1) 0 (offN p.procs j) f.body = itsOf p j f := rfl
  have hpr : ∀ it ∈ itsOf p j f, it.proc = j := fun it h => itL_proc _ _ _ _ _ _ it h
  have hib : (itsOf p j f).length ≤ 1000 := by rw [← hits, itL_len]; omega
  rw [hits]
  generalize itsOf p j f = its at hl hraw hpr hib ⊢
  have hil := eItems_len its
  refine LoopK.inv tabOK (fun i : Nat × List Step => ⟨[(0, .p (.ip (sheetOf p).cells)), (5, .hd 0 0 i.2.length), (17, .p (eItems its)), (18, .p (.int .i64 (its.map fun i => AV.agg i.cells).length)), (19, .p (.int .i64 i.1))], [(0, .own 45 3 (avS i.2))]⟩)
    (fun i => i.1 ≤ its.length ∧ i.2.length ≤ 1 + 2 * i.1 ∧ i.2 ++ (its.drop i.1).flatMap (fun it => (goesI (sheetOf p) f it).map (Step.mk it.s.id · 1)) = stepsRaw p j f) (fun i => its.length - i.1) (0, [⟨0, if offN p.procs j < offN p.procs j + cntL f.body then ((offN p.procs j : Nat) + 1 : Int) else -1, 1⟩]) (Le.of_eq rfl) ⟨Nat.zero_le _, by simp, by rw [hraw]; rfl⟩ ?_
  rintro ⟨m, acc⟩ ⟨h2, h3, h4⟩
  simp only at h2 h3 h4 ⊢
  rcases Nat.lt_or_ge m its.length with hm | hm
  rotate_left 1
  · have hacc : acc = stepsRaw p j f := by
      rw [List.drop_eq_nil_of_le hm] at h4
      simpa using h4
    rw [← hacc] at hok ⊢
    conv => whnf
    repeat' (
      first
      | (intro (_ : _ ≤ 9223372036854775807); conv => whnf)
      | (refine Br.dec (fun _ => ?_) (fun _ => ?_) <;> first | (exfalso; omega) | conv => whnf)
      | (refine Br.dec2 (fun _ => ?_) (fun _ => ?_) <;> first | (exfalso; omega) | conv => whnf)
      | (refine DrawK.auto tabOK mixed (by kernel_rfl) ?_; conv => whnf)
      | (refine Br.n (fun _ => ?_) (fun _ => ?_) <;> conv => whnf)
      | (refine Br.b (fun _ => ?_) (fun _ => ?_) <;> conv => whnf)
      | (refine And.intro rfl ?_; conv => whnf)
      | (refine And.intro ⟨by decide, by decide⟩ ?_; conv => whnf)
      | (refine And.intro ⟨rfl, rfl, by decide⟩ ?_; conv => whnf)
      | (refine BsK.pure (fun x hx => by rcases List.mem_singleton.1 hx with rfl; rfl) rfl ?_; conv => whnf)
      | (refine IdxK.map (by omega) (fun _ => rfl) ?_; conv => whnf)
      | (refine IdxK.xs (by omega) ?_; conv => whnf)
      | (refine IdxK.ss (by omega) ?_; conv => whnf)
      | (refine ByteK.at (by omega) ?_; conv => whnf)
      | (refine Wr.i64 (by omega) (by omega) ?_; conv => whnf)
      | (refine CallK.heap [(1000, 0)] 0 (by repeat' (first | exact ArgsH.nil | refine ArgsH.cons ?_ ?_ | exact LSub.refl _ | exact LSub.p Sub.nils | exact LSub.p (Sub.tt rfl) | exact LSub.p (Sub.ff rfl) | exact LSub.p (Sub.int (by omega)))) (by refine BlksH.cons (j := 0) rfl rfl ?_ ?_; exact CSub.refl _; exact BlksH.nil) (flat_Sort acc hok (by omega)) rfl rfl ?_; rintro l' H' ⟨rfl, rfl⟩; conv => whnf))
    exact ⟨_, .hd rfl (by simp [avS]), rfl⟩
  have hgl : (goesI (sheetOf p) f its[m]).length ≤ 2 := by unfold goesI; split <;> (try split) <;> (try split) <;> (try split) <;> (try split) <;> (try split) <;> simp
  rw [flatMap_step hm] at h4
  have him := List.getElem_mem hm
  conv => whnf
  repeat' (
    first
    | (intro (_ : _ ≤ 9223372036854775807); conv => whnf)
    | (refine Br.dec (fun _ => ?_) (fun _ => ?_) <;> first | (exfalso; omega) | conv => whnf)
    | (refine Br.dec2 (fun _ => ?_) (fun _ => ?_) <;> first | (exfalso; omega) | conv => whnf)
    | (refine DrawK.auto tabOK mixed (by kernel_rfl) ?_; conv => whnf)
    | (refine Br.n (fun _ => ?_) (fun _ => ?_) <;> conv => whnf)
    | (refine Br.b (fun _ => ?_) (fun _ => ?_) <;> conv => whnf)
    | (refine And.intro rfl ?_; conv => whnf)
    | (refine And.intro ⟨by decide, by decide⟩ ?_; conv => whnf)
    | (refine And.intro ⟨rfl, rfl, by decide⟩ ?_; conv => whnf)
    | (refine BsK.pure (fun x hx => by rcases List.mem_singleton.1 hx with rfl; rfl) rfl ?_; conv => whnf)
    | (refine IdxK.map (by omega) (fun _ => rfl) ?_; conv => whnf)
    | (refine IdxK.xs (by omega) ?_; conv => whnf)
    | (refine IdxK.ss (by omega) ?_; conv => whnf)
    | (refine ByteK.at (by omega) ?_; conv => whnf)
    | (refine Wr.i64 (by omega) (by omega) ?_; conv => whnf)
    | (refine CallK.pure (flat_Sheet_goes p j f hj hc its[m] (hpr _ him) (hl _ him)) (.cons (Sub.refl _) (.cons (Sub.refl _) .nil)) ?_; rintro _ rfl; conv => whnf))
  generalize hgs : goesI (sheetOf p) f its[m] = gs at hgl h4 ⊢
  have hgsl : (gs.map (AV.int .i64)).length = gs.length := List.length_map _
  refine LoopK.inv tabOK (fun i : Nat × List Step => ⟨[(0, .p (.ip (sheetOf p).cells)), (5, .hd 0 0 i.2.length), (7, .p (.ip its[m].cells)), (17, .p (eItems its)), (18, .p (.int .i64 (its.map fun i => AV.agg i.cells).length)), (19, .p (.int .i64 m)), (25, .p (eInts gs)), (26, .p (.int .i64 (gs.map (AV.int .i64)).length)), (27, .p (.int .i64 i.1))], [(0, .own 45 3 (avS i.2))]⟩)
    (fun i => i.1 ≤ gs.length ∧ i.2.length ≤ acc.length + i.1 ∧ i.2 ++ ((gs.drop i.1).map (Step.mk its[m].s.id · 1) ++ (its.drop (m + 1)).flatMap (fun it => (goesI (sheetOf p) f it).map (Step.mk it.s.id · 1))) = stepsRaw p j f) (fun i => gs.length - i.1) (0, acc) (Le.of_eq rfl) ⟨Nat.zero_le _, by simp, h4⟩ ?_
  rintro ⟨q, acc2⟩ ⟨h5, h6, h7⟩
  simp only at h5 h6 h7 ⊢
  rcases Nat.lt_or_ge q gs.length with hq | hq
  rotate_left 1
  · rw [List.drop_eq_nil_of_le hq] at h7
    conv => whnf
    repeat' (
      first
      | (intro (_ : _ ≤ 9223372036854775807); conv => whnf)
      | (refine Br.dec (fun _ => ?_) (fun _ => ?_) <;> first | (exfalso; omega) | conv => whnf)
      | (refine Br.dec2 (fun _ => ?_) (fun _ => ?_) <;> first | (exfalso; omega) | conv => whnf)
      | (refine DrawK.auto tabOK mixed (by kernel_rfl) ?_; conv => whnf)
      | (refine Br.n (fun _ => ?_) (fun _ => ?_) <;> conv => whnf)
      | (refine Br.b (fun _ => ?_) (fun _ => ?_) <;> conv => whnf)
      | (refine And.intro rfl ?_; conv => whnf)
      | (refine And.intro ⟨by decide, by decide⟩ ?_; conv => whnf)
      | (refine And.intro ⟨rfl, rfl, by decide⟩ ?_; conv => whnf)
      | (refine BsK.pure (fun x hx => by rcases List.mem_singleton.1 hx with rfl; rfl) rfl ?_; conv => whnf)
      | (refine IdxK.map (by omega) (fun _ => rfl) ?_; conv => whnf)
      | (refine IdxK.xs (by omega) ?_; conv => whnf)
      | (refine IdxK.ss (by omega) ?_; conv => whnf)
      | (refine ByteK.at (by omega) ?_; conv => whnf)
      | (refine Wr.i64 (by omega) (by omega) ?_; conv => whnf))
    exact ⟨(m + 1, acc2), ⟨by simp only; omega, by simp only; omega, by simpa using h7⟩, by simp only; omega, Le.of_eq rfl⟩
  rw [List.drop_eq_getElem_cons hq, List.map_cons] at h7
  conv => whnf
  repeat' (
    first
    | (intro (_ : _ ≤ 9223372036854775807); conv => whnf)
    | (refine Br.dec (fun _ => ?_) (fun _ => ?_) <;> first | (exfalso; omega) | conv => whnf)
    | (refine Br.dec2 (fun _ => ?_) (fun _ => ?_) <;> first | (exfalso; omega) | conv => whnf)
    | (refine DrawK.auto tabOK mixed (by kernel_rfl) ?_; conv => whnf)
    | (refine Br.n (fun _ => ?_) (fun _ => ?_) <;> conv => whnf)
    | (refine Br.b (fun _ => ?_) (fun _ => ?_) <;> conv => whnf)
    | (refine And.intro rfl ?_; conv => whnf)
    | (refine And.intro ⟨by decide, by decide⟩ ?_; conv => whnf)
    | (refine And.intro ⟨rfl, rfl, by decide⟩ ?_; conv => whnf)
    | (refine BsK.pure (fun x hx => by rcases List.mem_singleton.1 hx with rfl; rfl) rfl ?_; conv => whnf)
    | (refine IdxK.map (by omega) (fun _ => rfl) ?_; conv => whnf)
    | (refine IdxK.xs (by omega) ?_; conv => whnf)
    | (refine IdxK.ss (by omega) ?_; conv => whnf)
    | (refine ByteK.at (by omega) ?_; conv => whnf)
    | (refine Wr.i64 (by omega) (by omega) ?_; conv => whnf)
    | (refine BsK.pureL rfl rfl ?_; conv => whnf)
    | (refine AppK.mk (by simp [avS]) rfl (by show (acc2.length+1) * 24 ≤ 140737488355328; omega) (by show acc2.length+1 ≤ 9223372036854775807; omega) (fun x hx => by rcases List.mem_singleton.1 hx with rfl; exact ⟨rfl, rfl⟩) ?_; conv => whnf))
  exact ⟨(q + 1, acc2 ++ [⟨its[m].s.id, gs[q], 1⟩]), ⟨by simp only; omega, by simp; omega, by simpa using h7⟩, by simp only; omega, Le.of_eq (by simp only [avS, List.length_append, List.map_append]; rfl)⟩
end Go.Ab
namespace Go.Ab
open Go.Proofs
def bv : Bool → AV
  | true => .tt
  | false => .ff
structure Way where
  p : Pg
  j : Nat
  n : Int
  real : List Step
  live : List Bool
def Way.cells (w : Way) : List AV := [.ip (sheetOf w.p).cells, .int .i64 w.j, .int .i64 w.n, eSteps w.real, .sl (w.live.map bv)]
def wayH (p : Pg) (j : Nat) (n : Int) (real : AV) (lv : List AV) : Heap := [(1000, .obj 92 [.p (.ip (sheetOf p).cells), .p (.int .i64 j), .p (.int .i64 n), .p real, .hd 2000 0 lv.length]), (2000, .own 4 1 lv)]
def indexI (lo hi n x : Int) : Int := if x = 0 then 0 else if x = -1 then n - 1 else if lo ≤ x ∧ x < hi then x - lo + 1 else -1
def loI (p : Pg) (j : Nat) : Int := (offN p.procs j : Nat) + 1
def hiI (p : Pg) (j : Nat) (f : Pr) : Int := (offN p.procs j + cntL f.body : Nat) + 1
set_option maxHeartbeats 1000000 in
set_option maxRecDepth 100000 in
theorem way_Way_Index (w : Way) (f : Pr) (hj : w.p.procs[w.j]? = some f) (hc : cntP w.p.procs ≤ 1000) (hn : 0 ≤ w.n ∧ w.n ≤ 5000) (x : Int) : SpecP Tryz.prog 209 [.ip w.cells, .int .i64 x] (fun r => r = .int .i64 (indexI (loI w.p w.j) (hiI w.p w.j f) w.n x)) := by
  refine SpecP.body I_way_Way_Index tabOK Tryz.func209 rfl Tryz.call209 (by show 2 ≤ _; decide) ?_
  conv => whnf
  obtain ⟨_, _, _, hlen, hsp⟩ := sheet_spec w.p
  obtain ⟨hlo, hhi, hle, _⟩ := hsp w.j f hj
  repeat' (
    first
    | (intro (_ : _ ≤ 9223372036854775807); conv => whnf)
    | (refine Br.dec (fun _ => ?_) (fun _ => ?_) <;> first | (exfalso; omega) | conv => whnf)
    | (refine Br.dec2 (fun _ => ?_) (fun _ => ?_) <;> first | (exfalso; omega) | conv => whnf)
    | (refine DrawK.auto tabOK mixed (by kernel_rfl) ?_; conv => whnf)
    | (refine Br.n (fun _ => ?_) (fun _ => ?_) <;> conv => whnf)
    | (refine Br.b (fun _ => ?_) (fun _ => ?_) <;> conv => whnf)
    | (refine And.intro rfl ?_; conv => whnf)
    | (refine And.intro ⟨by decide, by decide⟩ ?_; conv => whnf)
    | (refine And.intro ⟨rfl, rfl, by decide⟩ ?_; conv => whnf)
    | (refine BsK.pure (fun x hx => by rcases List.mem_singleton.1 hx with rfl; rfl) rfl ?_; conv => whnf)
    | (refine IdxK.map (by omega) (fun _ => rfl) ?_; conv => whnf)
    | (refine IdxK.xs (by omega) ?_; conv => whnf)
    | (refine IdxK.ss (by omega) ?_; conv => whnf)
    | (refine ByteK.at (by omega) ?_; conv => whnf)
    | (refine Wr.i64 (by omega) (by omega) ?_; conv => whnf)
    | (refine IdxK.at rfl (eInts_at hlo) rfl ?_; conv => whnf)
    | (refine IdxK.at rfl (eInts_at hhi) rfl ?_; conv => whnf)
    | (refine Wr.i64 (by omega) (by omega) ?_; conv => whnf))
  all_goals exact RetK.int (by unfold indexI loI hiI; (repeat' split) <;> omega)
set_option maxRecDepth 100000 in
theorem way_Index_own (p : Pg) (j : Nat) (f : Pr) (n : Int) (real : AV) (lv : List AV) (hj : p.procs[j]? = some f) (hc : cntP p.procs ≤ 1000) (hn : 0 ≤ n ∧ n ≤ 5000) (x : Int) :
    SpecH Tryz.prog 209 [.ptr 1000 0, .p (.int .i64 x)] (wayH p j n real lv) (fun r H => r = .p (.int .i64 (indexI (loI p j) (hiI p j f) n x)) ∧ H = wayH p j n real lv) := by
  obtain ⟨_, _, _, hlen, hsp⟩ := sheet_spec p
  obtain ⟨hlo, hhi, hle, _⟩ := hsp j f hj
  refine SpecH.body I_way_Way_Index tabOK Tryz.func209 rfl Tryz.call209 (by show 2 ≤ _; decide) ?_
  conv => whnf
  repeat' (
    first
    | (intro (_ : _ ≤ 9223372036854775807); conv => whnf)
    | (refine Br.dec (fun _ => ?_) (fun _ => ?_) <;> first | (exfalso; omega) | conv => whnf)
    | (refine Br.dec2 (fun _ => ?_) (fun _ => ?_) <;> first | (exfalso; omega) | conv => whnf)
    | (refine DrawK.auto tabOK mixed (by kernel_rfl) ?_; conv => whnf)
    | (refine Br.n (fun _ => ?_) (fun _ => ?_) <;> conv => whnf)
    | (refine Br.b (fun _ => ?_) (fun _ => ?_) <;> conv => whnf)
    | (refine And.intro rfl ?_; conv => whnf)
    | (refine And.intro ⟨by decide, by decide⟩ ?_; conv => whnf)
    | (refine And.intro ⟨rfl, rfl, by decide⟩ ?_; conv => whnf)
    | (refine BsK.pure (fun x hx => by rcases List.mem_singleton.1 hx with rfl; rfl) rfl ?_; conv => whnf)
    | (refine IdxK.map (by omega) (fun _ => rfl) ?_; conv => whnf)
    | (refine IdxK.xs (by omega) ?_; conv => whnf)
    | (refine IdxK.ss (by omega) ?_; conv => whnf)
    | (refine ByteK.at (by omega) ?_; conv => whnf)
    | (refine Wr.i64 (by omega) (by omega) ?_; conv => whnf)
    | (refine IdxK.at rfl (eInts_at hlo) rfl ?_; conv => whnf)
    | (refine IdxK.at rfl (eInts_at hhi) rfl ?_; conv => whnf))
  all_goals exact ⟨_, LSub.p (Sub.int (by unfold indexI loI hiI; (repeat' split) <;> omega)), rfl, rfl⟩
/-- Pairs of numbers. -/
def avP (l : List (Int × Int)) : List AV := l.map fun x => .agg [.int .i64 x.1, .int .i64 x.2]
def ixP (p : Pg) (j : Nat) (f : Pr) (n : Int) (s : Step) : Int × Int := (indexI (loI p j) (hiI p j f) n s.src, indexI (loI p j) (hiI p j f) n s.dst)
set_option maxHeartbeats 1000000 in
set_option maxRecDepth 100000 in
theorem way_Way_Pairs (w : Way) (f : Pr) (hj : w.p.procs[w.j]? = some f) (hc : cntP w.p.procs ≤ 1000) (hn : 0 ≤ w.n ∧ w.n ≤ 5000) (l : List Step) (hlen : l.length ≤ 1000000) : SpecP Tryz.prog 145 [.ip w.cells, eSteps l] (fun r => r = .sl (avP (l.map (ixP w.p w.j f w.n)))) := by
  refine SpecP.body I_way_Way_Pairs tabOK Tryz.func145 rfl Tryz.call145 (by show 2 ≤ _; decide) ?_
  conv => whnf
  repeat' (
    first
    | (intro (_ : _ ≤ 9223372036854775807); conv => whnf)
    | (refine Br.dec (fun _ => ?_) (fun _ => ?_) <;> first | (exfalso; omega) | conv => whnf)
    | (refine Br.dec2 (fun _ => ?_) (fun _ => ?_) <;> first | (exfalso; omega) | conv => whnf)
    | (refine DrawK.auto tabOK mixed (by kernel_rfl) ?_; conv => whnf)
    | (refine Br.n (fun _ => ?_) (fun _ => ?_) <;> conv => whnf)
    | (refine Br.b (fun _ => ?_) (fun _ => ?_) <;> conv => whnf)
    | (refine And.intro rfl ?_; conv => whnf)
    | (refine And.intro ⟨by decide, by decide⟩ ?_; conv => whnf)
    | (refine And.intro ⟨rfl, rfl, by decide⟩ ?_; conv => whnf)
    | (refine BsK.pure (fun x hx => by rcases List.mem_singleton.1 hx with rfl; rfl) rfl ?_; conv => whnf)
    | (refine IdxK.map (by omega) (fun _ => rfl) ?_; conv => whnf)
    | (refine IdxK.xs (by omega) ?_; conv => whnf)
    | (refine IdxK.ss (by omega) ?_; conv => whnf)
    | (refine ByteK.at (by omega) ?_; conv => whnf)
    | (refine Wr.i64 (by omega) (by omega) ?_; conv => whnf))
  have hl : (l.map fun s => AV.agg s.cells).length = l.length := List.length_map _
  refine LoopK.inv tabOK (fun i : Nat × List (Int × Int) => ⟨[(0, .p (.ip w.cells)), (5, .hd 0 0 i.2.length), (8, .p (eSteps l)), (9, .p (.int .i64 (l.map fun s => AV.agg s.cells).length)), (10, .p (.int .i64 i.1))], [(0, .own 77 2 (avP i.2))]⟩)
    (fun i => i.1 ≤ l.length ∧ i.2 = (l.take i.1).map (ixP w.p w.j f w.n)) (fun i => l.length - i.1) (0, [])
    (Le.mk [(0, .own 77 2 [])] (by simp [Chunk.new0]; rfl) (by simp) (by simp) (.cons (.refl _) (.cons (.nil List.mem_cons_self) (.cons (.refl _) (.cons (.refl _) (.cons (.refl _) .nil))))) (.new List.mem_cons_self .nil))
    ⟨Nat.zero_le _, rfl⟩ ?_
  rintro ⟨m, acc⟩ ⟨h2, h3⟩
  simp only at h2 h3 ⊢
  rcases Nat.lt_or_ge m l.length with hm | hm
  rotate_left 1
  · rw [List.take_of_length_le hm] at h3
    subst h3
    conv => whnf
    repeat' (
      first
      | (intro (_ : _ ≤ 9223372036854775807); conv => whnf)
      | (refine Br.dec (fun _ => ?_) (fun _ => ?_) <;> first | (exfalso; omega) | conv => whnf)
      | (refine Br.dec2 (fun _ => ?_) (fun _ => ?_) <;> first | (exfalso; omega) | conv => whnf)
      | (refine DrawK.auto tabOK mixed (by kernel_rfl) ?_; conv => whnf)
      | (refine Br.n (fun _ => ?_) (fun _ => ?_) <;> conv => whnf)
      | (refine Br.b (fun _ => ?_) (fun _ => ?_) <;> conv => whnf)
      | (refine And.intro rfl ?_; conv => whnf)
      | (refine And.intro ⟨by decide, by decide⟩ ?_; conv => whnf)
      | (refine And.intro ⟨rfl, rfl, by decide⟩ ?_; conv => whnf)
      | (refine BsK.pure (fun x hx => by rcases List.mem_singleton.1 hx with rfl; rfl) rfl ?_; conv => whnf)
      | (refine IdxK.map (by omega) (fun _ => rfl) ?_; conv => whnf)
      | (refine IdxK.xs (by omega) ?_; conv => whnf)
      | (refine IdxK.ss (by omega) ?_; conv => whnf)
      | (refine ByteK.at (by omega) ?_; conv => whnf)
      | (refine Wr.i64 (by omega) (by omega) ?_; conv => whnf))
    exact ⟨_, .hd rfl (by simp [avP]), rfl⟩
  have hacl : acc.length = m := by rw [h3]; simp; omega
  conv => whnf
  repeat' (
    first
    | (intro (_ : _ ≤ 9223372036854775807); conv => whnf)
    | (refine Br.dec (fun _ => ?_) (fun _ => ?_) <;> first | (exfalso; omega) | conv => whnf)
    | (refine Br.dec2 (fun _ => ?_) (fun _ => ?_) <;> first | (exfalso; omega) | conv => whnf)
    | (refine DrawK.auto tabOK mixed (by kernel_rfl) ?_; conv => whnf)
    | (refine Br.n (fun _ => ?_) (fun _ => ?_) <;> conv => whnf)
    | (refine Br.b (fun _ => ?_) (fun _ => ?_) <;> conv => whnf)
    | (refine And.intro rfl ?_; conv => whnf)
    | (refine And.intro ⟨by decide, by decide⟩ ?_; conv => whnf)
    | (refine And.intro ⟨rfl, rfl, by decide⟩ ?_; conv => whnf)
    | (refine BsK.pure (fun x hx => by rcases List.mem_singleton.1 hx with rfl; rfl) rfl ?_; conv => whnf)
    | (refine IdxK.map (by omega) (fun _ => rfl) ?_; conv => whnf)
    | (refine IdxK.xs (by omega) ?_; conv => whnf)
    | (refine IdxK.ss (by omega) ?_; conv => whnf)
    | (refine ByteK.at (by omega) ?_; conv => whnf)
    | (refine Wr.i64 (by omega) (by omega) ?_; conv => whnf)
    | (refine CallK.pure (way_Way_Index w f hj hc hn _) (.cons (Sub.refl _) (.cons (Sub.refl _) .nil)) ?_; rintro _ rfl; conv => whnf)
    | (refine BsK.pureL rfl rfl ?_; conv => whnf)
    | (refine AppK.mk (by simp [avP]) rfl (by show (acc.length+1) * 16 ≤ 140737488355328; omega) (by show acc.length+1 ≤ 9223372036854775807; omega) (fun x hx => by rcases List.mem_singleton.1 hx with rfl; exact ⟨rfl, rfl⟩) ?_; conv => whnf))
  exact ⟨(m + 1, acc ++ [ixP w.p w.j f w.n l[m]]), ⟨by simp only; omega, by simp only; rw [h3, List.take_succ_eq_append_getElem hm, List.map_append]; rfl⟩, by simp only; omega, Le.of_eq (by simp only [avP, List.length_append, List.map_append]; rfl)⟩
/-- A row that a function hands back, laid by. -/
theorem SpecH.frzret {P : Program} {f : FuncId} {args : List LV} {H H0 : Heap} {e : TypeId} {sz : Nat} {Q : List AV → Prop} (hrow : rowHK 0 H0 fun H => H = H0)
    (h : SpecH P f args H (fun r H' => ∃ es, r = .hd 0 0 es.length ∧ H' = (0, .own e sz es) :: H0 ∧ Q es)) : SpecH P f args H (fun r H' => ∃ es, r = .p (.sl es) ∧ H' = H0 ∧ Q es) := by
  refine ⟨h.go, fun σ β w vals h1 h2 h3 => (h.ok σ β w vals h1 h2 h3).mono fun ex w' hx => ?_⟩
  obtain ⟨l, u, σ', β', H', he, ⟨es, rfl, rfl, hQ⟩, hrep, hrel, hlat⟩ := hx
  obtain ⟨s', rfl, hle⟩ := Le.row (N := 1) (s := ⟨[(0, .hd 0 0 es.length)], (0, .own e sz es) :: H0⟩) (k := 0) (e := e) (sz := sz) (es := es) (set := [0]) rfl (K := fun s => s = ⟨[(0, .p (.sl es))], H0⟩) (by
    show LenK es.length es _
    refine ⟨rfl, ?_⟩
    show rowHK 0 H0 fun H => (⟨[(0, .p (.sl es))], H⟩ : St) = ⟨[(0, .p (.sl es))], H0⟩
    have key : ∀ {H1 : Heap} {K K' : Heap → Prop}, (∀ H, K H → K' H) → rowHK 0 H1 K → rowHK 0 H1 K' := fun {H1} => by
      induction H1 with
      | nil => intro K K' hK h; exact hK _ h
      | cons x r ih =>
        intro K K' hK h
        obtain ⟨j, c⟩ := x
        simp only [rowHK] at h ⊢
        cases hb : j == 0 with
        | true =>
          simp only [hb, cond_true] at h ⊢
          exact ih hK h
        | false =>
          simp only [hb, cond_false] at h ⊢
          cases c with
          | obj e ls => simp only [forceL_eq] at h ⊢; exact ih (fun H hH => hK _ hH) h
          | own e sz es => exact ih (fun H hH => hK _ hH) h
          | ext x => exact ih (fun H hH => hK _ hH) h
    exact key (fun H hH => by rw [hH]) hrow)
  obtain ⟨σ2, β2, hr2, hl2⟩ := hle σ' β' { tmps := #[u], defers := [] } w' ⟨rfl, rfl, fun i => by
    match i with
    | 0 => simpa [getS] using hrep
    | i + 1 => exact .p (by simpa [getS] using Rep.any _), hrel⟩
  exact ⟨.p (.sl es), u, σ2, β2, H0, he, ⟨es, rfl, rfl, hQ⟩, by simpa [getS] using hr2.slots 0, hr2.heap, hlat.trans hl2⟩
set_option maxHeartbeats 1000000 in
set_option maxRecDepth 100000 in
theorem way_Pairs_own (p : Pg) (j : Nat) (f : Pr) (n : Int) (real : AV) (lv : List AV) (hj : p.procs[j]? = some f) (hc : cntP p.procs ≤ 1000) (hn : 0 ≤ n ∧ n ≤ 5000) (l : List Step) (hlen : l.length ≤ 1000000) :
    SpecH Tryz.prog 145 [.ptr 1000 0, .p (eSteps l)] (wayH p j n real lv) (fun r H => ∃ es, r = .p (.sl es) ∧ H = wayH p j n real lv ∧ es = avP (l.map (ixP p j f n))) := by
  refine SpecH.frzret (e := 77) (sz := 2) rfl ?_
  refine SpecH.body I_way_Way_Pairs tabOK Tryz.func145 rfl Tryz.call145 (by show 2 ≤ _; decide) ?_
  conv => whnf
  repeat' (
    first
    | (intro (_ : _ ≤ 9223372036854775807); conv => whnf)
    | (refine Br.dec (fun _ => ?_) (fun _ => ?_) <;> first | (exfalso; omega) | conv => whnf)
    | (refine Br.dec2 (fun _ => ?_) (fun _ => ?_) <;> first | (exfalso; omega) | conv => whnf)
    | (refine DrawK.auto tabOK mixed (by kernel_rfl) ?_; conv => whnf)
    | (refine Br.n (fun _ => ?_) (fun _ => ?_) <;> conv => whnf)
    | (refine Br.b (fun _ => ?_) (fun _ => ?_) <;> conv => whnf)
    | (refine And.intro rfl ?_; conv => whnf)
    | (refine And.intro ⟨by decide, by decide⟩ ?_; conv => whnf)
    | (refine And.intro ⟨rfl, rfl, by decide⟩ ?_; conv => whnf)
    | (refine BsK.pure (fun x hx => by rcases List.mem_singleton.1 hx with rfl; rfl) rfl ?_; conv => whnf)
    | (refine IdxK.map (by omega) (fun _ => rfl) ?_; conv => whnf)
    | (refine IdxK.xs (by omega) ?_; conv => whnf)
    | (refine IdxK.ss (by omega) ?_; conv => whnf)
    | (refine ByteK.at (by omega) ?_; conv => whnf)
    | (refine Wr.i64 (by omega) (by omega) ?_; conv => whnf))
  have hl : (l.map fun s => AV.agg s.cells).length = l.length := List.length_map _
  refine LoopK.inv tabOK (fun i : Nat × List (Int × Int) => ⟨[(0, .ptr 1000 0), (5, .hd 0 0 i.2.length), (8, .p (eSteps l)), (9, .p (.int .i64 (l.map fun s => AV.agg s.cells).length)), (10, .p (.int .i64 i.1))], (0, .own 77 2 (avP i.2)) :: wayH p j n real lv⟩)
    (fun i => i.1 ≤ l.length ∧ i.2 = (l.take i.1).map (ixP p j f n)) (fun i => l.length - i.1) (0, [])
    (Le.mk [(0, .own 77 2 [])] (by simp [Chunk.new0]; rfl) (by simp) (by simp [wayH]) (.cons (.refl _) (.cons (.nil List.mem_cons_self) (.cons (.refl _) (.cons (.refl _) (.cons (.refl _) .nil))))) (.new List.mem_cons_self (.cons rfl (.refl _) (.cons rfl (.refl _) .nil))))
    ⟨Nat.zero_le _, rfl⟩ ?_
  rintro ⟨m, acc⟩ ⟨h2, h3⟩
  simp only at h2 h3 ⊢
  rcases Nat.lt_or_ge m l.length with hm | hm
  rotate_left 1
  · rw [List.take_of_length_le hm] at h3
    subst h3
    conv => whnf
    repeat' (
      first
      | (intro (_ : _ ≤ 9223372036854775807); conv => whnf)
      | (refine Br.dec (fun _ => ?_) (fun _ => ?_) <;> first | (exfalso; omega) | conv => whnf)
      | (refine Br.dec2 (fun _ => ?_) (fun _ => ?_) <;> first | (exfalso; omega) | conv => whnf)
      | (refine DrawK.auto tabOK mixed (by kernel_rfl) ?_; conv => whnf)
      | (refine Br.n (fun _ => ?_) (fun _ => ?_) <;> conv => whnf)
      | (refine Br.b (fun _ => ?_) (fun _ => ?_) <;> conv => whnf)
      | (refine And.intro rfl ?_; conv => whnf)
      | (refine And.intro ⟨by decide, by decide⟩ ?_; conv => whnf)
      | (refine And.intro ⟨rfl, rfl, by decide⟩ ?_; conv => whnf)
      | (refine BsK.pure (fun x hx => by rcases List.mem_singleton.1 hx with rfl; rfl) rfl ?_; conv => whnf)
      | (refine IdxK.map (by omega) (fun _ => rfl) ?_; conv => whnf)
      | (refine IdxK.xs (by omega) ?_; conv => whnf)
      | (refine IdxK.ss (by omega) ?_; conv => whnf)
      | (refine ByteK.at (by omega) ?_; conv => whnf)
      | (refine Wr.i64 (by omega) (by omega) ?_; conv => whnf))
    exact ⟨_, LSub.refl _, avP (l.map (ixP p j f n)), by simp [avP], rfl, rfl⟩
  have hacl : acc.length = m := by rw [h3]; simp; omega
  conv => whnf
  repeat' (
    first
    | (intro (_ : _ ≤ 9223372036854775807); conv => whnf)
    | (refine Br.dec (fun _ => ?_) (fun _ => ?_) <;> first | (exfalso; omega) | conv => whnf)
    | (refine Br.dec2 (fun _ => ?_) (fun _ => ?_) <;> first | (exfalso; omega) | conv => whnf)
    | (refine DrawK.auto tabOK mixed (by kernel_rfl) ?_; conv => whnf)
    | (refine Br.n (fun _ => ?_) (fun _ => ?_) <;> conv => whnf)
    | (refine Br.b (fun _ => ?_) (fun _ => ?_) <;> conv => whnf)
    | (refine And.intro rfl ?_; conv => whnf)
    | (refine And.intro ⟨by decide, by decide⟩ ?_; conv => whnf)
    | (refine And.intro ⟨rfl, rfl, by decide⟩ ?_; conv => whnf)
    | (refine BsK.pure (fun x hx => by rcases List.mem_singleton.1 hx with rfl; rfl) rfl ?_; conv => whnf)
    | (refine IdxK.map (by omega) (fun _ => rfl) ?_; conv => whnf)
    | (refine IdxK.xs (by omega) ?_; conv => whnf)
    | (refine IdxK.ss (by omega) ?_; conv => whnf)
    | (refine ByteK.at (by omega) ?_; conv => whnf)
    | (refine Wr.i64 (by omega) (by omega) ?_; conv => whnf)
    | (refine CallK.heap [(1000, 1000), (2000, 2000)] 0 (by repeat' (first | exact ArgsH.nil | refine ArgsH.cons ?_ ?_ | exact LSub.refl _ | exact LSub.p Sub.nils | exact LSub.p (Sub.tt rfl) | exact LSub.p (Sub.ff rfl) | exact LSub.p (Sub.int (by omega)))) (by refine BlksH.cons (j := 1000) rfl rfl ?_ ?_; exact CSub.refl _; refine BlksH.cons (j := 2000) rfl rfl ?_ ?_; exact CSub.refl _; exact BlksH.nil) (way_Index_own p j f n real lv hj hc hn _) rfl rfl ?_; rintro l' H' ⟨rfl, rfl⟩; conv => whnf)
    | (refine BsK.pureL rfl rfl ?_; conv => whnf)
    | (refine AppK.mk (by simp [avP]) rfl (by show (acc.length+1) * 16 ≤ 140737488355328; omega) (by show acc.length+1 ≤ 9223372036854775807; omega) (fun x hx => by rcases List.mem_singleton.1 hx with rfl; exact ⟨rfl, rfl⟩) ?_; conv => whnf))
  exact ⟨(m + 1, acc ++ [ixP p j f n l[m]]), ⟨by simp only; omega, by simp only; rw [h3, List.take_succ_eq_append_getElem hm, List.map_append]; rfl⟩, by simp only; omega, Le.mk [] (by simp) (by simp) (by simp [wayH]) (.cons (.refl _) (.cons (.of_eq (by simp only [List.length_append]; rfl)) (.cons (.refl _) (.cons (.refl _) (.cons (.of_eq rfl) .nil))))) (.cons rfl (.of_eq (by simp only [avP, List.map_append]; rfl)) (.cons rfl (.refl _) (.cons rfl (.refl _) .nil)))⟩


-- A graph of edges.
theorem insI_sorted {l : List Int} {x : Int} (h : l.Pairwise (· ≤ ·)) : (insI l (l.countP (· < x)) x).Pairwise (· ≤ ·) := by
  induction l with
  | nil => simp [insI]
  | cons a r ih =>
    obtain ⟨h1, h2⟩ := List.pairwise_cons.1 h
    by_cases ha : a < x
    · have e : insI (a :: r) ((a :: r).countP (· < x)) x = a :: insI r (r.countP (· < x)) x := by
        unfold insI
        rw [List.countP_cons_of_pos (by simpa using ha)]
        rfl
      rw [e, List.pairwise_cons]
      refine ⟨fun b hb => ?_, ih h2⟩
      unfold insI at hb
      rcases List.mem_append.1 hb with hb | hb
      · exact h1 b (List.mem_of_mem_take hb)
      · rcases List.mem_cons.1 hb with rfl | hb
        · omega
        · exact h1 b (List.mem_of_mem_drop hb)
    · have e0 : (a :: r).countP (· < x) = 0 := by
        rw [List.countP_eq_zero]
        intro b hb
        rcases List.mem_cons.1 hb with rfl | hb
        · simpa using ha
        · have := h1 b hb
          simp; omega
      rw [e0]
      show (x :: a :: r).Pairwise (· ≤ ·)
      refine List.pairwise_cons.2 ⟨fun b hb => ?_, h⟩
      rcases List.mem_cons.1 hb with rfl | hb
      · omega
      · have := h1 b hb
        omega
def grInv (n m : Nat) (N : List (List Int)) : Prop := N.length = n ∧ ∀ r ∈ N, r.Pairwise (· ≤ ·) ∧ r.length ≤ m
theorem grInv_put {n m : Nat} {N : List (List Int)} (h : grInv n m N) (a : Nat) (b : Int) : grInv n (m + 1) (putR N a b) := by
  unfold putR
  refine ⟨by rw [List.length_set]; exact h.1, fun r hr => ?_⟩
  rcases List.mem_or_eq_of_mem_set hr with hr | rfl
  · obtain ⟨h1, h2⟩ := h.2 r hr
    exact ⟨h1, by omega⟩
  · rcases Nat.lt_or_ge a N.length with ha | ha
    · have hm : N.getD a [] ∈ N := by
        rw [List.getD_eq_getElem?_getD, List.getElem?_eq_getElem ha]
        exact List.getElem_mem ha
      obtain ⟨h1, h2⟩ := h.2 _ hm
      exact ⟨insI_sorted h1, by rw [insI_len List.countP_le_length]; omega⟩
    · have : N.getD a [] = [] := by simp [List.getElem?_eq_none ha]
      rw [this]
      exact ⟨by simp [insI], by simp [insI]⟩
theorem grInv_mono {n m m' : Nat} {N : List (List Int)} (h : grInv n m N) (hm : m ≤ m') : grInv n m' N := ⟨h.1, fun r hr => ⟨(h.2 r hr).1, Nat.le_trans (h.2 r hr).2 hm⟩⟩
def addE (n : Nat) (g : List (List Int) × List (List Int)) (e : Int × Int) : List (List Int) × List (List Int) :=
  bif hasB n e.1 && hasB n e.2 && !(g.1.getD e.1.toNat []).contains e.2 then (putR g.1 e.1.toNat e.2, putR g.2 e.2.toNat e.1) else g
def graphE (n : Nat) (l : List (Int × Int)) : List (List Int) × List (List Int) := l.foldl (addE n) (List.replicate n [], List.replicate n [])
def eMat (m : List (List Int)) : AV := .sl ((avI m).map .sl)
def eGraph (g : List (List Int) × List (List Int)) : AV := .ip [eMat g.1, eMat g.2]
theorem addE_1 (n : Nat) (g : List (List Int) × List (List Int)) (e : Int × Int) : (addE n g e).1 = bif hasB n e.1 && hasB n e.2 && !(g.1.getD e.1.toNat []).contains e.2 then putR g.1 e.1.toNat e.2 else g.1 := by
  unfold addE
  cases hasB n e.1 && hasB n e.2 && !(g.1.getD e.1.toNat []).contains e.2 <;> rfl
theorem addE_2 (n : Nat) (g : List (List Int) × List (List Int)) (e : Int × Int) : (addE n g e).2 = bif hasB n e.1 && hasB n e.2 && !(g.1.getD e.1.toNat []).contains e.2 then putR g.2 e.2.toNat e.1 else g.2 := by
  unfold addE
  cases hasB n e.1 && hasB n e.2 && !(g.1.getD e.1.toNat []).contains e.2 <;> rfl
theorem addE_inv {n m : Nat} {g : List (List Int) × List (List Int)} (h : grInv n m g.1 ∧ grInv n m g.2) (e : Int × Int) : grInv n (m + 1) (addE n g e).1 ∧ grInv n (m + 1) (addE n g e).2 := by
  rw [addE_1, addE_2]
  cases hasB n e.1 && hasB n e.2 && !(g.1.getD e.1.toNat []).contains e.2
  · exact ⟨grInv_mono h.1 (by omega), grInv_mono h.2 (by omega)⟩
  · exact ⟨grInv_put h.1 _ _, grInv_put h.2 _ _⟩
theorem graphE_succ {n m : Nat} {l : List (Int × Int)} (hm : m < l.length) : graphE n (l.take (m + 1)) = addE n (graphE n (l.take m)) l[m] := by
  unfold graphE
  rw [List.take_succ_eq_append_getElem hm, List.foldl_append]
  rfl
theorem graphE_inv {n : Nat} {l : List (Int × Int)} : ∀ {m : Nat}, m ≤ l.length → grInv n m (graphE n (l.take m)).1 ∧ grInv n m (graphE n (l.take m)).2
  | 0, _ => by
    have : grInv n 0 (List.replicate n []) := ⟨by simp, fun r hr => by rw [List.eq_of_mem_replicate hr]; simp⟩
    exact ⟨this, this⟩
  | m + 1, h => by
    rw [graphE_succ h]
    exact addE_inv (graphE_inv (by omega)) _
set_option maxRecDepth 100000 in
theorem mats_begin {N' : Nat} {sl : List (Nat × LV)} (n a b : Nat) (h0 : (sl.all fun x => x.2.xfree 0) = true) (h1 : (sl.all fun x => x.2.xfree 1) = true) :
    Le N' ⟨sl, [(2, .obj 196 [.hd a 0 n, .hd b 0 n]), (1, .own 48 1 (List.replicate n .nils)), (0, .own 48 1 (List.replicate n .nils))]⟩
      ⟨sl, [(2, .obj 196 [.hd a 0 n, .hd b 0 n]), (1, .ext (.mat 48 3 1 (List.replicate n []) [])), (0, .ext (.mat 48 3 1 (List.replicate n []) []))]⟩ := by
  have hm := Le.toMat (N := N') (sl := sl) (H := [(2, .obj 196 [.hd a 0 n, .hd b 0 n]), (1, .own 48 1 (List.replicate n .nils)), (0, .own 48 1 (List.replicate n .nils))])
    (H' := [(2, .obj 196 [.hd a 0 n, .hd b 0 n]), (1, .own 48 1 (List.replicate n .nils)), (0, .ext (.mat 48 3 1 (List.replicate (List.replicate n AV.nils).length []) []))])
    0 3 1 (e := 48) (es := List.replicate n .nils) rfl (fun x hx => List.eq_of_mem_replicate hx) rfl h0 rfl rfl (by simp [labN])
  have hm2 := Le.toMat (N := N') (sl := sl) (H := [(2, .obj 196 [.hd a 0 n, .hd b 0 n]), (1, .own 48 1 (List.replicate n .nils)), (0, .ext (.mat 48 3 1 (List.replicate (List.replicate n AV.nils).length []) []))])
    (H' := [(2, .obj 196 [.hd a 0 n, .hd b 0 n]), (1, .ext (.mat 48 3 1 (List.replicate (List.replicate n AV.nils).length []) [])), (0, .ext (.mat 48 3 1 (List.replicate (List.replicate n AV.nils).length []) []))])
    1 3 1 (e := 48) (es := List.replicate n .nils) rfl (fun x hx => List.eq_of_mem_replicate hx) rfl h1 rfl rfl (by simp [labN])
  have := hm.trans hm2
  simpa using this
set_option maxHeartbeats 2000000 in
set_option maxRecDepth 100000 in
theorem graph_New (n : Nat) (hn : n ≤ 5000) (l : List (Int × Int)) (hlen : l.length ≤ 1000000) : SpecP Tryz.prog 176 [.int .i64 n, .sl (avP l)] (fun r => r = eGraph (graphE n l)) := by
  refine SpecP.body I_graph_New tabOK Tryz.func176 rfl Tryz.call176 (by show 2 ≤ _; decide) ?_
  conv => whnf
  repeat' (
    first
    | (intro (_ : _ ≤ 9223372036854775807); conv => whnf)
    | (refine Br.dec (fun _ => ?_) (fun _ => ?_) <;> first | (exfalso; omega) | conv => whnf)
    | (refine Br.dec2 (fun _ => ?_) (fun _ => ?_) <;> first | (exfalso; omega) | conv => whnf)
    | (refine DrawK.auto tabOK mixed (by kernel_rfl) ?_; conv => whnf)
    | (refine Br.n (fun _ => ?_) (fun _ => ?_) <;> conv => whnf)
    | (refine Br.b (fun _ => ?_) (fun _ => ?_) <;> conv => whnf)
    | (refine And.intro rfl ?_; conv => whnf)
    | (refine And.intro ⟨by decide, by decide⟩ ?_; conv => whnf)
    | (refine And.intro ⟨rfl, rfl, by decide⟩ ?_; conv => whnf)
    | (refine BsK.pure (fun x hx => by rcases List.mem_singleton.1 hx with rfl; rfl) rfl ?_; conv => whnf)
    | (refine IdxK.map (by omega) (fun _ => rfl) ?_; conv => whnf)
    | (refine IdxK.xs (by omega) ?_; conv => whnf)
    | (refine IdxK.ss (by omega) ?_; conv => whnf)
    | (refine ByteK.at (by omega) ?_; conv => whnf)
    | (refine Wr.i64 (by omega) (by omega) ?_; conv => whnf)
    | (refine And.intro ?_ ?_ <;> conv => whnf)
    | (refine MkK.mk n rfl (by show 24 * n ≤ 140737488355328; omega) (by unfold maxLen; omega) ?_; conv => whnf))
  all_goals have hl : (avP l).length = l.length := List.length_map _
  · refine LoopK.inv tabOK (fun m : Nat => ⟨[(5, .ptr (0 + 1 + 1) 0), (20, .p (.sl (avP l))), (21, .p (.int .i64 (avP l).length)), (22, .p (.int .i64 m))], [(0 + 1 + 1, .obj 196 [.hd 0 0 n, .hd (0 + 1) 0 n]), (0, .ext (.mat 48 3 1 (avI (graphE n (l.take m)).1) [])), (0 + 1, .ext (.mat 48 3 1 (avI (graphE n (l.take m)).2) []))]⟩)
      (fun m => m ≤ l.length) (fun m => l.length - m) 0 (by
        refine Le.trans (mats_begin n _ _ rfl rfl) ?_
        exact Le.mk [] (by simp) (by simp) (by simp) (.cons (.refl _) (.cons (.refl _) (.cons (.refl _) (.cons (.refl _) .nil)))) (.cons rfl (.refl _) (.cons rfl (.of_eq (by simp [avI, graphE])) (.cons rfl (.of_eq (by simp [avI, graphE])) .nil)))) (Nat.zero_le _) ?_
    rintro m h2
    obtain ⟨g1, g2⟩ := graphE_inv (n := n) h2
    rcases Nat.lt_or_ge m l.length with hm | hm
    · have hme : (avP l)[m]? = some (.agg [.int .i64 l[m].1, .int .i64 l[m].2]) := by simp [avP, hm]
      conv => whnf
      repeat' (
        first
        | (intro (_ : _ ≤ 9223372036854775807); conv => whnf)
        | (refine Br.dec (fun _ => ?_) (fun _ => ?_) <;> first | (exfalso; omega) | conv => whnf)
        | (refine Br.dec2 (fun _ => ?_) (fun _ => ?_) <;> first | (exfalso; omega) | conv => whnf)
        | (refine DrawK.auto tabOK mixed (by kernel_rfl) ?_; conv => whnf)
        | (refine Br.n (fun _ => ?_) (fun _ => ?_) <;> conv => whnf)
        | (refine Br.b (fun _ => ?_) (fun _ => ?_) <;> conv => whnf)
        | (refine And.intro rfl ?_; conv => whnf)
        | (refine And.intro ⟨by decide, by decide⟩ ?_; conv => whnf)
        | (refine And.intro ⟨rfl, rfl, by decide⟩ ?_; conv => whnf)
        | (refine BsK.pure (fun x hx => by rcases List.mem_singleton.1 hx with rfl; rfl) rfl ?_; conv => whnf)
        | (refine IdxK.map (by omega) (fun _ => rfl) ?_; conv => whnf)
        | (refine IdxK.xs (by omega) ?_; conv => whnf)
        | (refine IdxK.ss (by omega) ?_; conv => whnf)
        | (refine ByteK.at (by omega) ?_; conv => whnf)
        | (refine Wr.i64 (by omega) (by omega) ?_; conv => whnf)
        | (refine IdxK.at rfl hme rfl ?_; conv => whnf)
        | (refine IdxL.mk 0 rfl (by decide) ?_; conv => whnf)
        | (refine IdxL.mk 1 rfl (by decide) ?_; conv => whnf)
        | (refine CallK.heap [(1000, 0+1+1), (2001, 0), (2002, 1)] 0 (by repeat' (first | exact ArgsH.nil | refine ArgsH.cons ?_ ?_ | exact LSub.refl _ | exact LSub.p Sub.nils | exact LSub.p (Sub.tt rfl) | exact LSub.p (Sub.ff rfl) | exact LSub.p (Sub.int (by omega)))) (by refine BlksH.cons (j := 2) rfl rfl ?_ ?_; exact CSub.refl _; refine BlksH.cons (j := 0) rfl rfl ?_ ?_; exact CSub.refl _; refine BlksH.cons (j := 1) rfl rfl ?_ ?_; exact CSub.refl _; exact BlksH.nil) (graph_Add n _ _ l[m].1 l[m].2 g1.1 g2.1 hn (fun r hr => ⟨(g1.2 r hr).1, by have := (g1.2 r hr).2; omega⟩) (fun r hr => ⟨(g2.2 r hr).1, by have := (g2.2 r hr).2; omega⟩)) rfl rfl ?_; rintro l' H' ⟨t, rfl, rfl⟩; conv => whnf))
      exact ⟨m + 1, hm, by omega, Le.of_eq (by rw [graphE_succ hm, addE_1, addE_2]; rfl)⟩
    · rw [List.take_of_length_le hm] at g1 g2 ⊢
      conv => whnf
      repeat' (
        first
        | (intro (_ : _ ≤ 9223372036854775807); conv => whnf)
        | (refine Br.dec (fun _ => ?_) (fun _ => ?_) <;> first | (exfalso; omega) | conv => whnf)
        | (refine Br.dec2 (fun _ => ?_) (fun _ => ?_) <;> first | (exfalso; omega) | conv => whnf)
        | (refine DrawK.auto tabOK mixed (by kernel_rfl) ?_; conv => whnf)
        | (refine Br.n (fun _ => ?_) (fun _ => ?_) <;> conv => whnf)
        | (refine Br.b (fun _ => ?_) (fun _ => ?_) <;> conv => whnf)
        | (refine And.intro rfl ?_; conv => whnf)
        | (refine And.intro ⟨by decide, by decide⟩ ?_; conv => whnf)
        | (refine And.intro ⟨rfl, rfl, by decide⟩ ?_; conv => whnf)
        | (refine BsK.pure (fun x hx => by rcases List.mem_singleton.1 hx with rfl; rfl) rfl ?_; conv => whnf)
        | (refine IdxK.map (by omega) (fun _ => rfl) ?_; conv => whnf)
        | (refine IdxK.xs (by omega) ?_; conv => whnf)
        | (refine IdxK.ss (by omega) ?_; conv => whnf)
        | (refine ByteK.at (by omega) ?_; conv => whnf)
        | (refine Wr.i64 (by omega) (by omega) ?_; conv => whnf))
      exact ⟨_, .ptr (cs := [eMat (graphE n l).1, eMat (graphE n l).2]) rfl rfl (fun i x c h1 h3 => by
        match i, h1, h3 with
        | 0, h1, h3 => cases h1; cases h3; exact .mat rfl (by rw [avI, List.length_map, g1.1])
        | 1, h1, h3 => cases h1; cases h3; exact .mat rfl (by rw [avI, List.length_map, g2.1])), rfl⟩
  · refine LoopK.inv tabOK (fun m : Nat => ⟨[(5, .ptr (0 + 1 + 1) 0), (20, .p (.sl (avP l))), (21, .p (.int .i64 (avP l).length)), (22, .p (.int .i64 m))], [(0 + 1 + 1, .obj 196 [.hd (0 + 1) 0 n, .hd 0 0 n]), (0 + 1, .ext (.mat 48 3 1 (avI (graphE n (l.take m)).1) [])), (0, .ext (.mat 48 3 1 (avI (graphE n (l.take m)).2) []))]⟩)
      (fun m => m ≤ l.length) (fun m => l.length - m) 0 (by
        refine Le.trans (mats_begin n _ _ rfl rfl) ?_
        exact Le.mk [] (by simp) (by simp) (by simp) (.cons (.refl _) (.cons (.refl _) (.cons (.refl _) (.cons (.refl _) .nil)))) (.cons rfl (.refl _) (.cons rfl (.of_eq (by simp [avI, graphE])) (.cons rfl (.of_eq (by simp [avI, graphE])) .nil)))) (Nat.zero_le _) ?_
    rintro m h2
    obtain ⟨g1, g2⟩ := graphE_inv (n := n) h2
    rcases Nat.lt_or_ge m l.length with hm | hm
    · have hme : (avP l)[m]? = some (.agg [.int .i64 l[m].1, .int .i64 l[m].2]) := by simp [avP, hm]
      conv => whnf
      repeat' (
        first
        | (intro (_ : _ ≤ 9223372036854775807); conv => whnf)
        | (refine Br.dec (fun _ => ?_) (fun _ => ?_) <;> first | (exfalso; omega) | conv => whnf)
        | (refine Br.dec2 (fun _ => ?_) (fun _ => ?_) <;> first | (exfalso; omega) | conv => whnf)
        | (refine DrawK.auto tabOK mixed (by kernel_rfl) ?_; conv => whnf)
        | (refine Br.n (fun _ => ?_) (fun _ => ?_) <;> conv => whnf)
        | (refine Br.b (fun _ => ?_) (fun _ => ?_) <;> conv => whnf)
        | (refine And.intro rfl ?_; conv => whnf)
        | (refine And.intro ⟨by decide, by decide⟩ ?_; conv => whnf)
        | (refine And.intro ⟨rfl, rfl, by decide⟩ ?_; conv => whnf)
        | (refine BsK.pure (fun x hx => by rcases List.mem_singleton.1 hx with rfl; rfl) rfl ?_; conv => whnf)
        | (refine IdxK.map (by omega) (fun _ => rfl) ?_; conv => whnf)
        | (refine IdxK.xs (by omega) ?_; conv => whnf)
        | (refine IdxK.ss (by omega) ?_; conv => whnf)
        | (refine ByteK.at (by omega) ?_; conv => whnf)
        | (refine Wr.i64 (by omega) (by omega) ?_; conv => whnf)
        | (refine IdxK.at rfl hme rfl ?_; conv => whnf)
        | (refine IdxL.mk 0 rfl (by decide) ?_; conv => whnf)
        | (refine IdxL.mk 1 rfl (by decide) ?_; conv => whnf)
        | (refine CallK.heap [(1000, 0+1+1), (2001, 1), (2002, 0)] 0 (by repeat' (first | exact ArgsH.nil | refine ArgsH.cons ?_ ?_ | exact LSub.refl _ | exact LSub.p Sub.nils | exact LSub.p (Sub.tt rfl) | exact LSub.p (Sub.ff rfl) | exact LSub.p (Sub.int (by omega)))) (by refine BlksH.cons (j := 2) rfl rfl ?_ ?_; exact CSub.refl _; refine BlksH.cons (j := 1) rfl rfl ?_ ?_; exact CSub.refl _; refine BlksH.cons (j := 0) rfl rfl ?_ ?_; exact CSub.refl _; exact BlksH.nil) (graph_Add n _ _ l[m].1 l[m].2 g1.1 g2.1 hn (fun r hr => ⟨(g1.2 r hr).1, by have := (g1.2 r hr).2; omega⟩) (fun r hr => ⟨(g2.2 r hr).1, by have := (g2.2 r hr).2; omega⟩)) rfl rfl ?_; rintro l' H' ⟨t, rfl, rfl⟩; conv => whnf))
      exact ⟨m + 1, hm, by omega, Le.of_eq (by rw [graphE_succ hm, addE_1, addE_2]; rfl)⟩
    · rw [List.take_of_length_le hm] at g1 g2 ⊢
      conv => whnf
      repeat' (
        first
        | (intro (_ : _ ≤ 9223372036854775807); conv => whnf)
        | (refine Br.dec (fun _ => ?_) (fun _ => ?_) <;> first | (exfalso; omega) | conv => whnf)
        | (refine Br.dec2 (fun _ => ?_) (fun _ => ?_) <;> first | (exfalso; omega) | conv => whnf)
        | (refine DrawK.auto tabOK mixed (by kernel_rfl) ?_; conv => whnf)
        | (refine Br.n (fun _ => ?_) (fun _ => ?_) <;> conv => whnf)
        | (refine Br.b (fun _ => ?_) (fun _ => ?_) <;> conv => whnf)
        | (refine And.intro rfl ?_; conv => whnf)
        | (refine And.intro ⟨by decide, by decide⟩ ?_; conv => whnf)
        | (refine And.intro ⟨rfl, rfl, by decide⟩ ?_; conv => whnf)
        | (refine BsK.pure (fun x hx => by rcases List.mem_singleton.1 hx with rfl; rfl) rfl ?_; conv => whnf)
        | (refine IdxK.map (by omega) (fun _ => rfl) ?_; conv => whnf)
        | (refine IdxK.xs (by omega) ?_; conv => whnf)
        | (refine IdxK.ss (by omega) ?_; conv => whnf)
        | (refine ByteK.at (by omega) ?_; conv => whnf)
        | (refine Wr.i64 (by omega) (by omega) ?_; conv => whnf))
      exact ⟨_, .ptr (cs := [eMat (graphE n l).1, eMat (graphE n l).2]) rfl rfl (fun i x c h1 h3 => by
        match i, h1, h3 with
        | 0, h1, h3 => cases h1; cases h3; exact .mat rfl (by rw [avI, List.length_map, g1.1])
        | 1, h1, h3 => cases h1; cases h3; exact .mat rfl (by rw [avI, List.length_map, g2.1])), rfl⟩
end Go.Ab
