/- graph: the parts, walked. -/
import Derived.Test.YtngohbblmlokoaaGreatAugF14
import Derived.Test.YtngohbblmlokoaaGreatAugF15
set_option linter.unusedSimpArgs false
set_option linter.unusedVariables false
namespace Go.Ab
open Go.Proofs
set_option maxHeartbeats 4000000 in
set_option maxRecDepth 100000 in
theorem graph_Graph_Parts (n : Nat) (hn : n ≤ 5000) (g : List (List Int) × List (List Int)) (hg : rowsIn n g.1) (hg2 : rowsIn n g.2) (hgm : ∀ x y, rowE g.2 x y ↔ rowE g.1 y x) : SpecP Tryz.prog 138 [eGraph g] (fun r => r = eInts (partR n g.1)) := by
  refine SpecP.body I_graph_Graph_Parts tabOK Tryz.func138 rfl Tryz.call138 (by show 1 ≤ _; decide) ?_
  conv => whnf
  have hl : ((avI g.1).map AV.sl).length = n := by simp [avI, hg.1]
  repeat' ((first | (intro (_ : _ ≤ 9223372036854775807)) | (refine And.intro ⟨rfl, rfl, by decide⟩ ?_) | (refine Wr.i64 (by omega) (by omega) ?_) | (refine MkK.mk n (by rw [hl]) (by show 1 * n ≤ 140737488355328; omega) (by unfold maxLen; omega) ?_) | (refine MkK.mk n (by rw [hl]) (by show 8 * n ≤ 140737488355328; omega) (by unfold maxLen; omega) ?_) | (refine CallK.pure (graph_Graph_ends n hn g hg) (.cons (Sub.refl _) .nil) ?_; rintro _ ⟨es, rfl, he⟩)); conv => whnf)
  have hesl : es.length ≤ n := by
    have h1 := he.nd
    exact rng_len h1 fun x hx => (he.mem x).1 hx
  have hml : (es.map (AV.int .i64)).length = es.length := List.length_map _
  refine LoopK.inv tabOK (fun x : Nat × List Int × List Bool => ⟨[(0, .p (eGraph g)), (3, .hd 0 0 n), (4, .hd 1 0 n), (5, .p (eInts es)), (6, .p (.int .i64 ((x.1 : Int) - 1)))], [(0, .own 3 1 (x.2.1.map (.int .i64))), (1, .own 4 1 (x.2.2.map bv))]⟩)
    (fun x => x.1 ≤ es.length ∧ PartI n (rowE g.1) es x.1 x.2.1 x.2.2) (fun x => x.1) (es.length, List.replicate n 0, List.replicate n false)
    (Le.mk [] (by simp) (by simp) (by simp) (.cons (.refl _) (.cons (.of_eq rfl) (.cons (.of_eq rfl) (.cons (.refl _) (.cons (.of_eq (by rw [hml]; rfl)) .nil)))))
      (.cons rfl (.of_eq (by rw [List.map_replicate]; rfl)) (.cons rfl (.of_eq (by rw [List.map_replicate]; rfl)) .nil)))
    ⟨Nat.le_refl _, PartI.start⟩ ?_
  rintro ⟨m, part, seen⟩ ⟨h1, h2⟩
  simp only at h1 h2 ⊢
  have hsl := h2.sl
  have hpl := h2.pl
  cases m with
  | zero =>
    conv => whnf
    repeat' (refine Br.dec (fun _ => ?_) (fun _ => ?_) <;> first | (exfalso; omega) | conv => whnf)
    exact ⟨_, .hd rfl (by simp [hpl]), by rw [h2.fin hg he]; rfl⟩
  | succ m =>
    obtain ⟨r, hr⟩ : ∃ r, es[m]? = some r := ⟨_, List.getElem?_eq_getElem (by omega)⟩
    have hrr := (he.mem r).1 (List.mem_of_getElem? hr)
    have hre : es[m] = r := by rw [List.getElem?_eq_getElem (by omega)] at hr; exact Option.some.inj hr
    have hra : (es.map (AV.int .i64))[m]? = some (.int .i64 r) := by rw [List.getElem?_map, hr]; rfl
    have e1 := bvAt (l := seen) (i := r.toNat) (by omega)
    cases hq : seen.getD r.toNat false with
    | true =>
      rw [hq] at e1
      have hsk := seen_skip hr ((h2.seen r hrr).1 hq)
      conv => whnf
      repeat' (first | ((first | (refine And.intro rfl ?_) | (refine Wr.i64 (by omega) (by omega) ?_) | (refine IdxK.at (k := m) (by omega) hra rfl ?_) | (refine IdxL.mk r.toNat (by omega) (by omega) ?_) | (refine LdOwn.mk r.toNat 0 .tt (by omega) e1 ?_)); conv => whnf) | (refine Br.dec (fun _ => ?_) (fun _ => ?_) <;> first | (exfalso; omega) | conv => whnf))
      exact ⟨(m, part, seen), ⟨by simp only; omega, h2.sl, h2.pl, fun x hx => by rw [h2.seen x hx, hsk], fun x hx hs => h2.min x hx ((hsk x).1 hs)⟩, Nat.lt_succ_self m, Le.of_eq (by rw [show ((m + 1 : Nat) : Int) - 1 - 1 = (m : Int) - 1 by omega])⟩
    | false =>
      rw [hq] at e1
      obtain ⟨h3, h4, h5, h6⟩ := h2.part hg hg2 hgm he hr hq
      conv => whnf
      repeat' (first | ((first | (refine DrawK.auto tabOK mixed (by kernel_rfl) ?_) | (refine And.intro rfl ?_) | (refine And.intro ⟨by decide, by decide⟩ ?_) | (refine IdxK.at (k := m) (by omega) hra rfl ?_) | (refine IdxL.mk r.toNat (by omega) (by omega) ?_) | (refine LdOwn.mk r.toNat 0 .ff (by omega) e1 ?_) | (refine StOwn.mk r.toNat 0 .ff .tt (by omega) e1 (Nat.le_refl 1) rfl ?_) | (refine BsK.own (fun x hx => by rcases List.mem_singleton.1 hx with rfl; rfl) rfl ?_)); conv => whnf) | (refine Br.dec (fun _ => ?_) (fun _ => ?_) <;> first | (exfalso; omega) | conv => whnf))
      have hwl : (walkF g.2 (n + 1) 0 (seen.set r.toNat true, [r])).1.length = n := h6.sl
      rw [show (seen.map bv).set r.toNat AV.tt = (seen.set r.toNat true).map bv by rw [List.map_set]; rfl]
      refine CallK.heap [(1000, 1), (2000, 2)] 0 (ArgsH.cons (LSub.refl _) (ArgsH.cons (LSub.refl _) (ArgsH.cons (LSub.refl _) ArgsH.nil))) (by refine BlksH.cons (j := 1) rfl rfl ?_ ?_; exact CSub.refl _; refine BlksH.cons (j := 2) rfl rfl ?_ ?_; exact CSub.refl _; exact BlksH.nil) (graph_walk n hn g.2 hg2 (seen.set r.toNat true, [r]) h5) rfl rfl ?_
      rintro l' H' ⟨rfl, rfl⟩
      conv => whnf
      have hwn : (walkF g.2 (n + 1) 0 (seen.set r.toNat true, [r])).2.length ≤ n := wkInv_len (walkF_inv hg2 _ _ h5)
      generalize walkF g.2 (n + 1) 0 (seen.set r.toNat true, [r]) = w at h3 h4 h6 hwl hwn ⊢
      repeat' ((first | (intro (_ : _ ≤ 9223372036854775807)) | (refine CallK.borrow (slices_Min_int_int_ w.2 h4) (.cons (.hd rfl (by simp)) .nil) (by rintro _ rfl; rfl) ?_; rintro _ rfl)); conv => whnf)
      refine LoopK.inv tabOK (fun x : Nat => ⟨[(0, .p (eGraph g)), (3, .hd 0 0 n), (4, .hd 1 0 n), (5, .p (eInts es)), (6, .p (.int .i64 (((m + 1 : Nat) : Int) - 1))), (8, .p (.int .i64 (minI w.2))), (60, .hd 2 0 w.2.length), (61, .p (.int .i64 w.2.length)), (62, .p (.int .i64 x))], [(1, .own 4 1 (w.1.map bv)), (2, .own 3 1 (w.2.map (.int .i64))), (0, .own 3 1 ((setMany (w.2.take x) (minI w.2) part).map (.int .i64)))]⟩)
        (fun x => x ≤ w.2.length) (fun x => w.2.length - x) 0 (Le.of_eq rfl) (Nat.zero_le _) ?_
      intro q hqw
      rcases Nat.lt_or_ge q w.2.length with hq2 | hq2
      · have hwr := h3 _ (List.getElem_mem hq2)
        have e4 := intAt (l := setMany (w.2.take q) (minI w.2) part) (i := w.2[q].toNat) (by rw [setMany_len]; omega)
        have e5 : setMany (w.2.take (q + 1)) (minI w.2) part = (setMany (w.2.take q) (minI w.2) part).set w.2[q].toNat (minI w.2) := by
          unfold setMany
          rw [List.take_succ_eq_append_getElem hq2, List.foldl_append]
          rfl
        generalize setMany (w.2.take q) (minI w.2) part = pt at e4 e5 ⊢
        conv => whnf
        repeat' (first | ((first | (refine And.intro rfl ?_) | (refine Wr.i64 (by omega) (by omega) ?_) | (refine IdxL.mk q (by omega) (by omega) ?_) | (refine LdOwn.mk q 0 (.int .i64 w.2[q]) (by omega) (by simp [hq2]) ?_) | (refine IdxL.mk w.2[q].toNat (by omega) (by omega) ?_) | (refine StOwn.mk w.2[q].toNat 0 (.int .i64 (pt.getD w.2[q].toNat 0)) (.int .i64 (minI w.2)) (by omega) e4 (Nat.le_refl 1) rfl ?_)); conv => whnf) | (refine Br.dec (fun _ => ?_) (fun _ => ?_) <;> first | (exfalso; omega) | conv => whnf))
        exact ⟨q + 1, hq2, by omega, Le.of_eq (by rw [e5, List.map_set]; rfl)⟩
      · rw [List.take_of_length_le hq2]
        conv => whnf
        repeat' (first | (refine Wr.i64 (by omega) (by omega) ?_; conv => whnf) | (refine Br.dec (fun _ => ?_) (fun _ => ?_) <;> first | (exfalso; omega) | conv => whnf))
        exact ⟨(m, setMany w.2 (minI w.2) part, w.1), ⟨by simp only; omega, h6⟩, Nat.lt_succ_self m, Le.mk [] (by simp) (by simp) (by simp) (.cons (.refl _) (.cons (.refl _) (.cons (.refl _) (.cons (.refl _) (.cons (.of_eq (by rw [show (m : Int) = ((m + 1 : Nat) : Int) - 1 by omega]; rfl)) .nil))))) (.cons rfl (.refl _) (.cons rfl (.refl _) .nil))⟩
end Go.Ab
namespace Go.Ab
open Go.Proofs
theorem OpK.frz {P : Program} {T : Tab} {N : Nat} {o : Oper} {K : St → Prop} {s : St} (hT : TabOK P T) (gs : List (List Nat)) (h : frzK gs s fun s' => opW P T N s' o K) : OpK P N s o K := ⟨fun σ β a w hr Q => by
  obtain ⟨s1, h1, hle⟩ := frzK_spec (N := N) h
  obtain ⟨σ1, β1, hr1, hl1⟩ := hle σ β a w hr
  exact Oper.wp_mono (fun a' w' ⟨σ', β', s2, hK, hr', hl⟩ => ⟨σ', β', s2, hK, hr', hl1.trans hl⟩) (opW_sound hT h1 hr1 Q)⟩
theorem putR_mem {N : List (List Int)} {a : Nat} (ha : a < N.length) {b y : Int} {k : Nat} : y ∈ (putR N a b).getD k [] ↔ y ∈ N.getD k [] ∨ (a = k ∧ y = b) := by
  unfold putR
  rw [getD_set ha]
  split
  · rename_i h
    rw [insI_mem, h]
    simp
  · rename_i h
    simp [h]
theorem addE_len2 {n : Nat} {g : List (List Int) × List (List Int)} (hl : g.2.length = n) (e : Int × Int) : (addE n g e).2.length = n := by
  rw [addE_2]
  cases (hasB n e.1 && hasB n e.2 && !(g.1.getD e.1.toNat []).contains e.2) with
  | true => rw [cond_true]; unfold putR; rw [List.length_set]; exact hl
  | false => exact hl
/-- The two rows of a graph tell the same. -/
structure MirG (n : Nat) (g : List (List Int) × List (List Int)) : Prop where
  l1 : g.1.length = n
  l2 : g.2.length = n
  m : ∀ x y : Int, 0 ≤ x ∧ x < n → 0 ≤ y ∧ y < n → (y ∈ g.1.getD x.toNat [] ↔ x ∈ g.2.getD y.toNat [])
theorem MirG.add {n : Nat} {g : List (List Int) × List (List Int)} (h : MirG n g) (e : Int × Int) : MirG n (addE n g e) := by
  refine ⟨addE_len h.l1 e, addE_len2 h.l2 e, fun x y hx hy => ?_⟩
  rw [addE_1, addE_2]
  cases hc : (hasB n e.1 && hasB n e.2 && !(g.1.getD e.1.toNat []).contains e.2) with
  | true =>
    simp only [Bool.and_eq_true] at hc
    have h1 := hasB_iff hc.1.1
    have h2 := hasB_iff hc.1.2
    rw [cond_true, cond_true, putR_mem (by rw [h.l1]; omega), putR_mem (by rw [h.l2]; omega), h.m x y hx hy]
    constructor
    · rintro (h3 | ⟨h3, h4⟩)
      · exact .inl h3
      · exact .inr ⟨by omega, by omega⟩
    · rintro (h3 | ⟨h3, h4⟩)
      · exact .inl h3
      · exact .inr ⟨by omega, by omega⟩
  | false => exact h.m x y hx hy
theorem MirG.fold {n : Nat} : ∀ (l : List (Int × Int)) {g : List (List Int) × List (List Int)}, MirG n g → MirG n (l.foldl (addE n) g)
  | [], _, h => h
  | e :: r, _, h => MirG.fold r (h.add e)
theorem graph_mir (n : Nat) (l : List (Int × Int)) : MirG n (graphE n l) := by
  refine MirG.fold l ⟨by simp, by simp, fun x y _ _ => ?_⟩
  have : ∀ k, (List.replicate n ([] : List Int)).getD k [] = [] := fun k => by
    rw [List.getD_eq_getElem?_getD, List.getElem?_replicate]
    split <;> rfl
  simp only [this]
  simp
theorem rowE_lt {n : Nat} {rows : List (List Int)} (hl : rows.length = n) {x y : Int} (h : rowE rows x y) : 0 ≤ x ∧ x < n := by
  refine ⟨h.1, ?_⟩
  have h2 := h.2
  unfold rowR at h2
  rcases Nat.lt_or_ge x.toNat rows.length with h3 | h3
  · omega
  · rw [List.getD_eq_getElem?_getD, List.getElem?_eq_none h3] at h2
    simp at h2
theorem graph_mirE (n : Nat) (l : List (Int × Int)) (x y : Int) : rowE (graphE n l).2 x y ↔ rowE (graphE n l).1 y x := by
  obtain ⟨h1, h2⟩ := graphE_in n l
  have hm := graph_mir n l
  constructor
  · intro h
    have hx := rowE_lt hm.l2 h
    have hy := row_in h2 h.2
    exact ⟨hy.1, (hm.m y x hy hx).2 h.2⟩
  · intro h
    have hx := rowE_lt hm.l1 h
    have hy := row_in h1 h.2
    exact ⟨hy.1, (hm.m y x hx hy).1 h.2⟩
theorem graph_rowE {n : Nat} {l : List (Int × Int)} {x y : Int} : rowE (graphE n l).1 x y ↔ (x, y) ∈ l ∧ hasB n x = true ∧ hasB n y = true := by
  constructor
  · intro h
    have hx := rowE_lt (graph_mir n l).l1 h
    have := (graph_rowR hx).1 h.2
    exact ⟨this.1, hasB_of hx, this.2⟩
  · rintro ⟨h1, h2, h3⟩
    have hx := hasB_iff h2
    exact ⟨hx.1, (graph_rowR hx).2 ⟨h1, h3⟩⟩
def openS (part : List Int) (o : List Bool) (t : Int × Int) : List Bool := if part.getD t.1.toNat 0 = part.getD t.2.toNat 0 then o else o.set (part.getD t.1.toNat 0).toNat true
def open0 (n : Nat) (part : List Int) : List Bool := ((List.replicate n false).set (part.getD 0 0).toNat true).set (part.getD (n - 1) 0).toNat true
def openB (n : Nat) (part : List Int) (prs : List (Int × Int)) : List Bool := prs.foldl (openS part) (open0 n part)
def trapR (plc : Int → Int) (part : List Int) (i q : Nat) : List Int := ((List.range q).filter fun j => part.getD j 0 == (i : Int)).map fun (j : Nat) => plc j
def trapT (part : List Int) (op : List Bool) (i : Nat) : Bool := part.getD i 0 == (i : Int) && !op.getD i false
def trapL (plc : Int → Int) (part : List Int) (op : List Bool) (q : Nat) : List (List Int) := ((List.range q).filter (trapT part op)).map fun i => trapR plc part i part.length
def prsW (w : Way) (f : Pr) : List (Int × Int) := w.real.map (ixP w.p w.j f w.n)
def partW (w : Way) (f : Pr) : List Int := partR w.n.toNat (graphE w.n.toNat (prsW w f)).1
def trapsW (w : Way) (f : Pr) : List (List Int) := trapL (placeI w.p w.j w.n) (partW w f) (openB w.n.toNat (partW w f) (prsW w f)) (partW w f).length
theorem openS_len (part : List Int) (o : List Bool) (t : Int × Int) : (openS part o t).length = o.length := by
  unfold openS
  split <;> simp
theorem partR_in {n : Nat} {rows : List (List Int)} (hr : rowsIn n rows) {k : Nat} (hk : k < n) : 0 ≤ (partR n rows).getD k 0 ∧ (partR n rows).getD k 0 < n := by
  have hx : 0 ≤ (k : Int) ∧ (k : Int) < n := by omega
  have := partR_spec hr hx
  exact rch_in hr hx this.scc.1
theorem trapR_succ (plc : Int → Int) (part : List Int) (i q : Nat) : trapR plc part i (q + 1) = if part.getD q 0 = (i : Int) then trapR plc part i q ++ [plc q] else trapR plc part i q := by
  unfold trapR
  rw [List.range_succ, List.filter_append, List.map_append]
  by_cases h : part.getD q 0 = (i : Int)
  · rw [if_pos h, List.filter_cons_of_pos (by rw [h]; simp)]
    rfl
  · rw [if_neg h, List.filter_cons_of_neg (by simpa using h)]
    simp
theorem trapL_succ (plc : Int → Int) (part : List Int) (op : List Bool) (q : Nat) : trapL plc part op (q + 1) = if trapT part op q = true then trapL plc part op q ++ [trapR plc part q part.length] else trapL plc part op q := by
  unfold trapL
  rw [List.range_succ, List.filter_append, List.map_append]
  by_cases h : trapT part op q = true
  · rw [if_pos h, List.filter_cons_of_pos h]
    rfl
  · rw [if_neg h, List.filter_cons_of_neg h]
    simp
theorem trapR_len (plc : Int → Int) (part : List Int) (i q : Nat) : (trapR plc part i q).length ≤ q := by
  unfold trapR
  rw [List.length_map]
  exact Nat.le_trans (List.length_filter_le _ _) (by simp)
theorem trapL_len (plc : Int → Int) (part : List Int) (op : List Bool) (q : Nat) : (trapL plc part op q).length ≤ q := by
  unfold trapL
  rw [List.length_map]
  exact Nat.le_trans (List.length_filter_le _ _) (by simp)
theorem openF_len (part : List Int) : ∀ (l : List (Int × Int)) (o : List Bool), (l.foldl (openS part) o).length = o.length
  | [], _ => rfl
  | t :: r, o => by rw [List.foldl_cons, openF_len part r, openS_len]
theorem openB_len (n : Nat) (part : List Int) (l : List (Int × Int)) : (l.foldl (openS part) (open0 n part)).length = n := by
  rw [openF_len]
  simp [open0]
end Go.Ab
namespace Go.Ab
open Go.Proofs
set_option maxHeartbeats 4000000 in
set_option maxRecDepth 100000 in
theorem way_Way_Traps (w : Way) (f : Pr) (n : Nat) (hw : w.n = n) (hj : w.p.procs[w.j]? = some f) (hc : cntP w.p.procs ≤ 1000) (hn : n ≤ 5000) (hn2 : 2 ≤ n) (hlen : w.real.length ≤ 1000000) (hr : ∀ t ∈ prsW w f, (0 ≤ t.1 ∧ t.1 < n) ∧ 0 ≤ t.2 ∧ t.2 < n) : SpecP Tryz.prog 94 [.ip w.cells] (fun r => r = eMat (trapsW w f)) := by
  refine SpecP.body I_way_Way_Traps tabOK Tryz.func94 rfl Tryz.call94 (by show 1 ≤ _; decide) ?_
  conv => whnf
  have hgi := graphE_in n (prsW w f)
  have hpart : partW w f = partR n (graphE n (prsW w f)).1 := by unfold partW; rw [hw]; rfl
  have htr : trapsW w f = trapL (placeI w.p w.j w.n) (partW w f) (openB n (partW w f) (prsW w f)) n := by unfold trapsW; rw [hpart, partR_len, hw]; rfl
  have hpin : ∀ k, k < n → 0 ≤ (partW w f).getD k 0 ∧ (partW w f).getD k 0 < n := fun k hk => by rw [hpart]; exact partR_in hgi.1 hk
  have hpl : (partW w f).length = n := by rw [hpart, partR_len]
  have hcp := graph_Graph_Parts n hn (graphE n (prsW w f)) hgi.1 hgi.2 (graph_mirE n (prsW w f))
  rw [← hpart] at hcp
  rw [htr]
  clear htr hpart hgi
  generalize partW w f = part at hpin hpl hcp ⊢
  have ha0 := hpin 0 (by omega)
  have ha1 := hpin (n - 1) (by omega)
  have hp0 := intAt (l := part) (i := 0) (by omega)
  have hp1 := intAt (l := part) (i := n - 1) (by omega)
  have e0 : (List.replicate n AV.ff)[(part.getD 0 0).toNat]? = some .ff := by rw [List.getElem?_replicate, if_pos (by omega)]
  have e1 : ((List.replicate n AV.ff).set (part.getD 0 0).toNat .tt)[(part.getD (n - 1) 0).toNat]? = some (bv (((List.replicate n false).set (part.getD 0 0).toNat true).getD (part.getD (n - 1) 0).toNat false)) := by
    have : (List.replicate n AV.ff).set (part.getD 0 0).toNat .tt = ((List.replicate n false).set (part.getD 0 0).toNat true).map bv := by
      rw [List.map_set, List.map_replicate]
      rfl
    rw [this]
    exact bvAt (by rw [List.length_set, List.length_replicate]; omega)
  have hplm : (part.map (AV.int .i64)).length = n := by rw [List.length_map, hpl]
  repeat' ((first | (intro (_ : _ ≤ 9223372036854775807)) | (refine DrawK.auto tabOK mixed (by kernel_rfl) ?_) | (refine And.intro rfl ?_) | (refine And.intro ⟨rfl, rfl, by decide⟩ ?_) | (refine Wr.i64 (by omega) (by omega) ?_) | (refine CallK.pure (way_Way_graph w f n hw hj hc hn w.real hlen) (.cons (Sub.refl _) (.cons (Sub.refl _) .nil)) ?_; rintro _ rfl) | (refine CallK.pure hcp (.cons (Sub.refl _) .nil) ?_; rintro _ rfl) | (refine MkK.mk n hw (by show 1 * n ≤ 140737488355328; omega) (by unfold maxLen; omega) ?_) | (refine IdxK.at (k := 0) rfl hp0 rfl ?_) | (refine IdxK.at (k := n-1) (by omega) hp1 rfl ?_) | (refine IdxL.mk (part.getD 0 0).toNat (by omega) (by omega) ?_) | (refine IdxL.mk (part.getD (n-1) 0).toNat (by omega) (by omega) ?_) | (refine StOwn.mk (part.getD 0 0).toNat 0 .ff .tt (show (0+(part.getD 0 0).toNat)*1 = (part.getD 0 0).toNat*1+0 by omega) e0 (Nat.le_refl 1) rfl ?_) | (refine CallK.pure (way_Way_Pairs w f hj hc (by omega) w.real hlen) (.cons (Sub.refl _) (.cons (Sub.refl _) .nil)) ?_; rintro _ rfl) | (refine StOwn.mk (part.getD (n-1) 0).toNat 0 _ .tt (show (0+(part.getD (n-1) 0).toNat)*1 = (part.getD (n-1) 0).toNat*1+0 by omega) e1 (Nat.le_refl 1) (by cases ((List.replicate n false).set (part.getD 0 0).toNat true).getD (part.getD (n-1) 0).toNat false <;> rfl) ?_)); conv => whnf)
  have hprl : (prsW w f).length ≤ 1000000 := by unfold prsW; rw [List.length_map]; exact hlen
  have hpl2 : (avP (prsW w f)).length = (prsW w f).length := by simp [avP]
  refine LoopK.inv tabOK (fun x : Nat × List Bool => ⟨[(0, .p (.ip w.cells)), (3, .p (eInts part)), (4, .hd 0 0 n), (43, .p (.sl (avP (prsW w f)))), (44, .p (.int .i64 (avP (prsW w f)).length)), (45, .p (.int .i64 x.1))], [(0, .own 4 1 (x.2.map bv))]⟩)
    (fun x => x.1 ≤ (prsW w f).length ∧ x.2 = ((prsW w f).take x.1).foldl (openS part) (open0 n part)) (fun x => (prsW w f).length - x.1) (0, open0 n part)
    (Le.mk [] (by simp) (by simp) (by simp) (.cons (.refl _) (.cons (.refl _) (.cons (.refl _) (.cons (.refl _) (.cons (.refl _) (.cons (.refl _) .nil)))))) (.cons rfl (.of_eq (by unfold open0; rw [List.map_set, List.map_set, List.map_replicate]; rfl)) .nil))
    ⟨Nat.zero_le _, rfl⟩ ?_
  rintro ⟨m, o⟩ ⟨h1, h2⟩
  simp only at h1 h2 ⊢
  have hol : o.length = n := by rw [h2]; exact openB_len n part _
  rcases Nat.lt_or_ge m (prsW w f).length with hm | hm
  · obtain ⟨⟨h3, h4⟩, h5, h6⟩ := hr _ (List.getElem_mem hm)
    have h7 := hpin (prsW w f)[m].1.toNat (by omega)
    have h8 := hpin (prsW w f)[m].2.toNat (by omega)
    have e2 := intAt (l := part) (i := (prsW w f)[m].1.toNat) (by omega)
    have e3 := intAt (l := part) (i := (prsW w f)[m].2.toNat) (by omega)
    have e4 := bvAt (l := o) (i := (part.getD (prsW w f)[m].1.toNat 0).toNat) (by omega)
    have hme : (avP (prsW w f))[m]? = some (.agg [.int .i64 (prsW w f)[m].1, .int .i64 (prsW w f)[m].2]) := by simp [avP, hm]
    have e5 : ((prsW w f).take (m + 1)).foldl (openS part) (open0 n part) = openS part o (prsW w f)[m] := by rw [List.take_succ_eq_append_getElem hm, List.foldl_append, ← h2]; rfl
    conv => whnf
    repeat' (first | ((first | (refine DrawK.auto tabOK mixed (by kernel_rfl) ?_) | (refine And.intro rfl ?_) | (refine Wr.i64 (by omega) (by omega) ?_) | (refine IdxK.at (k := m) rfl hme rfl ?_) | (refine IdxL.mk 0 rfl (by decide) ?_) | (refine IdxL.mk 1 rfl (by decide) ?_) | (refine IdxK.at (k := (prsW w f)[m].1.toNat) (by omega) e2 rfl ?_) | (refine IdxK.at (k := (prsW w f)[m].2.toNat) (by omega) e3 rfl ?_) | (refine IdxL.mk (part.getD (prsW w f)[m].1.toNat 0).toNat (by omega) (by omega) ?_) | (refine StOwn.mk (part.getD (prsW w f)[m].1.toNat 0).toNat 0 _ .tt (by omega) e4 (Nat.le_refl 1) (by cases o.getD (part.getD (prsW w f)[m].1.toNat 0).toNat false <;> rfl) ?_)); conv => whnf) | (refine Br.dec (fun _ => ?_) (fun _ => ?_) <;> first | (exfalso; omega) | conv => whnf) | (refine Br.dec2 (fun _ => ?_) (fun _ => ?_) <;> first | (exfalso; omega) | conv => whnf))
    all_goals first
      | (have hq : part.getD (prsW w f)[m].1.toNat 0 = part.getD (prsW w f)[m].2.toNat 0 := by assumption
         exact ⟨(m + 1, o), ⟨by simp only; omega, by simp only; rw [e5]; unfold openS; rw [if_pos hq]⟩, by simp only; omega, Le.of_eq rfl⟩)
      | (have hq : ¬ part.getD (prsW w f)[m].1.toNat 0 = part.getD (prsW w f)[m].2.toNat 0 := by assumption
         exact ⟨(m + 1, o.set (part.getD (prsW w f)[m].1.toNat 0).toNat true), ⟨by simp only; omega, by simp only; rw [e5]; unfold openS; rw [if_neg hq]⟩, by simp only; omega, Le.of_eq (by simp only [List.map_set]; rfl)⟩)
  · rw [List.take_of_length_le hm] at h2
    have hop : openB n part (prsW w f) = o := h2.symm
    rw [hop]
    clear hop h2 e0 e1 hp0 hp1 hcp
    conv => whnf
    repeat' (first | (intro (_ : _ ≤ 9223372036854775807); conv => whnf) | (refine Br.dec (fun _ => ?_) (fun _ => ?_) <;> first | (exfalso; omega) | conv => whnf))
    refine LoopK.inv tabOK (fun q : Nat => ⟨[(0, .p (.ip w.cells)), (3, .p (eInts part)), (4, .hd 0 0 n), (7, .hd 1 0 (trapL (placeI w.p w.j w.n) part o q).length), (69, .p (.int .i64 (part.map (AV.int .i64)).length)), (70, .p (.int .i64 q))], [(0, .own 4 1 (o.map bv)), (1, .own 40 1 ((avI (trapL (placeI w.p w.j w.n) part o q)).map AV.sl))]⟩)
      (fun q => q ≤ n) (fun q => n - q) 0
      (Le.mk [(1, .own 40 1 [])] (by simp [Chunk.new0]; rfl) (by simp) (by simp) (.cons (.refl _) (.cons (.refl _) (.cons (.refl _) (.cons (.nil List.mem_cons_self) (.cons (.refl _) (.cons (.refl _) .nil)))))) (.cons rfl (.refl _) (.new List.mem_cons_self .nil)))
      (Nat.zero_le _) ?_
    intro q hqn
    have hLl := trapL_len (placeI w.p w.j w.n) part o q
    rcases Nat.lt_or_ge q n with hq | hq
    · have e2 := intAt (l := part) (i := q) (by omega)
      have e3 := bvAt (l := o) (i := q) (by omega)
      have hsucc := trapL_succ (placeI w.p w.j w.n) part o q
      generalize trapL (placeI w.p w.j w.n) part o q = acc at hLl hsucc ⊢
      have hpe : part[q] = part.getD q 0 := by rw [List.getD_eq_getElem?_getD, List.getElem?_eq_getElem]; rfl
      cases hb : o.getD q false with
      | true =>
        rw [hb] at e3
        have ht : ¬ trapT part o q = true := by unfold trapT; rw [hb]; simp
        rw [if_neg ht] at hsucc
        conv => whnf
        repeat' (first | ((first | (refine And.intro rfl ?_) | (refine IdxK.map (by omega) (fun _ => rfl) ?_) | (refine Wr.i64 (by omega) (by omega) ?_) | (refine IdxL.mk q rfl (by omega) ?_) | (refine LdOwn.mk q 0 .tt (by omega) e3 ?_)); conv => whnf) | (refine Br.dec (fun _ => ?_) (fun _ => ?_) <;> first | (exfalso; omega) | conv => whnf) | (refine Br.dec2 (fun _ => ?_) (fun _ => ?_) <;> first | (exfalso; omega) | conv => whnf))
        all_goals exact ⟨q + 1, hq, by omega, Le.of_eq (by rw [hsucc]; rfl)⟩
      | false =>
        rw [hb] at e3
        conv => whnf
        repeat' (first | ((first | (intro (_ : _ ≤ 9223372036854775807)) | (refine And.intro rfl ?_) | (refine IdxK.map (by omega) (fun _ => rfl) ?_) | (refine Wr.i64 (by omega) (by omega) ?_) | (refine IdxL.mk q rfl (by omega) ?_) | (refine LdOwn.mk q 0 .ff (by omega) e3 ?_)); conv => whnf) | (refine Br.dec (fun _ => ?_) (fun _ => ?_) <;> first | (exfalso; omega) | conv => whnf) | (refine Br.dec2 (fun _ => ?_) (fun _ => ?_) <;> first | (exfalso; omega) | conv => whnf))
        all_goals try
          have hne : ¬ part.getD q 0 = (q : Int) := by omega
          have ht : ¬ trapT part o q = true := fun h => by
            unfold trapT at h
            rw [Bool.and_eq_true, beq_iff_eq] at h
            exact hne h.1
          rw [if_neg ht] at hsucc
          exact ⟨q + 1, hq, by omega, Le.of_eq (by rw [hsucc]; rfl)⟩
        have hpq : part.getD q 0 = (q : Int) := by omega
        have ht : trapT part o q = true := by unfold trapT; rw [hb, hpq]; simp
        rw [if_pos ht, hpl] at hsucc
        refine LoopK.inv tabOK (fun z : Nat => ⟨[(0, .p (.ip w.cells)), (3, .p (eInts part)), (4, .hd 0 0 n), (7, .hd 1 0 acc.length), (8, .p (.int .i64 q)), (9, .hd 2 0 (trapR (placeI w.p w.j w.n) part q z).length), (69, .p (.int .i64 (part.map (AV.int .i64)).length)), (70, .p (.int .i64 q)), (86, .p (.int .i64 (part.map (AV.int .i64)).length)), (87, .p (.int .i64 z))], [(0, .own 4 1 (o.map bv)), (1, .own 40 1 ((avI acc).map AV.sl)), (2, .own 3 1 ((trapR (placeI w.p w.j w.n) part q z).map (.int .i64)))]⟩)
          (fun z => z ≤ n) (fun z => n - z) 0
          (Le.mk [(2, .own 3 1 [])] (by simp [Chunk.new0]; rfl) (by simp) (by simp) (.cons (.refl _) (.cons (.refl _) (.cons (.refl _) (.cons (.refl _) (.cons (.refl _) (.cons (.nil List.mem_cons_self) (.cons (.refl _) (.cons (.refl _) (.cons (.refl _) (.cons (.refl _) .nil)))))))))) (.cons rfl (.refl _) (.cons rfl (.refl _) (.new List.mem_cons_self .nil))))
          (Nat.zero_le _) ?_
        intro z hzn
        have hRl := trapR_len (placeI w.p w.j w.n) part q z
        rcases Nat.lt_or_ge z n with hz | hz
        · have e4 := intAt (l := part) (i := z) (by omega)
          have hs2 := trapR_succ (placeI w.p w.j w.n) part q z
          generalize trapR (placeI w.p w.j w.n) part q z = l at hRl hs2 ⊢
          conv => whnf
          repeat' (first | ((first | (refine And.intro rfl ?_) | (refine And.intro ⟨by decide, by decide⟩ ?_) | (refine BsK.pure (fun x hx => by rcases List.mem_singleton.1 hx with rfl; rfl) rfl ?_) | (refine IdxK.map (by omega) (fun _ => rfl) ?_) | (refine Wr.i64 (by omega) (by omega) ?_) | (refine CallK.pure (way_Way_Place w f hj hc (by omega) z (by omega)) (.cons (Sub.refl _) (.cons (Sub.refl _) .nil)) ?_; rintro _ rfl) | (refine AppK.int1 (by simp) (by simp; omega) ?_)); conv => whnf) | (refine Br.dec (fun _ => ?_) (fun _ => ?_) <;> first | (exfalso; omega) | conv => whnf))
          have hpz : part[z] = part.getD z 0 := by rw [List.getD_eq_getElem?_getD, List.getElem?_eq_getElem]; rfl
          · rw [if_pos (by omega)] at hs2
            exact ⟨z + 1, hz, by omega, Le.of_eq (by rw [hs2, List.length_append, List.map_append]; rfl)⟩
          · have hpz : part[z] = part.getD z 0 := by rw [List.getD_eq_getElem?_getD, List.getElem?_eq_getElem]; rfl
            rw [if_neg (by omega)] at hs2
            exact ⟨z + 1, hz, by omega, Le.of_eq (by rw [hs2]; rfl)⟩
        · have hze : z = n := by omega
          subst hze
          conv => whnf
          repeat' (refine Br.dec (fun _ => ?_) (fun _ => ?_) <;> first | (exfalso; omega) | conv => whnf)
          have hfl : (trapR (placeI w.p w.j w.n) part q z).length = ((trapR (placeI w.p w.j w.n) part q z).map (AV.int .i64)).length := by simp
          refine OpK.frz tabOK [[9, 104]] ?_
          conv => whnf
          refine LenK.mk hfl ?_
          conv => whnf
          refine LenK.mk hfl ?_
          conv => whnf
          repeat' ((first | (refine And.intro rfl ?_) | (refine And.intro ⟨by decide, by decide⟩ ?_) | (refine BsK.pure (fun x hx => by rcases List.mem_singleton.1 hx with rfl; rfl) rfl ?_) | (refine Wr.i64 (by omega) (by omega) ?_) | (refine AppK.mk (by simp [avI]) rfl (by show (acc.length+1) * 24 ≤ 140737488355328; omega) (by show acc.length+1 ≤ 9223372036854775807; omega) (fun x hx => by rcases List.mem_singleton.1 hx with rfl; exact ⟨rfl, rfl⟩) ?_)); conv => whnf)
          exact ⟨q + 1, hq, by omega, Le.of_eq (by rw [hsucc]; simp only [avI, List.length_append, List.map_append]; rfl)⟩
    · have hqe : q = n := by omega
      subst hqe
      conv => whnf
      repeat' (refine Br.dec (fun _ => ?_) (fun _ => ?_) <;> first | (exfalso; omega) | conv => whnf)
      exact ⟨_, .hd rfl (by simp [avI]), rfl⟩
end Go.Ab
namespace Go.Ab
open Go.Proofs
/-- The step out of a trap, if the statement jumps by goto. -/
def vOf (p : Pg) (id : Int) : List Step := match stAt p id with
  | some s => if s.kind = 10 then [⟨id, -1, 3⟩] else []
  | none => []
def virtW (w : Way) (f : Pr) : List Step := (trapsW w f).flatMap fun l => l.flatMap (vOf w.p)
theorem vOf_len (p : Pg) (id : Int) : (vOf p id).length ≤ 1 := by
  unfold vOf
  split
  · split <;> simp
  · simp
theorem flatMap_take_len {α β : Type} {g : α → List β} {c : Nat} : ∀ (l : List α), (∀ x ∈ l, (g x).length ≤ c) → (l.flatMap g).length ≤ l.length * c
  | [], _ => by simp
  | a :: r, h => by
    have h1 := h a List.mem_cons_self
    have h2 := flatMap_take_len r fun x hx => h x (List.mem_cons_of_mem _ hx)
    rw [List.flatMap_cons, List.length_append, List.length_cons, Nat.add_mul]
    omega
set_option maxHeartbeats 4000000 in
set_option maxRecDepth 100000 in
theorem way_virtual (w : Way) (f : Pr) (n : Nat) (hw : w.n = n) (hj : w.p.procs[w.j]? = some f) (hc : cntP w.p.procs ≤ 1000) (hn : n ≤ 5000) (hn2 : 2 ≤ n) (hlen : w.real.length ≤ 1000000) (hr : ∀ t ∈ prsW w f, (0 ≤ t.1 ∧ t.1 < n) ∧ 0 ≤ t.2 ∧ t.2 < n)
    (htl : (trapsW w f).length ≤ 5000) (hti : ∀ l ∈ trapsW w f, l.length ≤ 5000 ∧ ∀ id ∈ l, 1 ≤ id ∧ id ≤ (sheetOf w.p).l.length) :
    SpecH Tryz.prog 135 [.p (.ip w.cells)] [] (fun r H => r = .hd 0 0 (virtW w f).length ∧ H = [(0, .own 49 3 (avS (virtW w f)))]) := by
  refine SpecH.body I_way_Way_virtual tabOK Tryz.func135 rfl Tryz.call135 (by show 1 ≤ _; decide) ?_
  conv => whnf
  repeat' ((first | (intro (_ : _ ≤ 9223372036854775807)) | (refine CallK.pure (way_Way_Traps w f n hw hj hc hn hn2 hlen hr) (.cons (Sub.refl _) .nil) ?_; rintro _ rfl)); conv => whnf)
  unfold virtW
  generalize trapsW w f = ts at htl hti ⊢
  have hml : ((avI ts).map AV.sl).length = ts.length := by simp [avI]
  refine LoopK.inv tabOK (fun x : Nat × List Step => ⟨[(0, .p (.ip w.cells)), (3, .hd 0 0 x.2.length), (9, .p (eMat ts)), (10, .p (.int .i64 ((avI ts).map AV.sl).length)), (11, .p (.int .i64 x.1))], [(0, .own 49 3 (avS x.2))]⟩)
    (fun x => x.1 ≤ ts.length ∧ x.2.length ≤ x.1 * 5000 ∧ x.2 ++ (ts.drop x.1).flatMap (fun l => l.flatMap (vOf w.p)) = ts.flatMap fun l => l.flatMap (vOf w.p)) (fun x => ts.length - x.1) (0, [])
    (Le.mk [(0, .own 49 3 [])] (by simp [Chunk.new0]; rfl) (by simp) (by simp) (.cons (.refl _) (.cons (.nil List.mem_cons_self) (.cons (.refl _) (.cons (.refl _) (.cons (.refl _) .nil))))) (.new List.mem_cons_self .nil))
    ⟨Nat.zero_le _, by simp, rfl⟩ ?_
  rintro ⟨m, acc⟩ ⟨h1, h2, h3⟩
  simp only at h1 h2 h3 ⊢
  rcases Nat.lt_or_ge m ts.length with hm | hm
  rotate_left 1
  · rw [List.drop_eq_nil_of_le hm, List.flatMap_nil, List.append_nil] at h3
    conv => whnf
    repeat' (refine Br.dec (fun _ => ?_) (fun _ => ?_) <;> first | (exfalso; omega) | conv => whnf)
    exact ⟨_, LSub.refl _, by rw [h3], by rw [h3]⟩
  obtain ⟨hl1, hl2⟩ := hti _ (List.getElem_mem hm)
  have hrow : ((avI ts).map AV.sl)[m]? = some (.sl (ts[m].map (.int .i64))) := by simp [avI, hm]
  rw [flatMap_step hm] at h3
  conv => whnf
  repeat' (first | ((first | (intro (_ : _ ≤ 9223372036854775807)) | (refine IdxK.map (by omega) (fun _ => rfl) ?_)); conv => whnf) | (refine Br.dec (fun _ => ?_) (fun _ => ?_) <;> first | (exfalso; omega) | conv => whnf))
  have hav : (avI ts)[m]'(by simp [avI]; exact hm) = ts[m].map (.int .i64) := by simp [avI]
  rw [hav]
  generalize ts[m] = l at hl1 hl2 h3 ⊢
  have hll : (l.map (AV.int .i64)).length = l.length := List.length_map _
  generalize htot : (ts.flatMap fun l => l.flatMap (vOf w.p)) = tot at h3 ⊢
  refine LoopK.inv tabOK (fun x : Nat × List Step => ⟨[(0, .p (.ip w.cells)), (3, .hd 0 0 x.2.length), (9, .p (eMat ts)), (10, .p (.int .i64 ((avI ts).map AV.sl).length)), (11, .p (.int .i64 m)), (15, .p (eInts l)), (16, .p (.int .i64 (l.map (AV.int .i64)).length)), (17, .p (.int .i64 x.1))], [(0, .own 49 3 (avS x.2))]⟩)
    (fun x => x.1 ≤ l.length ∧ x.2.length ≤ m * 5000 + x.1 ∧ x.2 ++ ((l.drop x.1).flatMap (vOf w.p) ++ (ts.drop (m + 1)).flatMap (fun l => l.flatMap (vOf w.p))) = tot) (fun x => l.length - x.1) (0, acc) (Le.of_eq rfl) ⟨Nat.zero_le _, by simp only; omega, h3⟩ ?_
  rintro ⟨k, acc2⟩ ⟨h4, h5, h6⟩
  simp only at h4 h5 h6 ⊢
  rcases Nat.lt_or_ge k l.length with hk | hk
  rotate_left 1
  · rw [List.drop_eq_nil_of_le hk] at h6
    conv => whnf
    repeat' (first | (refine Wr.i64 (by omega) (by omega) ?_; conv => whnf) | (refine Br.dec (fun _ => ?_) (fun _ => ?_) <;> first | (exfalso; omega) | conv => whnf))
    exact ⟨(m + 1, acc2), ⟨hm, by simp only; omega, by simpa using h6⟩, by simp only; omega, Le.of_eq rfl⟩
  obtain ⟨h7, h8⟩ := hl2 _ (List.getElem_mem hk)
  obtain ⟨_, _, _, hsl, _⟩ := sheet_spec w.p
  have hlt : (l[k] - 1).toNat < (sheetOf w.p).l.length := by omega
  have hu : ∃ u : Item, ((sheetOf w.p).l.map fun i => AV.agg i.cells)[(l[k] - 1).toNat]? = some (.agg u.cells) ∧ stAt w.p l[k] = some u.s := ⟨_, by rw [List.getElem?_map, List.getElem?_eq_getElem hlt]; rfl, by unfold stAt; rw [List.getElem?_eq_getElem hlt]; rfl⟩
  obtain ⟨u, hu1, hu2⟩ := hu
  rw [flatMap_step hk] at h6
  have hv : vOf w.p l[k] = if u.s.kind = 10 then [⟨l[k], -1, 3⟩] else [] := by unfold vOf; rw [hu2]
  rw [hv] at h6
  conv => whnf
  repeat' (first | ((first | (refine And.intro rfl ?_) | (refine And.intro ⟨by decide, by decide⟩ ?_) | (refine BsK.pure (fun x hx => by rcases List.mem_singleton.1 hx with rfl; rfl) rfl ?_) | (refine IdxK.map (by omega) (fun _ => rfl) ?_) | (refine Wr.i64 (by omega) (by omega) ?_) | (refine IdxK.at (by omega) hu1 rfl ?_) | (refine AppK.mk (by simp [avS]) rfl (by show (acc2.length+1) * 24 ≤ 140737488355328; omega) (by show acc2.length+1 ≤ 9223372036854775807; omega) (fun x hx => by rcases List.mem_singleton.1 hx with rfl; exact ⟨rfl, rfl⟩) ?_)); conv => whnf) | (refine Br.dec (fun _ => ?_) (fun _ => ?_) <;> first | (exfalso; omega) | conv => whnf))
  · rw [if_pos (by assumption)] at h6
    exact ⟨(k + 1, acc2 ++ [⟨l[k], -1, 3⟩]), ⟨hk, by simp; omega, by simpa using h6⟩, by simp only; omega, Le.of_eq (by simp only [avS, List.length_append, List.map_append]; rfl)⟩
  · rw [if_neg (by assumption)] at h6
    exact ⟨(k + 1, acc2), ⟨hk, by simp only; omega, by simpa using h6⟩, by simp only; omega, Le.of_eq rfl⟩
end Go.Ab
namespace Go.Ab
open Go.Proofs
/-- The step of a jump, were it none. -/
def fOf (it : Item) : List Step := if it.s.kind = 7 ∨ it.s.kind = 8 ∨ it.s.kind = 9 ∨ it.s.kind = 10 then [⟨it.s.id, it.next, 2⟩] else []
/-- What is asked of a way, so that its traps' steps can be told. -/
structure WayT (w : Way) (f : Pr) (n : Nat) : Prop where
  hw : w.n = n
  hj : w.p.procs[w.j]? = some f
  hc : cntP w.p.procs ≤ 1000
  hn : n ≤ 5000
  hn2 : 2 ≤ n
  hlen : w.real.length ≤ 1000000
  hr : ∀ t ∈ prsW w f, (0 ≤ t.1 ∧ t.1 < n) ∧ 0 ≤ t.2 ∧ t.2 < n
  htl : (trapsW w f).length ≤ 5000
  hti : ∀ l ∈ trapsW w f, l.length ≤ 5000 ∧ ∀ id ∈ l, 1 ≤ id ∧ id ≤ (sheetOf w.p).l.length
  hok : ∀ s ∈ w.real, okSt s
  hfk : ∀ it ∈ itsOf w.p w.j f, ∀ s ∈ fOf it, okSt s
theorem vOf_mem {p : Pg} {id : Int} {s : Step} (h : s ∈ vOf p id) : s = ⟨id, -1, 3⟩ := by
  unfold vOf at h
  split at h
  · split at h
    · simpa using h
    · simp at h
  · simp at h
theorem WayT.virt_ok {w : Way} {f : Pr} {n : Nat} (h : WayT w f n) : ∀ s ∈ virtW w f, okSt s := fun s hs => by
  unfold virtW at hs
  obtain ⟨l, hl, hs⟩ := List.mem_flatMap.1 hs
  obtain ⟨id, hid, hs⟩ := List.mem_flatMap.1 hs
  obtain ⟨_, _, _, hsl, _⟩ := sheet_spec w.p
  have h1 := (h.hti l hl).2 id hid
  have h2 := h.hc
  rw [vOf_mem hs]
  exact ⟨by show id ≠ _; omega, by show (-1 : Int) ≠ _; decide⟩
theorem WayT.virt_len {w : Way} {f : Pr} {n : Nat} (h : WayT w f n) : (virtW w f).length ≤ 25000000 := by
  have h1 := flatMap_take_len (g := fun l => l.flatMap (vOf w.p)) (c := 5000) (trapsW w f) fun l hl => by
    have h2 := flatMap_take_len (g := vOf w.p) (c := 1) l fun id _ => vOf_len w.p id
    have h3 := (h.hti l hl).1
    omega
  have h2 := h.htl
  unfold virtW
  omega
def dataW (w : Way) (f : Pr) : List Step := normS (virtW w f ++ w.real)
def augRaw (w : Way) (f : Pr) : List Step := virtW w f ++ w.real ++ [⟨0, -1, 2⟩] ++ (itsOf w.p w.j f).flatMap fOf
def augW (w : Way) (f : Pr) : List Step := normS (augRaw w f)
set_option maxHeartbeats 4000000 in
set_option maxRecDepth 100000 in
theorem way_Way_Data (w : Way) (f : Pr) (n : Nat) (h : WayT w f n) : SpecP Tryz.prog 93 [.ip w.cells] (fun r => r = eSteps (dataW w f)) := by
  refine SpecP.body I_way_Way_Data tabOK Tryz.func93 rfl Tryz.call93 (by show 1 ≤ _; decide) ?_
  conv => whnf
  have hlen := h.hlen
  have hvl := h.virt_len
  have hvok := h.virt_ok
  repeat' (first | ((first | (refine DrawK.auto tabOK mixed (by kernel_rfl) ?_) | (refine And.intro ⟨by decide, by decide⟩ ?_)); conv => whnf) | (refine CallK.heap [] 0 (ArgsH.cons (LSub.refl _) ArgsH.nil) BlksH.nil (way_virtual w f n h.hw h.hj h.hc h.hn h.hn2 h.hlen h.hr h.htl h.hti) rfl rfl ?_; rintro l' H' ⟨rfl, rfl⟩; conv => whnf))
  have hml : (w.real.map fun s => AV.agg s.cells).length = w.real.length := List.length_map _
  have hvm : (avS (virtW w f)).length = (virtW w f).length := by simp [avS]
  refine AppK.mk hvm.symm rfl (by rw [hml]; show ((virtW w f).length + w.real.length) * 24 ≤ 140737488355328; omega) (by rw [hml]; show (virtW w f).length + w.real.length ≤ 9223372036854775807; omega) (fun x hx => by obtain ⟨s, _, rfl⟩ := List.mem_map.1 hx; exact ⟨rfl, rfl⟩) ?_
  conv => whnf
  have happ : avS (virtW w f) ++ (w.real.map fun s => AV.agg s.cells) = avS (virtW w f ++ w.real) := by simp [avS]
  have hlp : (virtW w f).length + (w.real.map fun s => AV.agg s.cells).length = (virtW w f ++ w.real).length := by simp
  rw [happ, hlp]
  repeat' (refine CallK.heap [(1000, 0)] 0 (by repeat' (first | exact ArgsH.nil | refine ArgsH.cons ?_ ?_ | exact LSub.refl _ | exact LSub.p Sub.nils | exact LSub.p (Sub.tt rfl) | exact LSub.p (Sub.ff rfl) | exact LSub.p (Sub.int (by omega)))) (by refine BlksH.cons (j := 0) rfl rfl ?_ ?_; exact CSub.refl _; exact BlksH.nil) (flat_Sort (virtW w f ++ w.real) (fun s hs => (List.mem_append.1 hs).elim (hvok s) (h.hok s)) (by rw [List.length_append]; omega)) rfl rfl ?_; rintro l' H' ⟨rfl, rfl⟩; conv => whnf)
  exact ⟨_, .hd rfl (by simp [avS]), rfl⟩
set_option maxRecDepth 100000 in
theorem way_Way_Aug (w : Way) (f : Pr) (n : Nat) (h : WayT w f n) : SpecP Tryz.prog 92 [.ip w.cells] (fun r => r = eSteps (augW w f)) := by
  refine SpecP.body I_way_Way_Aug tabOK Tryz.func92 rfl Tryz.call92 (by show 1 ≤ _; decide) ?_
  conv => whnf
  have hlen := h.hlen
  have hvl := h.virt_len
  have hvok := h.virt_ok
  have hcc := h.hc
  have hits : itL w.j 0 (-1) 0 (offN w.p.procs w.j) f.body = itsOf w.p w.j f := rfl
  repeat' (first | ((first | (refine DrawK.auto tabOK mixed (by kernel_rfl) ?_) | (refine And.intro ⟨by decide, by decide⟩ ?_)); conv => whnf) | (refine CallK.heap [] 0 (ArgsH.cons (LSub.refl _) ArgsH.nil) BlksH.nil (way_virtual w f n h.hw h.hj h.hc h.hn h.hn2 h.hlen h.hr h.htl h.hti) rfl rfl ?_; rintro l' H' ⟨rfl, rfl⟩; conv => whnf))
  have hml : (w.real.map fun s => AV.agg s.cells).length = w.real.length := List.length_map _
  have hvm : (avS (virtW w f)).length = (virtW w f).length := by simp [avS]
  refine AppK.mk hvm.symm rfl (by rw [hml]; show ((virtW w f).length + w.real.length) * 24 ≤ 140737488355328; omega) (by rw [hml]; show (virtW w f).length + w.real.length ≤ 9223372036854775807; omega) (fun x hx => by obtain ⟨s, _, rfl⟩ := List.mem_map.1 hx; exact ⟨rfl, rfl⟩) ?_
  conv => whnf
  have happ : avS (virtW w f) ++ (w.real.map fun s => AV.agg s.cells) = avS (virtW w f ++ w.real) := by simp [avS]
  have hlp : (virtW w f).length + (w.real.map fun s => AV.agg s.cells).length = (virtW w f ++ w.real).length := by simp
  rw [happ, hlp]
  have hbl : (virtW w f ++ w.real).length ≤ 26000000 := by rw [List.length_append]; omega
  have hbok : ∀ s ∈ virtW w f ++ w.real ++ [⟨0, -1, 2⟩], okSt s := fun s hs => by
    rcases List.mem_append.1 hs with hs | hs
    · exact (List.mem_append.1 hs).elim (hvok s) (h.hok s)
    · rw [List.mem_singleton.1 hs]
      exact ⟨by decide, by decide⟩
  have hraw : augRaw w f = virtW w f ++ w.real ++ [⟨0, -1, 2⟩] ++ (itsOf w.p w.j f).flatMap fOf := rfl
  unfold augW
  rw [hraw]
  clear hraw happ hlp hml hvm hvok hvl hlen
  generalize virtW w f ++ w.real = base at hbl hbok ⊢
  repeat' ((first | (intro (_ : _ ≤ 9223372036854775807)) | (refine DrawK.auto tabOK mixed (by kernel_rfl) ?_) | (refine And.intro rfl ?_) | (refine And.intro ⟨by decide, by decide⟩ ?_) | (refine BsK.pure (fun x hx => by rcases List.mem_singleton.1 hx with rfl; rfl) rfl ?_) | (refine CallK.pure (Of_at w.p h.hj hcc) (.cons (Sub.refl _) (.cons (Sub.refl _) .nil)) ?_; rintro _ rfl) | (refine AppK.mk (by simp [avS]) rfl (by show (base.length+1) * 24 ≤ 140737488355328; omega) (by show base.length+1 ≤ 9223372036854775807; omega) (fun x hx => by rcases List.mem_singleton.1 hx with rfl; exact ⟨rfl, rfl⟩) ?_)); conv => whnf)
  rw [hits]
  have hib : (itsOf w.p w.j f).length ≤ 1000 := by
    obtain ⟨_, _, _, hsl, hsp⟩ := sheet_spec w.p
    obtain ⟨_, _, hle, _⟩ := hsp w.j f h.hj
    rw [← hits, itL_len]
    omega
  have hfok := h.hfk
  generalize itsOf w.p w.j f = its at hib hfok ⊢
  have hil := eItems_len its
  refine LoopK.inv tabOK (fun x : Nat × List Step => ⟨[(3, .hd 0 0 x.2.length), (25, .p (eItems its)), (26, .p (.int .i64 (its.map fun i => AV.agg i.cells).length)), (27, .p (.int .i64 x.1))], [(0, .own 49 3 (avS x.2))]⟩)
    (fun x => x.1 ≤ its.length ∧ x.2.length ≤ base.length + 1 + x.1 ∧ x.2 ++ (its.drop x.1).flatMap fOf = base ++ [⟨0, -1, 2⟩] ++ its.flatMap fOf) (fun x => its.length - x.1) (0, base ++ [⟨0, -1, 2⟩])
    (Le.of_eq (by simp only [avS, List.length_append, List.map_append]; rfl)) ⟨Nat.zero_le _, by simp, rfl⟩ ?_
  rintro ⟨m, acc⟩ ⟨h1, h2, h3⟩
  simp only at h1 h2 h3 ⊢
  rcases Nat.lt_or_ge m its.length with hm | hm
  rotate_left 1
  · rw [List.drop_eq_nil_of_le hm, List.flatMap_nil, List.append_nil] at h3
    have hok : ∀ s ∈ acc, okSt s := fun s hs => by
      rw [h3] at hs
      rcases List.mem_append.1 hs with hs | hs
      · exact hbok s hs
      · obtain ⟨it, hi, hs⟩ := List.mem_flatMap.1 hs
        exact hfok it hi s hs
    rw [← h3]
    conv => whnf
    repeat' (first | (refine Br.dec (fun _ => ?_) (fun _ => ?_) <;> first | (exfalso; omega) | conv => whnf) | (refine CallK.heap [(1000, 0)] 0 (by repeat' (first | exact ArgsH.nil | refine ArgsH.cons ?_ ?_ | exact LSub.refl _ | exact LSub.p Sub.nils | exact LSub.p (Sub.tt rfl) | exact LSub.p (Sub.ff rfl) | exact LSub.p (Sub.int (by omega)))) (by refine BlksH.cons (j := 0) rfl rfl ?_ ?_; exact CSub.refl _; exact BlksH.nil) (flat_Sort acc hok (by omega)) rfl rfl ?_; rintro l' H' ⟨rfl, rfl⟩; conv => whnf))
    exact ⟨_, .hd rfl (by simp [avS]), rfl⟩
  rw [flatMap_step hm] at h3
  have hf : fOf its[m] = if its[m].s.kind = 7 ∨ its[m].s.kind = 8 ∨ its[m].s.kind = 9 ∨ its[m].s.kind = 10 then [⟨its[m].s.id, its[m].next, 2⟩] else [] := rfl
  conv => whnf
  repeat' (first | ((first | (refine And.intro rfl ?_) | (refine And.intro ⟨by decide, by decide⟩ ?_) | (refine BsK.pure (fun x hx => by rcases List.mem_singleton.1 hx with rfl; rfl) rfl ?_) | (refine IdxK.map (by omega) (fun _ => rfl) ?_) | (refine Wr.i64 (by omega) (by omega) ?_) | (refine AppK.mk (by simp [avS]) rfl (by show (acc.length+1) * 24 ≤ 140737488355328; omega) (by show acc.length+1 ≤ 9223372036854775807; omega) (fun x hx => by rcases List.mem_singleton.1 hx with rfl; exact ⟨rfl, rfl⟩) ?_)); conv => whnf) | (refine Br.dec (fun _ => ?_) (fun _ => ?_) <;> first | (exfalso; omega) | conv => whnf))
  all_goals first
    | (rw [if_pos (by omega)] at hf
       rw [hf] at h3
       exact ⟨(m + 1, acc ++ [⟨its[m].s.id, its[m].next, 2⟩]), ⟨hm, by simp; omega, by simpa using h3⟩, by simp only; omega, Le.of_eq (by simp only [avS, List.length_append, List.map_append]; rfl)⟩)
    | (rw [if_neg (by omega)] at hf
       rw [hf] at h3
       exact ⟨(m + 1, acc), ⟨hm, by simp only; omega, by simpa using h3⟩, by simp only; omega, Le.of_eq rfl⟩)
end Go.Ab
namespace Go.Ab
open Go.Proofs
/-- What is closed under a procedure's steps, in which nobody jumps by goto. -/
structure NoGo (sh : Sheet) (f : Pr) (lo hi : Nat) (T : Int → Prop) : Prop where
  cl : ∀ (k : Nat) (it : Item), lo ≤ k → k < hi → sh.l[k]? = some it → T it.s.id → it.s.kind ≠ 10 ∧ ∀ y ∈ goesI sh f it, T y
  id : ∀ (k : Nat) (it : Item), lo ≤ k → k < hi → sh.l[k]? = some it → it.s.id = (k : Int) + 1
  ld : ∀ (k : Nat) (it : Item), lo ≤ k → k < hi → sh.l[k]? = some it → it.s.kind = 7 ∨ it.s.kind = 8 → it.loop ≠ 0
  lp : ∀ (k : Nat) (it : Item), lo ≤ k → k < hi → sh.l[k]? = some it → it.loop = 0 ∨ ∃ u, sh.l[(it.loop - 1).toNat]? = some u
def escC (sh : Sheet) (T : Int → Prop) (nx lp : Int) : Prop := T nx ∨ T (-1) ∨ (lp ≠ 0 ∧ (T lp ∨ ∃ u, sh.l[(lp - 1).toNat]? = some u ∧ T u.next))
def atP (sh : Sheet) (n : Nat) (l : List Item) : Prop := ∀ (i : Nat) (it : Item), l[i]? = some it → sh.l[n + i]? = some it
theorem atP.left {sh : Sheet} {n : Nat} {a b : List Item} (h : atP sh n (a ++ b)) : atP sh n a := fun i it hi => h i it (by
  rw [List.getElem?_append_left (List.getElem?_eq_some_iff.1 hi).1]
  exact hi)
theorem atP.right {sh : Sheet} {n : Nat} {a b : List Item} (h : atP sh n (a ++ b)) : atP sh (n + a.length) b := fun i it hi => by
  rw [Nat.add_assoc]
  exact h (a.length + i) it (by rw [List.getElem?_append_right (by omega), Nat.add_sub_cancel_left]; exact hi)
theorem itL_hd (proc up nx lp : Int) (n : Nat) (v : S) (r : List S) : ∃ it ∈ itL proc up nx lp n (v :: r), it.s = v := by
  rw [itL, itS_eq]
  exact ⟨_, List.mem_append.2 (.inl List.mem_cons_self), rfl⟩
mutual
theorem escS {sh : Sheet} {f : Pr} {lo hi : Nat} {T : Int → Prop} (hT : NoGo sh f lo hi T) (proc : Int) : ∀ (t : S) (up nx lp : Int) (n : Nat), atP sh n (itS proc up nx lp n t) → lo ≤ n → n + cntS t ≤ hi → (∃ it ∈ itS proc up nx lp n t, T it.s.id) → escC sh T nx lp
  | .mk id kind labels name pr x has args thn els, up, nx, lp, n, hp, h1, h2, h3 => by
    rw [itS] at hp h3
    rw [cntS] at h2
    have hself : sh.l[n]? = some ⟨.mk id kind labels name pr x has args thn els, proc, up, nx, lp⟩ := hp 0 _ rfl
    have hcl := hT.cl n _ h1 (by omega) hself
    have hid := hT.id n _ h1 (by omega) hself
    have hld := hT.ld n _ h1 (by omega) hself
    have hlp := hT.lp n _ h1 (by omega) hself
    have hp1 : atP sh (n + 1) (itL proc (n + 1) (if kind = 6 then n + 1 else nx) (if kind = 6 then n + 1 else lp) (n + 1) thn ++ itL proc (n + 1) (if kind = 6 then n + 1 else nx) (if kind = 6 then n + 1 else lp) (n + 1 + cntL thn) els) := fun i it hi => by
      have := hp (i + 1) it (by simpa using hi)
      rwa [show n + (i + 1) = n + 1 + i by omega] at this
    have hw : kind = 6 → T ((n : Int) + 1) → T nx := fun hk h => by
      have h5 : T (S.mk id kind labels name pr x has args thn els).id := by
        rw [show (S.mk id kind labels name pr x has args thn els).id = (n : Int) + 1 from hid]
        exact h
      refine (hcl h5).2 nx ?_
      unfold goesI
      rw [if_neg (by show ¬ kind = 5; omega), if_pos (by exact hk)]
      simp
    have hin : escC sh T (if kind = 6 then ((n : Int) + 1) else nx) (if kind = 6 then ((n : Int) + 1) else lp) → escC sh T nx lp := fun h => by
      by_cases hk : kind = 6
      · rw [if_pos hk, if_pos hk] at h
        rcases h with h | h | ⟨_, h | ⟨u, hu, h⟩⟩
        · exact .inl (hw hk h)
        · exact .inr (.inl h)
        · exact .inl (hw hk h)
        · rw [show ((n : Int) + 1 - 1).toNat = n by omega, hself] at hu
          cases hu
          exact .inl h
      · rw [if_neg hk, if_neg hk] at h
        exact h
    have hthn : (∃ it ∈ itL proc (n + 1) (if kind = 6 then n + 1 else nx) (if kind = 6 then n + 1 else lp) (n + 1) thn, T it.s.id) → escC sh T nx lp := fun h =>
      hin (escL hT proc thn _ _ _ (n + 1) hp1.left (by omega) (by omega) h)
    obtain ⟨it, hit, hti⟩ := h3
    rcases List.mem_cons.1 hit with rfl | hit
    · obtain ⟨hk10, hgo⟩ := hcl hti
      have hk10 : kind ≠ 10 := hk10
      by_cases hk5 : kind = 5
      · cases thn with
        | nil =>
          refine .inl (hgo nx ?_)
          unfold goesI
          rw [if_pos (by exact hk5)]
          simp [headI, S.thn]
        | cons v r =>
          have : T v.id := by
            refine hgo v.id ?_
            unfold goesI
            rw [if_pos (by exact hk5)]
            simp [headI, S.thn]
          obtain ⟨iv, h5, h6⟩ := itL_hd proc (n + 1) (if kind = 6 then n + 1 else nx) (if kind = 6 then n + 1 else lp) (n + 1) v r
          exact hthn ⟨iv, h5, by rw [h6]; exact this⟩
      by_cases hk6 : kind = 6
      · refine .inl (hw hk6 ?_)
        rw [← show (S.mk id kind labels name pr x has args thn els).id = (n : Int) + 1 from hid]
        exact hti
      by_cases hk7 : kind = 7
      · have hl0 := hld (.inl hk7)
        rcases hlp with h5 | ⟨u, hu⟩
        · exact absurd h5 hl0
        · refine .inr (.inr ⟨hl0, .inr ⟨u, hu, hgo _ ?_⟩⟩)
          unfold goesI
          rw [if_neg (by exact hk5), if_neg (by exact hk6), if_pos (by exact hk7)]
          simp only at hu
          rw [hu]
          simp
      by_cases hk8 : kind = 8
      · refine .inr (.inr ⟨hld (.inr hk8), .inl (hgo _ ?_)⟩)
        unfold goesI
        rw [if_neg (by exact hk5), if_neg (by exact hk6), if_neg (by exact hk7), if_pos (by exact hk8)]
        simp
      by_cases hk9 : kind = 9
      · refine .inr (.inl (hgo _ ?_))
        unfold goesI
        rw [if_neg (by exact hk5), if_neg (by exact hk6), if_neg (by exact hk7), if_neg (by exact hk8), if_pos (by exact hk9)]
        simp
      · refine .inl (hgo _ ?_)
        unfold goesI
        rw [if_neg (by exact hk5), if_neg (by exact hk6), if_neg (by exact hk7), if_neg (by exact hk8), if_neg (by exact hk9), if_neg (by exact hk10)]
        simp
    · rcases List.mem_append.1 hit with hit | hit
      · exact hthn ⟨it, hit, hti⟩
      · have hp2 := hp1.right
        rw [itL_len] at hp2
        exact hin (escL hT proc els _ _ _ (n + 1 + cntL thn) hp2 (by omega) (by omega) ⟨it, hit, hti⟩)
theorem escL {sh : Sheet} {f : Pr} {lo hi : Nat} {T : Int → Prop} (hT : NoGo sh f lo hi T) (proc : Int) : ∀ (l : List S) (up nx lp : Int) (n : Nat), atP sh n (itL proc up nx lp n l) → lo ≤ n → n + cntL l ≤ hi → (∃ it ∈ itL proc up nx lp n l, T it.s.id) → escC sh T nx lp
  | [], up, nx, lp, n, hp, h1, h2, h3 => by
    rw [itL] at h3
    obtain ⟨it, hit, _⟩ := h3
    cases hit
  | t :: r, up, nx, lp, n, hp, h1, h2, h3 => by
    rw [itL] at hp h3
    rw [cntL] at h2
    have hp2 := hp.right
    rw [itS_len] at hp2
    have hr : (∃ it ∈ itL proc up nx lp (n + cntS t) r, T it.s.id) → escC sh T nx lp := fun h => escL hT proc r up nx lp (n + cntS t) hp2 (by omega) (by omega) h
    obtain ⟨it, hit, hti⟩ := h3
    rcases List.mem_append.1 hit with hit | hit
    · have h5 := escS hT proc t up _ lp n hp.left h1 (by omega) ⟨it, hit, hti⟩
      cases r with
      | nil => exact h5
      | cons v r =>
        rcases h5 with h5 | h5
        · refine hr ?_
          obtain ⟨iv, h6, h7⟩ : ∃ iv, (itL proc up nx lp (n + cntS t) (v :: r))[0]? = some iv ∧ iv.s = v := by
            rw [itL, itS_eq]
            exact ⟨_, rfl, rfl⟩
          have h8 := hp2 0 iv h6
          have h9 := hT.id (n + cntS t) iv (by omega) (by
            rw [cntL] at h2
            have : 1 ≤ cntS v := by cases v; rw [cntS]; omega
            omega) h8
          refine ⟨iv, List.mem_of_getElem? h6, ?_⟩
          rw [h9]
          simp only [List.isEmpty_cons] at h5
          have e : ((n + cntS t : Nat) : Int) + 1 = (n : Int) + 1 + cntS t := by omega
          rw [e]
          exact h5
        · exact .inr h5
    · exact hr ⟨it, hit, hti⟩
end
end Go.Ab
namespace Go.Ab
open Go.Proofs
theorem sheet_id {p : Pg} (h : chkB p = true) {j : Nat} {f : Pr} (hj : p.procs[j]? = some f) {k : Nat} {it : Item} (h1 : offN p.procs j ≤ k) (h2 : k < offN p.procs j + cntL f.body) (hk : (sheetOf p).l[k]? = some it) : it.s.id = (k : Int) + 1 := by
  obtain ⟨t, _, h4, h5⟩ := stAt_own h hj (a := (k : Int) + 1) (by omega) (by omega)
  unfold stAt at h4
  rw [show ((k : Int) + 1 - 1).toNat = k by omega, hk] at h4
  cases h4
  exact h5
theorem raw_go {p : Pg} {j : Nat} {f : Pr} {it : Item} (hi : it ∈ itsOf p j f) {y : Int} (hy : y ∈ goesI (sheetOf p) f it) : (⟨it.s.id, y, 1⟩ : Step) ∈ stepsRaw p j f := by
  unfold stepsRaw
  exact List.mem_cons_of_mem _ (List.mem_flatMap.2 ⟨it, hi, List.mem_map.2 ⟨y, hy, rfl⟩⟩)
/-- Whatever is closed under a procedure's steps, has a statement and none that jumps by goto, has the exit. -/
theorem proc_exit {p : Pg} (h : chkB p = true) {j : Nat} {f : Pr} (hj : p.procs[j]? = some f) {T : Int → Prop} (hcl : ∀ a b, T a → stR (newWay p j f).real a b → T b) (hgo : ∀ t ∈ flL f.body, T t.id → t.kind ≠ 10) {t : S} (ht : t ∈ flL f.body) (hT : T t.id) : T (-1) := by
  obtain ⟨hm, hs, _, hjm, _⟩ := chk_parts h
  have hld := jump_leads_all hs hjm hj
  obtain ⟨_, _, _, hlen, hsp⟩ := sheet_spec p
  obtain ⟨_, _, hle, hd⟩ := hsp j f hj
  have hits : ∀ (k : Nat) (it : Item), offN p.procs j ≤ k → k < offN p.procs j + cntL f.body → (sheetOf p).l[k]? = some it → it ∈ itsOf p j f := fun k it h1 h2 hk => by
    obtain ⟨it', h3, h4⟩ := sheet_its hj h1 h2
    rw [hk] at h3
    cases h3
    exact h4
  have hn : NoGo (sheetOf p) f (offN p.procs j) (offN p.procs j + cntL f.body) T := by
    refine ⟨fun k it h1 h2 hk hT => ?_, fun k it h1 h2 hk => sheet_id h hj h1 h2 hk, fun k it h1 h2 hk hkd => ?_, fun k it h1 h2 hk => ?_⟩
    · have hi := hits k it h1 h2 hk
      exact ⟨hgo _ (its_s hi) hT, fun y hy => hcl _ _ hT ⟨⟨it.s.id, y, 1⟩, ((real_spec h hj).2 _).2 (raw_go hi hy), rfl, rfl⟩⟩
    · have hl := hld it (hits k it h1 h2 hk)
      unfold leadsB at hl
      rw [if_pos hkd] at hl
      intro h0
      rw [h0] at hl
      cases hl
    · rcases (its_rng (hits k it h1 h2 hk)).2 with h0 | ⟨h3, h4⟩
      · exact .inl h0
      · have : (it.loop - 1).toNat < (sheetOf p).l.length := by omega
        exact .inr ⟨_, List.getElem?_eq_getElem this⟩
  obtain ⟨it, hit, hits2⟩ := it_of (p := p) (j := j) ht
  have hat : atP (sheetOf p) (offN p.procs j) (itL j 0 (-1) 0 (offN p.procs j) f.body) := fun i it hi => by
    rw [← hd, List.getElem?_drop, List.getElem?_take] at hi
    split at hi
    · exact hi
    · cases hi
  have := escL hn j f.body 0 (-1) 0 (offN p.procs j) hat (Nat.le_refl _) (Nat.le_refl _) ⟨it, hit, by rw [hits2]; exact hT⟩
  rcases this with h1 | h1 | ⟨h1, _⟩
  · exact h1
  · exact h1
  · exact absurd rfl h1
theorem openF_iff {n : Nat} {part : List Int} (hp : ∀ k, k < n → 0 ≤ part.getD k 0 ∧ part.getD k 0 < n) {i : Nat} (hi : i < n) : ∀ (l : List (Int × Int)) {o : List Bool}, o.length = n → (∀ t ∈ l, 0 ≤ t.1 ∧ t.1 < n) →
    ((l.foldl (openS part) o).getD i false = true ↔ o.getD i false = true ∨ ∃ t ∈ l, part.getD t.1.toNat 0 ≠ part.getD t.2.toNat 0 ∧ part.getD t.1.toNat 0 = i)
  | [], o, _, _ => by simp
  | t :: r, o, ho, hr => by
    rw [List.foldl_cons, openF_iff hp hi r (by rw [openS_len]; exact ho) fun u hu => hr u (List.mem_cons_of_mem _ hu)]
    have h1 := hr t List.mem_cons_self
    have h2 := hp t.1.toNat (by omega)
    have key : (openS part o t).getD i false = true ↔ o.getD i false = true ∨ (part.getD t.1.toNat 0 ≠ part.getD t.2.toNat 0 ∧ part.getD t.1.toNat 0 = i) := by
      unfold openS
      split
      · rename_i he
        constructor
        · exact .inl
        · rintro (h3 | ⟨h3, _⟩)
          · exact h3
          · exact absurd he h3
      · rename_i he
        rw [getD_set (by omega)]
        split
        · rename_i h3
          constructor
          · intro _
            exact .inr ⟨he, by omega⟩
          · intro _
            rfl
        · rename_i h3
          constructor
          · exact .inl
          · rintro (h4 | ⟨_, h4⟩)
            · exact h4
            · exact absurd (by omega) h3
    rw [key, or_assoc]
    constructor
    · rintro (h3 | ⟨h3, h4⟩ | ⟨u, hu, h3⟩)
      · exact .inl h3
      · exact .inr ⟨t, List.mem_cons_self, h3, h4⟩
      · exact .inr ⟨u, List.mem_cons_of_mem _ hu, h3⟩
    · rintro (h3 | ⟨u, hu, h3⟩)
      · exact .inl h3
      · rcases List.mem_cons.1 hu with rfl | hu
        · exact .inr (.inl h3)
        · exact .inr (.inr ⟨u, hu, h3⟩)
theorem open_iff {n : Nat} {part : List Int} (hn : 0 < n) (hp : ∀ k, k < n → 0 ≤ part.getD k 0 ∧ part.getD k 0 < n) {i : Nat} (hi : i < n) {l : List (Int × Int)} (hr : ∀ t ∈ l, 0 ≤ t.1 ∧ t.1 < n) :
    (openB n part l).getD i false = true ↔ part.getD 0 0 = i ∨ part.getD (n - 1) 0 = i ∨ ∃ t ∈ l, part.getD t.1.toNat 0 ≠ part.getD t.2.toNat 0 ∧ part.getD t.1.toNat 0 = i := by
  have h0 := hp 0 hn
  have h1 := hp (n - 1) (by omega)
  unfold openB
  rw [openF_iff hp hi l (by simp [open0]) hr]
  have key : (open0 n part).getD i false = true ↔ part.getD 0 0 = i ∨ part.getD (n - 1) 0 = i := by
    unfold open0
    rw [getD_set (by rw [List.length_set, List.length_replicate]; omega), getD_set (by rw [List.length_replicate]; omega)]
    split
    · exact ⟨fun _ => .inr (by omega), fun _ => rfl⟩
    · split
      · exact ⟨fun _ => .inl (by omega), fun _ => rfl⟩
      · have : (List.replicate n false).getD i false = false := by
          rw [List.getD_eq_getElem?_getD, List.getElem?_replicate]; split <;> rfl
        rw [this]
        constructor
        · intro h; cases h
        · rintro (h | h) <;> omega
  rw [key, or_assoc]
end Go.Ab
namespace Go.Ab
open Go.Proofs
section
variable {p : Pg} {j : Nat} {f : Pr}
theorem ix_place {i : Int} (h : 0 ≤ i ∧ i < (cntL f.body + 2 : Nat)) : plP p j f (placeI p j (cntL f.body + 2 : Nat) i) ∧ ixI p j f (placeI p j (cntL f.body + 2 : Nat) i) = i := by
  unfold placeI ixI indexI plP loI hiI
  constructor
  · (repeat' split) <;> omega
  · (repeat' split) <;> omega
theorem place_ix {x : Int} (h : plP p j f x) : placeI p j (cntL f.body + 2 : Nat) (ixI p j f x) = x := by
  have h1 := ix_place (p := p) (j := j) (f := f) (ix_rng h)
  exact ix_inj h1.1 h h1.2
theorem prs_new : prsW (newWay p j f) f = (newWay p j f).real.map (ixP p j f (cntL f.body + 2 : Nat)) := rfl
theorem prs_in (h : chkB p = true) (hj : p.procs[j]? = some f) : ∀ t ∈ prsW (newWay p j f) f, (0 ≤ t.1 ∧ t.1 < (cntL f.body + 2 : Nat)) ∧ 0 ≤ t.2 ∧ t.2 < (cntL f.body + 2 : Nat) := fun t ht => by
  rw [prs_new] at ht
  obtain ⟨s, hs, rfl⟩ := List.mem_map.1 ht
  obtain ⟨h1, h2⟩ := real_places h hj s hs
  exact ⟨ix_rng h1, ix_rng h2⟩
/-- The procedure's graph, by numbers. -/
def wE (p : Pg) (j : Nat) (f : Pr) : Int → Int → Prop := rowE (graphE (cntL f.body + 2) (prsW (newWay p j f) f)).1
def wR (p : Pg) (j : Nat) (f : Pr) : Int → Int → Prop := stR (newWay p j f).real
theorem E_iff (h : chkB p = true) (hj : p.procs[j]? = some f) {i k : Int} : wE p j f i k ↔ ∃ a b, wR p j f a b ∧ ixI p j f a = i ∧ ixI p j f b = k := by
  unfold wE wR
  rw [graph_rowE]
  constructor
  · rintro ⟨h1, _, _⟩
    rw [prs_new] at h1
    obtain ⟨s, hs, he⟩ := List.mem_map.1 h1
    exact ⟨s.src, s.dst, ⟨s, hs, rfl, rfl⟩, congrArg Prod.fst he, congrArg Prod.snd he⟩
  · rintro ⟨a, b, ⟨s, hs, rfl, rfl⟩, rfl, rfl⟩
    obtain ⟨h1, h2⟩ := real_places h hj s hs
    exact ⟨List.mem_map.2 ⟨s, hs, rfl⟩, hasB_of (ix_rng h1), hasB_of (ix_rng h2)⟩
theorem R_pl (h : chkB p = true) (hj : p.procs[j]? = some f) {a b : Int} (hr : wR p j f a b) : plP p j f a ∧ plP p j f b := by
  obtain ⟨s, hs, rfl, rfl⟩ := hr
  exact real_places h hj s hs
theorem rch_ix (h : chkB p = true) (hj : p.procs[j]? = some f) {a b : Int} (ha : plP p j f a) (hb : plP p j f b) : Rch (wE p j f) (ixI p j f a) (ixI p j f b) ↔ Rch (wR p j f) a b := by
  constructor
  · intro hr
    obtain ⟨c, h1, h2, h3⟩ := hr.closed (S := fun k => ∃ c, plP p j f c ∧ ixI p j f c = k ∧ Rch (wR p j f) a c) (by
      rintro i k ⟨c, h1, h2, h3⟩ h4
      obtain ⟨x, y, h5, h6, h7⟩ := (E_iff h hj).1 h4
      have h8 := R_pl h hj h5
      have : x = c := ix_inj h8.1 h1 (by rw [h6, h2])
      subst this
      exact ⟨y, h8.2, h7, .tail h3 h5⟩) ⟨a, ha, rfl, .refl⟩
    rw [← ix_inj h1 hb h2]
    exact h3
  · intro hr
    exact (hr.closed (S := fun c => plP p j f c ∧ Rch (wE p j f) (ixI p j f a) (ixI p j f c)) (fun x y ⟨h1, h2⟩ h3 => ⟨(R_pl h hj h3).2, .tail h2 ((E_iff h hj).2 ⟨x, y, h3, rfl, rfl⟩)⟩) ⟨ha, .refl⟩).2
theorem scc_ix (h : chkB p = true) (hj : p.procs[j]? = some f) {a b : Int} (ha : plP p j f a) (hb : plP p j f b) : sccP (wE p j f) (ixI p j f a) (ixI p j f b) ↔ sccP (wR p j f) a b := by
  unfold sccP
  rw [rch_ix h hj ha hb, rch_ix h hj hb ha]
/-- A place's part. -/
def partI (p : Pg) (j : Nat) (f : Pr) (i : Int) : Int := (partW (newWay p j f) f).getD i.toNat 0
theorem partW_new : partW (newWay p j f) f = partR (cntL f.body + 2) (graphE (cntL f.body + 2) (prsW (newWay p j f) f)).1 := rfl
theorem part_min {i : Int} (hi : 0 ≤ i ∧ i < (cntL f.body + 2 : Nat)) : MinP (wE p j f) i (partI p j f i) := by
  unfold partI
  rw [partW_new]
  exact partR_spec (graphE_in _ _).1 hi
theorem part_rng {k : Nat} (hk : k < cntL f.body + 2) : 0 ≤ (partW (newWay p j f) f).getD k 0 ∧ (partW (newWay p j f) f).getD k 0 < (cntL f.body + 2 : Nat) := by
  rw [partW_new]
  exact partR_in (graphE_in _ _).1 hk
theorem part_len : (partW (newWay p j f) f).length = cntL f.body + 2 := by rw [partW_new, partR_len]
theorem MinP.same {E : Int → Int → Prop} {x y v : Int} (h : MinP E x v) (hs : sccP E x y) : MinP E y v := ⟨hs.symm.trans h.scc, fun z hz => h.le z (hs.trans hz)⟩
theorem part_iff {i k : Int} (hi : 0 ≤ i ∧ i < (cntL f.body + 2 : Nat)) (hk : 0 ≤ k ∧ k < (cntL f.body + 2 : Nat)) : partI p j f i = partI p j f k ↔ sccP (wE p j f) i k := by
  have h1 := part_min (p := p) (j := j) hi
  have h2 := part_min (p := p) (j := j) hk
  constructor
  · intro he
    rw [← he] at h2
    exact h1.scc.trans h2.scc.symm
  · intro hs
    exact (h1.same hs).uniq h2
theorem part_pl (h : chkB p = true) (hj : p.procs[j]? = some f) {a b : Int} (ha : plP p j f a) (hb : plP p j f b) : partI p j f (ixI p j f a) = partI p j f (ixI p j f b) ↔ sccP (wR p j f) a b := by
  rw [part_iff (ix_rng ha) (ix_rng hb), scc_ix h hj ha hb]
/-- A trap: a part out of which no step goes, without the entry and the exit. -/
structure TrapP (p : Pg) (j : Nat) (f : Pr) (l : List Int) (r : Int) : Prop where
  pl : plP p j f r
  mem : ∀ b, b ∈ l ↔ plP p j f b ∧ sccP (wR p j f) r b
  cl : ∀ b c, sccP (wR p j f) r b → wR p j f b c → sccP (wR p j f) r c
  n0 : ¬ sccP (wR p j f) r 0
  nx : ¬ sccP (wR p j f) r (-1)
theorem trapR_mem {plc : Int → Int} {part : List Int} {i q : Nat} {b : Int} : b ∈ trapR plc part i q ↔ ∃ k : Nat, k < q ∧ part.getD k 0 = i ∧ plc k = b := by
  unfold trapR
  constructor
  · intro h
    obtain ⟨k, hk, rfl⟩ := List.mem_map.1 h
    obtain ⟨h1, h2⟩ := List.mem_filter.1 hk
    exact ⟨k, List.mem_range.1 h1, beq_iff_eq.1 h2, rfl⟩
  · rintro ⟨k, h1, h2, rfl⟩
    exact List.mem_map.2 ⟨k, List.mem_filter.2 ⟨List.mem_range.2 h1, beq_iff_eq.2 h2⟩, rfl⟩
theorem ix0 : ixI p j f 0 = 0 := by unfold ixI indexI; rw [if_pos rfl]
theorem ix1 : ixI p j f (-1) = ((cntL f.body + 2 : Nat) : Int) - 1 := by unfold ixI indexI; rw [if_neg (by omega), if_pos rfl]
theorem pl0 : plP p j f 0 := .inl rfl
theorem pl1 : plP p j f (-1) := .inr (.inl rfl)
theorem part_nat (k : Nat) : (partW (newWay p j f) f).getD k 0 = partI p j f k := by
  unfold partI
  rw [Int.toNat_natCast]
theorem open_pl (h : chkB p = true) (hj : p.procs[j]? = some f) {i : Nat} (hi : i < cntL f.body + 2) : (openB (cntL f.body + 2) (partW (newWay p j f) f) (prsW (newWay p j f) f)).getD i false = true ↔
    partI p j f (ixI p j f 0) = i ∨ partI p j f (ixI p j f (-1)) = i ∨ ∃ a b, wR p j f a b ∧ ¬ sccP (wR p j f) a b ∧ partI p j f (ixI p j f a) = i := by
  rw [open_iff (by omega) (fun k hk => part_rng hk) hi fun t ht => (prs_in h hj t ht).1, ix0, ix1]
  have e1 : (partW (newWay p j f) f).getD (cntL f.body + 2 - 1) 0 = partI p j f (((cntL f.body + 2 : Nat) : Int) - 1) := by
    unfold partI
    congr 1
    omega
  have e0 : (partW (newWay p j f) f).getD 0 0 = partI p j f 0 := rfl
  rw [e0, e1]
  refine or_congr Iff.rfl (or_congr Iff.rfl ?_)
  constructor
  · rintro ⟨t, ht, h1, h2⟩
    rw [prs_new] at ht
    obtain ⟨s, hs, rfl⟩ := List.mem_map.1 ht
    obtain ⟨h3, h4⟩ := real_places h hj s hs
    exact ⟨s.src, s.dst, ⟨s, hs, rfl, rfl⟩, fun hsc => h1 ((part_pl h hj h3 h4).2 hsc), h2⟩
  · rintro ⟨a, b, ⟨s, hs, rfl, rfl⟩, h1, h2⟩
    obtain ⟨h3, h4⟩ := real_places h hj s hs
    exact ⟨ixP p j f (cntL f.body + 2 : Nat) s, by rw [prs_new]; exact List.mem_map.2 ⟨s, hs, rfl⟩, fun he => h1 ((part_pl h hj h3 h4).1 he), h2⟩
/-- The traps that are told, by the root. -/
theorem traps_mem {l : List Int} : l ∈ trapsW (newWay p j f) f ↔ ∃ i : Nat, i < cntL f.body + 2 ∧ partI p j f i = i ∧ (openB (cntL f.body + 2) (partW (newWay p j f) f) (prsW (newWay p j f) f)).getD i false = false ∧ l = trapR (placeI p j (cntL f.body + 2 : Nat)) (partW (newWay p j f) f) i (cntL f.body + 2) := by
  unfold trapsW trapL
  rw [part_len]
  constructor
  · intro hl
    obtain ⟨i, hi, rfl⟩ := List.mem_map.1 hl
    obtain ⟨h1, h2⟩ := List.mem_filter.1 hi
    unfold trapT at h2
    rw [Bool.and_eq_true, beq_iff_eq, Bool.not_eq_true', part_nat] at h2
    exact ⟨i, List.mem_range.1 h1, h2.1, h2.2, rfl⟩
  · rintro ⟨i, h1, h2, h3, rfl⟩
    refine List.mem_map.2 ⟨i, List.mem_filter.2 ⟨List.mem_range.2 h1, ?_⟩, rfl⟩
    unfold trapT
    rw [Bool.and_eq_true, beq_iff_eq, Bool.not_eq_true', part_nat]
    exact ⟨h2, h3⟩
theorem trap_mem (h : chkB p = true) (hj : p.procs[j]? = some f) {i : Nat} (hi : i < cntL f.body + 2) (hp : partI p j f i = i) (b : Int) :
    b ∈ trapR (placeI p j (cntL f.body + 2 : Nat)) (partW (newWay p j f) f) i (cntL f.body + 2) ↔ plP p j f b ∧ sccP (wR p j f) (placeI p j (cntL f.body + 2 : Nat) i) b := by
  obtain ⟨h1, h2⟩ := ix_place (p := p) (j := j) (f := f) (i := i) (by omega)
  rw [trapR_mem]
  constructor
  · rintro ⟨k, h3, h4, rfl⟩
    obtain ⟨h5, h6⟩ := ix_place (p := p) (j := j) (f := f) (i := k) (by omega)
    refine ⟨h5, (part_pl h hj h1 h5).1 ?_⟩
    rw [h2, h6, hp, ← part_nat, h4]
  · rintro ⟨h3, h4⟩
    have h5 := ix_rng h3
    refine ⟨(ixI p j f b).toNat, by omega, ?_, ?_⟩
    · rw [part_nat, show (((ixI p j f b).toNat : Nat) : Int) = ixI p j f b by omega, ← (part_pl h hj h1 h3).2 h4, h2, hp]
    · rw [show (((ixI p j f b).toNat : Nat) : Int) = ixI p j f b by omega, place_ix h3]
theorem trap_spec (h : chkB p = true) (hj : p.procs[j]? = some f) {l : List Int} (hl : l ∈ trapsW (newWay p j f) f) : ∃ r, TrapP p j f l r := by
  obtain ⟨i, hi, hp, ho, rfl⟩ := traps_mem.1 hl
  obtain ⟨h1, h2⟩ := ix_place (p := p) (j := j) (f := f) (i := i) (by omega)
  have ho2 : ¬ _ := fun hx => by
    have := (open_pl h hj hi).2 hx
    rw [ho] at this
    cases this
  have hpr : partI p j f (ixI p j f (placeI p j (cntL f.body + 2 : Nat) i)) = i := by rw [h2, hp]
  refine ⟨_, h1, trap_mem h hj hi hp, fun b c hb hbc => ?_, fun hs => ho2 (.inl ?_), fun hs => ho2 (.inr (.inl ?_))⟩
  · have h3 := R_pl h hj hbc
    by_cases hsc : sccP (wR p j f) b c
    · exact hb.trans hsc
    · refine absurd (.inr (.inr ⟨b, c, hbc, hsc, ?_⟩)) ho2
      rw [← (part_pl h hj h1 h3.1).2 hb, hpr]
  · rw [← (part_pl h hj h1 pl0).2 hs, hpr]
  · rw [← (part_pl h hj h1 pl1).2 hs, hpr]
end
end Go.Ab
namespace Go.Ab
open Go.Proofs
theorem real_len {p : Pg} {j : Nat} {f : Pr} (hj : p.procs[j]? = some f) (hcn : cntP p.procs ≤ 200) : (newWay p j f).real.length ≤ 100000 := by
  obtain ⟨_, _, _, hlen, hsp⟩ := sheet_spec p
  obtain ⟨_, _, hle, _⟩ := hsp j f hj
  have h9 := normS_len (stepsRaw p j f)
  have h10 := stepsRaw_len p j f
  show (normS (stepsRaw p j f)).length ≤ 100000
  omega
theorem nextR_ok {p : Pg} (h : chkB p = true) {j : Nat} {f : Pr} (hj : p.procs[j]? = some f) : ∀ it ∈ itsOf p j f, ∀ s ∈ fOf it, okSt s := fun it hi s hs => by
  obtain ⟨hm, _⟩ := chk_parts h
  obtain ⟨_, _, hcn⟩ := chk_cnt h
  obtain ⟨_, _, _, hlen, hsp⟩ := sheet_spec p
  obtain ⟨_, _, hle, _⟩ := hsp j f hj
  have h1 := body_id hm hj (its_s hi)
  have h2 := (its_rng hi).1
  unfold fOf at hs
  split at hs
  · rw [List.mem_singleton.1 hs]
    unfold okI at h2
    unfold okSt
    constructor
    · show it.s.id ≠ _
      omega
    · show it.next ≠ _
      omega
  · cases hs
theorem trap_row {p : Pg} (h : chkB p = true) {j : Nat} {f : Pr} (hj : p.procs[j]? = some f) {l : List Int} (hl : l ∈ trapsW (newWay p j f) f) : l.length ≤ cntL f.body + 2 ∧ ∀ id ∈ l, (offN p.procs j : Int) + 1 ≤ id ∧ id ≤ (offN p.procs j + cntL f.body : Nat) := by
  constructor
  · obtain ⟨i, _, _, _, rfl⟩ := traps_mem.1 hl
    exact trapR_len _ _ _ _
  · intro id hid
    obtain ⟨r, ht⟩ := trap_spec h hj hl
    obtain ⟨h1, h2⟩ := (ht.mem id).1 hid
    rcases h1 with rfl | rfl | h1
    · exact absurd h2 ht.n0
    · exact absurd h2 ht.nx
    · exact h1
theorem wayT {p : Pg} (h : chkB p = true) {j : Nat} {f : Pr} (hj : p.procs[j]? = some f) : WayT (newWay p j f) f (cntL f.body + 2) := by
  obtain ⟨_, _, hcn⟩ := chk_cnt h
  obtain ⟨_, _, _, hlen, hsp⟩ := sheet_spec p
  obtain ⟨_, _, hle, _⟩ := hsp j f hj
  refine ⟨rfl, hj, by show cntP p.procs ≤ 1000; omega, by omega, by omega, Nat.le_trans (real_len hj hcn) (by decide), prs_in h hj, ?_, fun l hl => ?_, fun s hs => (chk_way h hj).2.2 s (((real_spec h hj).2 s).1 hs), nextR_ok h hj⟩
  · have := trapL_len (placeI p j (cntL f.body + 2 : Nat)) (partW (newWay p j f) f) (openB (cntL f.body + 2) (partW (newWay p j f) f) (prsW (newWay p j f) f)) (cntL f.body + 2)
    have e : trapsW (newWay p j f) f = trapL (placeI p j (cntL f.body + 2 : Nat)) (partW (newWay p j f) f) (openB (cntL f.body + 2) (partW (newWay p j f) f) (prsW (newWay p j f) f)) (cntL f.body + 2) := by
      unfold trapsW
      rw [part_len]
      rfl
    rw [e]
    omega
  · obtain ⟨h1, h2⟩ := trap_row h hj hl
    refine ⟨by omega, fun id hid => ?_⟩
    have := h2 id hid
    show 1 ≤ id ∧ id ≤ (sheetOf p).l.length
    omega
def augO (p : Pg) (n : Str) : List Step := match wayO p n with
  | some w => (match w.p.procs[w.j]? with
    | some f => augW w f
    | none => [])
  | none => []
def dataO (p : Pg) (n : Str) : List Step := match wayO p n with
  | some w => (match w.p.procs[w.j]? with
    | some f => dataW w f
    | none => [])
  | none => []
def trapsO (p : Pg) (n : Str) : List (List Int) := match wayO p n with
  | some w => (match w.p.procs[w.j]? with
    | some f => trapsW w f
    | none => [])
  | none => []
theorem augO_some {p : Pg} {n : Str} {k : Nat} {f : Pr} (hw : wayO p n = some (newWay p k f)) (hk : p.procs[k]? = some f) : augO p n = augW (newWay p k f) f := by
  have h : (newWay p k f).p.procs[(newWay p k f).j]? = some f := hk
  unfold augO
  rw [hw]
  simp only
  rw [h]
theorem augO_none {p : Pg} {n : Str} (hw : wayO p n = none) : augO p n = [] := by
  unfold augO
  rw [hw]
theorem dataO_some {p : Pg} {n : Str} {k : Nat} {f : Pr} (hw : wayO p n = some (newWay p k f)) (hk : p.procs[k]? = some f) : dataO p n = dataW (newWay p k f) f := by
  have h : (newWay p k f).p.procs[(newWay p k f).j]? = some f := hk
  unfold dataO
  rw [hw]
  simp only
  rw [h]
theorem dataO_none {p : Pg} {n : Str} (hw : wayO p n = none) : dataO p n = [] := by
  unfold dataO
  rw [hw]
theorem trapsO_some {p : Pg} {n : Str} {k : Nat} {f : Pr} (hw : wayO p n = some (newWay p k f)) (hk : p.procs[k]? = some f) : trapsO p n = trapsW (newWay p k f) f := by
  have h : (newWay p k f).p.procs[(newWay p k f).j]? = some f := hk
  unfold trapsO
  rw [hw]
  simp only
  rw [h]
theorem trapsO_none {p : Pg} {n : Str} (hw : wayO p n = none) : trapsO p n = [] := by
  unfold trapsO
  rw [hw]
set_option maxRecDepth 100000 in
theorem aug_Of (p : Pg) (hf : Fit p) (n : Str) : SpecP Tryz.prog 35 [.agg p.cells, .str n] (fun r => r = eSteps (augO p n)) := by
  refine SpecP.body I_aug_Of tabOK Tryz.func35 rfl Tryz.call35 (by show 2 ≤ _; decide) ?_
  conv => whnf
  have hW := way_Of p hf n
  cases hw : wayO p n with
  | none =>
    rw [augO_none hw]
    rw [hw] at hW
    repeat' (refine CallK.pure hW (.cons (Sub.refl _) (.cons (Sub.refl _) .nil)) ?_; rintro _ rfl; conv => whnf)
    exact ⟨_, .p Sub.nils, rfl⟩
  | some w =>
    obtain ⟨k, f, hkj, rfl, hc, _⟩ := wayO_some hw
    have hw0 := hw
    rw [hw] at hW
    repeat' ((first | (refine CallK.pure hW (.cons (Sub.refl _) (.cons (Sub.refl _) .nil)) ?_; rintro _ rfl) | (refine CallK.pure (way_Way_Aug (newWay p k f) f (cntL f.body+2) (wayT hc hkj)) (.cons (Sub.refl _) .nil) ?_; rintro _ rfl)); conv => whnf)
    exact RetK.p (by rw [augO_some hw0 hkj])
set_option maxRecDepth 100000 in
theorem aug_Data (p : Pg) (hf : Fit p) (n : Str) : SpecP Tryz.prog 36 [.agg p.cells, .str n] (fun r => r = eSteps (dataO p n)) := by
  refine SpecP.body I_aug_Data tabOK Tryz.func36 rfl Tryz.call36 (by show 2 ≤ _; decide) ?_
  conv => whnf
  have hW := way_Of p hf n
  cases hw : wayO p n with
  | none =>
    rw [dataO_none hw]
    rw [hw] at hW
    repeat' (refine CallK.pure hW (.cons (Sub.refl _) (.cons (Sub.refl _) .nil)) ?_; rintro _ rfl; conv => whnf)
    exact ⟨_, .p Sub.nils, rfl⟩
  | some w =>
    obtain ⟨k, f, hkj, rfl, hc, _⟩ := wayO_some hw
    have hw0 := hw
    rw [hw] at hW
    repeat' ((first | (refine CallK.pure hW (.cons (Sub.refl _) (.cons (Sub.refl _) .nil)) ?_; rintro _ rfl) | (refine CallK.pure (way_Way_Data (newWay p k f) f (cntL f.body+2) (wayT hc hkj)) (.cons (Sub.refl _) .nil) ?_; rintro _ rfl)); conv => whnf)
    exact RetK.p (by rw [dataO_some hw0 hkj])
set_option maxRecDepth 100000 in
theorem aug_Traps (p : Pg) (hf : Fit p) (n : Str) : SpecP Tryz.prog 37 [.agg p.cells, .str n] (fun r => r = eMat (trapsO p n)) := by
  refine SpecP.body I_aug_Traps tabOK Tryz.func37 rfl Tryz.call37 (by show 2 ≤ _; decide) ?_
  conv => whnf
  have hW := way_Of p hf n
  cases hw : wayO p n with
  | none =>
    rw [trapsO_none hw]
    rw [hw] at hW
    repeat' (refine CallK.pure hW (.cons (Sub.refl _) (.cons (Sub.refl _) .nil)) ?_; rintro _ rfl; conv => whnf)
    exact ⟨_, .p Sub.nils, rfl⟩
  | some w =>
    obtain ⟨k, f, hkj, rfl, hc, _⟩ := wayO_some hw
    have hw0 := hw
    have hT := wayT hc hkj
    rw [hw] at hW
    repeat' ((first | (refine CallK.pure hW (.cons (Sub.refl _) (.cons (Sub.refl _) .nil)) ?_; rintro _ rfl) | (refine CallK.pure (way_Way_Traps (newWay p k f) f (cntL f.body+2) hT.hw hT.hj hT.hc hT.hn hT.hn2 hT.hlen hT.hr) (.cons (Sub.refl _) .nil) ?_; rintro _ rfl)); conv => whnf)
    exact RetK.p (by rw [trapsO_some hw0 hkj])
end Go.Ab
namespace Go.Ab
open Go.Proofs
instance (a b : Step) : Decidable (ltSt a b) := inferInstanceAs (Decidable (_ ∨ _))
instance : DecidableEq Step := fun a b => decidable_of_iff (a.src = b.src ∧ a.dst = b.dst ∧ a.kind = b.kind) ⟨fun h => Step.eq_of h.1 h.2.1 h.2.2, fun h => by rw [h]; exact ⟨rfl, rfl, rfl⟩⟩
theorem same_of {a b : Step} (ha : okSt a) (hb : okSt b) (h : stepLt b a = false) : (a.src = b.src ∧ a.dst = b.dst ∧ a.kind ≤ b.kind) ∨ ltSt a b := by
  rw [Bool.eq_false_iff, ne_eq, stepLt_iff] at h
  unfold ltSt
  by_cases h1 : rankI a.src = rankI b.src
  · by_cases h2 : rankI a.dst = rankI b.dst
    · exact .inl ⟨rankI_inj ha.1 hb.1 h1, rankI_inj ha.2 hb.2 h2, by omega⟩
    · exact .inr (by omega)
  · exact .inr (by omega)
theorem compFrom_gen : ∀ (l : List Step) (a : Step), okSt a → (∀ s ∈ l, okSt s) → (a :: l).Pairwise (fun a b => stepLt b a = false) →
    (∀ s ∈ compFrom a l, ltSt a s) ∧ (compFrom a l).Pairwise ltSt ∧ (∀ s ∈ compFrom a l, s ∈ l) ∧ ∀ s ∈ l, (s.src = a.src ∧ s.dst = a.dst ∧ a.kind ≤ s.kind) ∨ ∃ s' ∈ compFrom a l, s'.src = s.src ∧ s'.dst = s.dst ∧ s'.kind ≤ s.kind
  | [], a, _, _, _ => by simp [compFrom]
  | b :: r, a, ha, hl, h => by
    have hb := hl b List.mem_cons_self
    have hr : ∀ s ∈ r, okSt s := fun s hs => hl s (List.mem_cons_of_mem _ hs)
    rw [List.pairwise_cons] at h
    obtain ⟨h1, h2⟩ := h
    obtain ⟨i1, i2, i3, i4⟩ := compFrom_gen r b hb hr h2
    have hab := same_of ha hb (h1 b List.mem_cons_self)
    rw [compFrom]
    cases hs : sameStep b a with
    | true =>
      unfold sameStep at hs
      simp only [Bool.and_eq_true, decide_eq_true_eq] at hs
      have hk : a.kind ≤ b.kind := by
        rcases hab with h3 | h3
        · exact h3.2.2
        · unfold ltSt at h3
          rw [hs.1, hs.2] at h3
          omega
      rw [cond_true]
      refine ⟨fun s hs' => ?_, i2, fun s hs' => List.mem_cons_of_mem _ (i3 s hs'), fun s hs' => ?_⟩
      · have := i1 s hs'
        unfold ltSt at this ⊢
        rwa [← hs.1, ← hs.2]
      · rcases List.mem_cons.1 hs' with rfl | hs'
        · exact .inl ⟨hs.1, hs.2, hk⟩
        · rcases i4 s hs' with ⟨h3, h4, h5⟩ | h3
          · exact .inl ⟨by rw [h3, hs.1], by rw [h4, hs.2], by omega⟩
          · exact .inr h3
    | false =>
      have hlt : ltSt a b := by
        rcases hab with h3 | h3
        · unfold sameStep at hs
          simp [h3.1, h3.2.1] at hs
        · exact h3
      rw [cond_false]
      refine ⟨fun s hs' => ?_, List.pairwise_cons.2 ⟨i1, i2⟩, fun s hs' => ?_, fun s hs' => ?_⟩
      · rcases List.mem_cons.1 hs' with rfl | hs'
        · exact hlt
        · exact ltSt_trans hlt (i1 s hs')
      · rcases List.mem_cons.1 hs' with rfl | hs'
        · exact List.mem_cons_self
        · exact List.mem_cons_of_mem _ (i3 s hs')
      · rcases List.mem_cons.1 hs' with rfl | hs'
        · exact .inr ⟨s, List.mem_cons_self, rfl, rfl, Int.le_refl _⟩
        · rcases i4 s hs' with ⟨h3, h4, h5⟩ | ⟨s', h3, h4⟩
          · exact .inr ⟨b, List.mem_cons_self, h3.symm, h4.symm, h5⟩
          · exact .inr ⟨s', List.mem_cons_of_mem _ h3, h4⟩
theorem normS_gen {l : List Step} (hok : ∀ s ∈ l, okSt s) : (normS l).Pairwise ltSt ∧ (∀ s ∈ normS l, s ∈ l) ∧ ∀ s ∈ l, ∃ s' ∈ normS l, s'.src = s.src ∧ s'.dst = s.dst ∧ s'.kind ≤ s.kind := by
  have hp : ∀ s, s ∈ sortSt l ↔ s ∈ l := fun s => (sortSt_perm l).mem_iff
  have hs := sortSt_sorted l
  unfold normS
  cases hq : sortSt l with
  | nil =>
    rw [hq] at hp
    refine ⟨by simp [compF], by simp [compF], fun s hs => ?_⟩
    have := (hp s).2 hs
    cases this
  | cons a r =>
    rw [hq] at hp hs
    have hok' : ∀ s ∈ a :: r, okSt s := fun s h => hok s ((hp s).1 h)
    obtain ⟨h1, h2, h3, h4⟩ := compFrom_gen r a (hok' a List.mem_cons_self) (fun s h => hok' s (List.mem_cons_of_mem _ h)) hs
    rw [compF]
    refine ⟨List.pairwise_cons.2 ⟨h1, h2⟩, fun s hs' => ?_, fun s hs' => ?_⟩
    · rcases List.mem_cons.1 hs' with rfl | hs'
      · exact (hp s).1 List.mem_cons_self
      · exact (hp s).1 (List.mem_cons_of_mem _ (h3 s hs'))
    · rcases List.mem_cons.1 ((hp s).2 hs') with rfl | hs'
      · exact ⟨s, List.mem_cons_self, rfl, rfl, Int.le_refl _⟩
      · rcases h4 s hs' with ⟨h5, h6, h7⟩ | ⟨s', h5, h6⟩
        · exact ⟨a, List.mem_cons_self, h5.symm, h6.symm, h7⟩
        · exact ⟨s', List.mem_cons_of_mem _ h5, h6⟩
theorem lt_uniq {l : List Step} (h : l.Pairwise ltSt) {a b : Step} (ha : a ∈ l) (hb : b ∈ l) (h1 : a.src = b.src) (h2 : a.dst = b.dst) : a = b := by
  have hn : ∀ {x y : Step}, x.src = y.src → x.dst = y.dst → ¬ ltSt x y := fun {x y} e1 e2 hlt => by
    unfold ltSt at hlt
    rw [e1, e2] at hlt
    omega
  induction h with
  | nil => cases ha
  | @cons c r hc hr ih =>
    rcases List.mem_cons.1 ha with e1 | ha'
    · rcases List.mem_cons.1 hb with e2 | hb'
      · rw [e1, e2]
      · exact absurd (hc b hb') (by rw [← e1]; exact hn h1 h2)
    · rcases List.mem_cons.1 hb with e2 | hb'
      · exact absurd (hc a ha') (by rw [← e2]; exact hn h1.symm h2.symm)
      · exact ih ha' hb'
theorem normS_eq {l m : List Step} (hok : ∀ s ∈ l, okSt s) (h1 : m.Pairwise ltSt) (h2 : ∀ s ∈ m, s ∈ l) (h3 : ∀ s ∈ l, ∃ s' ∈ m, s'.src = s.src ∧ s'.dst = s.dst ∧ s'.kind ≤ s.kind) : normS l = m := by
  obtain ⟨g1, g2, g3⟩ := normS_gen hok
  refine sorted_ext g1 h1 fun s => ⟨fun hs => ?_, fun hs => ?_⟩
  · obtain ⟨a, ha, h4, h5, h6⟩ := h3 s (g2 s hs)
    obtain ⟨b, hb, h7, h8, h9⟩ := g3 a (h2 a ha)
    have := lt_uniq g1 hb hs (h7.trans h4) (h8.trans h5)
    subst this
    have : a = b := Step.eq_of h4 h5 (by omega)
    rw [← this]
    exact ha
  · obtain ⟨a, ha, h4, h5, h6⟩ := g3 s (h2 s hs)
    obtain ⟨b, hb, h7, h8, h9⟩ := h3 a (g2 a ha)
    have := lt_uniq h1 hb hs (h7.trans h4) (h8.trans h5)
    subst this
    have : a = b := Step.eq_of h4 h5 (by omega)
    rw [← this]
    exact ha
end Go.Ab
namespace Go.Ab
open Go.Proofs
theorem real1 : (newWay someP 1 f1).real = [⟨0, 5, 1⟩, ⟨5, 6, 1⟩, ⟨6, 7, 1⟩, ⟨6, 8, 1⟩, ⟨7, -1, 1⟩, ⟨8, -1, 1⟩] := norm1
theorem real0 : (newWay someP 0 f0).real = [⟨0, 1, 1⟩, ⟨1, 2, 1⟩, ⟨2, 3, 1⟩, ⟨3, 4, 1⟩, ⟨4, -1, 1⟩] := norm0
theorem prs1 : prsW (newWay someP 1 f1) f1 = [(0, 1), (1, 2), (2, 3), (2, 4), (3, 5), (4, 5)] := by
  unfold prsW
  rw [real1]
  kernel_rfl
theorem prs0 : prsW (newWay someP 0 f0) f0 = [(0, 1), (1, 2), (2, 3), (3, 4), (4, 5)] := by
  unfold prsW
  rw [real0]
  kernel_rfl
theorem traps1 : trapsW (newWay someP 1 f1) f1 = [] := by
  unfold trapsW partW
  rw [prs1]
  kernel_rfl
theorem traps0 : trapsW (newWay someP 0 f0) f0 = [] := by
  unfold trapsW partW
  rw [prs0]
  kernel_rfl
theorem aug1 : augW (newWay someP 1 f1) f1 = [⟨0, 5, 1⟩, ⟨0, -1, 2⟩, ⟨5, 6, 1⟩, ⟨6, 7, 1⟩, ⟨6, 8, 1⟩, ⟨7, 8, 2⟩, ⟨7, -1, 1⟩, ⟨8, -1, 1⟩] := by
  have h1 : augRaw (newWay someP 1 f1) f1 = [⟨0, 5, 1⟩, ⟨5, 6, 1⟩, ⟨6, 7, 1⟩, ⟨6, 8, 1⟩, ⟨7, -1, 1⟩, ⟨8, -1, 1⟩, ⟨0, -1, 2⟩, ⟨7, 8, 2⟩, ⟨8, -1, 2⟩] := by
    unfold augRaw virtW
    rw [traps1, real1]
    kernel_rfl
  unfold augW
  rw [h1]
  exact normS_eq (by unfold okSt; decide) (by decide) (by decide) (by decide)
theorem aug0 : augW (newWay someP 0 f0) f0 = [⟨0, 1, 1⟩, ⟨0, -1, 2⟩, ⟨1, 2, 1⟩, ⟨2, 3, 1⟩, ⟨3, 4, 1⟩, ⟨4, -1, 1⟩] := by
  have h1 : augRaw (newWay someP 0 f0) f0 = [⟨0, 1, 1⟩, ⟨1, 2, 1⟩, ⟨2, 3, 1⟩, ⟨3, 4, 1⟩, ⟨4, -1, 1⟩, ⟨0, -1, 2⟩] := by
    unfold augRaw virtW
    rw [traps0, real0]
    kernel_rfl
  unfold augW
  rw [h1]
  exact normS_eq (by unfold okSt; decide) (by decide) (by decide) (by decide)
theorem data1 : dataW (newWay someP 1 f1) f1 = [⟨0, 5, 1⟩, ⟨5, 6, 1⟩, ⟨6, 7, 1⟩, ⟨6, 8, 1⟩, ⟨7, -1, 1⟩, ⟨8, -1, 1⟩] := by
  unfold dataW virtW
  rw [traps1, real1]
  exact normS_eq (by unfold okSt; decide) (by decide) (by decide) (by decide)
theorem some_way0 : wayO someP [109, 97, 105, 110] = some (newWay someP 0 f0) := by
  unfold wayO
  rw [some_chk]
  rfl
set_option maxHeartbeats 2000000 in
set_option maxRecDepth 100000 in
theorem whittlerlaw16_more : SpecP Tryz.prog 34 [] (fun r => r = .tt) := by
  have hA := aug_Of someP some_fit [112]
  rw [augO_some (f := f1) some_way rfl, aug1] at hA
  have hM := aug_Of someP some_fit [109, 97, 105, 110]
  rw [augO_some (f := f0) some_way0 rfl, aug0] at hM
  have hD := aug_Data someP some_fit [112]
  rw [dataO_some (f := f1) some_way rfl, data1] at hD
  refine SpecP.body I_whittlerlaw16_more tabOK Tryz.func34 rfl Tryz.call34 (by show 0 ≤ _; decide) ?_
  conv => whnf
  repeat' (first | ((first | (intro (_ : _ ≤ 9223372036854775807)) | (refine And.intro rfl ?_) | (refine CallK.pure whittlerref3_Some .nil ?_; rintro _ rfl) | (refine CallK.pure hA (.cons (Sub.refl _) (.cons (Sub.refl _) .nil)) ?_; rintro _ rfl) | (refine CallK.pure hM (.cons (Sub.refl _) (.cons (Sub.refl _) .nil)) ?_; rintro _ rfl) | (refine CallK.pure hD (.cons (Sub.refl _) (.cons (Sub.refl _) .nil)) ?_; rintro _ rfl)); conv => whnf) | (refine Br.dec (fun _ => ?_) (fun _ => ?_) <;> first | (exfalso; omega) | conv => whnf))
  · refine IdxK.at (k := 1) (e := .agg (Step.mk 0 (-1) 2).cells) rfl rfl rfl ?_
    conv => whnf
    skip
    all_goals first
      | exact RetK.tt rfl
      | exact ⟨_, .p (Sub.tt' rfl), rfl⟩
      | (rename_i h; exact absurd rfl h)
      | trace_state
  all_goals
    rename_i h
    exact absurd rfl h
end Go.Ab
namespace Go.Ab
open Go.Proofs
theorem entry_go {p : Pg} (h : chkB p = true) {j : Nat} {f : Pr} (hj : p.procs[j]? = some f) : wR p j f 0 (fstI p j f) := ⟨⟨0, fstI p j f, 1⟩, ((real_spec h hj).2 _).2 (by unfold stepsRaw fstI; exact List.mem_cons_self), rfl, rfl⟩
/-- In a trap somebody jumps by goto. -/
theorem trap_goto {p : Pg} (h : chkB p = true) {j : Nat} {f : Pr} (hj : p.procs[j]? = some f) {r : Int} (hr : plP p j f r) (hcl : ∀ b c, sccP (wR p j f) r b → wR p j f b c → sccP (wR p j f) r c) (h0 : ¬ sccP (wR p j f) r 0) (hx : ¬ sccP (wR p j f) r (-1)) : ∃ t ∈ flL f.body, sccP (wR p j f) r t.id ∧ t.kind = 10 := by
  refine Classical.byContradiction fun hno => hx ?_
  have hrr : (offN p.procs j : Int) + 1 ≤ r ∧ r ≤ (offN p.procs j + cntL f.body : Nat) := by
    rcases hr with rfl | rfl | h1
    · exact absurd (sccP.refl 0) h0
    · exact absurd (sccP.refl (-1)) hx
    · exact h1
  obtain ⟨t, ht, _, hti⟩ := stAt_own h hj hrr.1 hrr.2
  exact proc_exit h hj (T := fun y => sccP (wR p j f) r y) (fun a b ha hab => hcl a b ha hab) (fun u hu hs hk => hno ⟨u, hu, hs, hk⟩) ht (by rw [hti]; exact sccP.refl r)
theorem data_ok {p : Pg} (h : chkB p = true) {j : Nat} {f : Pr} (hj : p.procs[j]? = some f) : ∀ s ∈ virtW (newWay p j f) f ++ (newWay p j f).real, okSt s := fun s hs =>
  (List.mem_append.1 hs).elim ((wayT h hj).virt_ok s) ((wayT h hj).hok s)
end Go.Ab
