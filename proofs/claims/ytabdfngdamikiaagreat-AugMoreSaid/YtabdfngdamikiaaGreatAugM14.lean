/- graph: the parts, walked. -/
import Derived.Laws.StructEq
import Derived.ChangeKeysEq
import Derived.Test.YtabdfngdamikiaaGreatAugM7
import Derived.Test.YtabdfngdamikiaaGreatAugM12
import Derived.Test.YtabdfngdamikiaaGreatAugM13
set_option linter.unusedSimpArgs false
set_option linter.unusedVariables false
namespace Go.Ab
open Go.Proofs
set_option maxHeartbeats 4000000 in
set_option maxRecDepth 100000 in
theorem graph_Graph_Parts (n : Nat) (hn : n ≤ 5000) (g : List (List Int) × List (List Int)) (hg : rowsIn n g.1) (hg2 : rowsIn n g.2) (hgm : ∀ x y, rowE g.2 x y ↔ rowE g.1 y x) : SpecP Tryz.prog 144 [eGraph g] (fun r => r = eInts (partR n g.1)) := by
  refine SpecP.body I_graph_Graph_Parts tabOK Tryz.func144 rfl Tryz.call144 (by show 1 ≤ _; decide) ?_
  conv => whnf
  have hl : ((avI g.1).map AV.sl).length = n := by simp [avI, hg.1]
  repeat' ((first | (intro (_ : _ ≤ 9223372036854775807)) | (refine And.intro ⟨rfl, rfl, by decide⟩ ?_) | (refine Wr.i64 (by omega) (by omega) ?_) | (refine MkK.mk n (by rw [hl]) (by show 1 * n ≤ 140737488355328; omega) (by unfold maxLen; omega) ?_) | (refine MkK.mk n (by rw [hl]) (by show 8 * n ≤ 140737488355328; omega) (by unfold maxLen; omega) ?_) | (refine CallK.pure (graph_Graph_ends n hn g hg) (.cons (Sub.refl _) .nil) ?_; rintro _ ⟨es, rfl, he⟩)); conv => whnf)
  have hesl : es.length ≤ n := by
    have h1 := he.nd
    exact rng_len h1 fun x hx => (he.mem x).1 hx
  have hml : (es.map (AV.int .i64)).length = es.length := List.length_map _
  refine LoopK.inv tabOK (fun x : Nat × List Int × List Bool => ⟨[(0, .p (eGraph g)), (3, .hd 0 0 n), (4, .hd 1 0 n), (5, .p (eInts es)), (6, .p (.int .i64 ((x.1 : Int) - 1)))], [(0, .own 3 1 (x.2.1.map (.int .i64))), (1, .own 4 1 (x.2.2.map bv))]⟩)
    (fun x => x.1 ≤ es.length ∧ PartI n (rowE g.1) es x.1 x.2.1 x.2.2) (fun x => x.1) (es.length, List.replicate n 0, List.replicate n false)
    (Le.mk [] (by simp) (by simp) (by simp) (.cons (.refl _) (.cons (.of_eq rfl) (.cons (.of_eq rfl) (.cons (.refl _) (.cons (.of_eq (by rw [hml]; rfl)) .nil)))))
      (.cons rfl (.of_eq (by rw [List.map_replicate]; rfl)) (.cons rfl (.of_eq (by rw [List.map_replicate]; rfl)) .nil)))
    ⟨Nat.le_refl _, PartI.start⟩ ?_
  rintro ⟨m, part, seen⟩ ⟨h1, h2⟩
  simp only at h1 h2 ⊢
  have hsl := h2.sl
  have hpl := h2.pl
  cases m with
  | zero =>
    conv => whnf
    repeat' (refine Br.dec (fun _ => ?_) (fun _ => ?_) <;> first | (exfalso; omega) | conv => whnf)
    exact ⟨_, .hd rfl (by simp [hpl]), by rw [h2.fin hg he]; rfl⟩
  | succ m =>
    obtain ⟨r, hr⟩ : ∃ r, es[m]? = some r := ⟨_, List.getElem?_eq_getElem (by omega)⟩
    have hrr := (he.mem r).1 (List.mem_of_getElem? hr)
    have hre : es[m] = r := by rw [List.getElem?_eq_getElem (by omega)] at hr; exact Option.some.inj hr
    have hra : (es.map (AV.int .i64))[m]? = some (.int .i64 r) := by rw [List.getElem?_map, hr]; rfl
    have e1 := bvAt (l := seen) (i := r.toNat) (by omega)
    cases hq : seen.getD r.toNat false with
    | true =>
      rw [hq] at e1
      have hsk := seen_skip hr ((h2.seen r hrr).1 hq)
      conv => whnf
      repeat' (first | ((first | (refine And.intro rfl ?_) | (refine Wr.i64 (by omega) (by omega) ?_) | (refine IdxK.at (k := m) (by omega) hra rfl ?_) | (refine IdxL.mk r.toNat (by omega) (by omega) ?_) | (refine LdOwn.mk r.toNat 0 .tt (by omega) e1 ?_)); conv => whnf) | (refine Br.dec (fun _ => ?_) (fun _ => ?_) <;> first | (exfalso; omega) | conv => whnf))
      exact ⟨(m, part, seen), ⟨by simp only; omega, h2.sl, h2.pl, fun x hx => by rw [h2.seen x hx, hsk], fun x hx hs => h2.min x hx ((hsk x).1 hs)⟩, Nat.lt_succ_self m, Le.of_eq (by rw [show ((m + 1 : Nat) : Int) - 1 - 1 = (m : Int) - 1 by omega])⟩
    | false =>
      rw [hq] at e1
      obtain ⟨h3, h4, h5, h6⟩ := h2.part hg hg2 hgm he hr hq
      conv => whnf
      repeat' (first | ((first | (refine DrawK.auto tabOK mixed (by kernel_rfl) ?_) | (refine And.intro rfl ?_) | (refine And.intro ⟨by decide, by decide⟩ ?_) | (refine IdxK.at (k := m) (by omega) hra rfl ?_) | (refine IdxL.mk r.toNat (by omega) (by omega) ?_) | (refine LdOwn.mk r.toNat 0 .ff (by omega) e1 ?_) | (refine StOwn.mk r.toNat 0 .ff .tt (by omega) e1 (Nat.le_refl 1) rfl ?_) | (refine BsK.own (fun x hx => by rcases List.mem_singleton.1 hx with rfl; rfl) rfl ?_)); conv => whnf) | (refine Br.dec (fun _ => ?_) (fun _ => ?_) <;> first | (exfalso; omega) | conv => whnf))
      have hwl : (walkF g.2 (n + 1) 0 (seen.set r.toNat true, [r])).1.length = n := h6.sl
      rw [show (seen.map bv).set r.toNat AV.tt = (seen.set r.toNat true).map bv by rw [List.map_set]; rfl]
      refine CallK.heap [(1000, 1), (2000, 2)] 0 (ArgsH.cons (LSub.refl _) (ArgsH.cons (LSub.refl _) (ArgsH.cons (LSub.refl _) ArgsH.nil))) (by refine BlksH.cons (j := 1) rfl rfl ?_ ?_; exact CSub.refl _; refine BlksH.cons (j := 2) rfl rfl ?_ ?_; exact CSub.refl _; exact BlksH.nil) (graph_walk n hn g.2 hg2 (seen.set r.toNat true, [r]) h5) rfl rfl ?_
      rintro l' H' ⟨rfl, rfl⟩
      conv => whnf
      have hwn : (walkF g.2 (n + 1) 0 (seen.set r.toNat true, [r])).2.length ≤ n := wkInv_len (walkF_inv hg2 _ _ h5)
      generalize walkF g.2 (n + 1) 0 (seen.set r.toNat true, [r]) = w at h3 h4 h6 hwl hwn ⊢
      repeat' ((first | (intro (_ : _ ≤ 9223372036854775807)) | (refine CallK.borrow (slices_Min_int_int_ w.2 h4) (.cons (.hd rfl (by simp)) .nil) (by rintro _ rfl; rfl) ?_; rintro _ rfl)); conv => whnf)
      refine LoopK.inv tabOK (fun x : Nat => ⟨[(0, .p (eGraph g)), (3, .hd 0 0 n), (4, .hd 1 0 n), (5, .p (eInts es)), (6, .p (.int .i64 (((m + 1 : Nat) : Int) - 1))), (8, .p (.int .i64 (minI w.2))), (60, .hd 2 0 w.2.length), (61, .p (.int .i64 w.2.length)), (62, .p (.int .i64 x))], [(1, .own 4 1 (w.1.map bv)), (2, .own 3 1 (w.2.map (.int .i64))), (0, .own 3 1 ((setMany (w.2.take x) (minI w.2) part).map (.int .i64)))]⟩)
        (fun x => x ≤ w.2.length) (fun x => w.2.length - x) 0 (Le.of_eq rfl) (Nat.zero_le _) ?_
      intro q hqw
      rcases Nat.lt_or_ge q w.2.length with hq2 | hq2
      · have hwr := h3 _ (List.getElem_mem hq2)
        have e4 := intAt (l := setMany (w.2.take q) (minI w.2) part) (i := w.2[q].toNat) (by rw [setMany_len]; omega)
        have e5 : setMany (w.2.take (q + 1)) (minI w.2) part = (setMany (w.2.take q) (minI w.2) part).set w.2[q].toNat (minI w.2) := by
          unfold setMany
          rw [List.take_succ_eq_append_getElem hq2, List.foldl_append]
          rfl
        generalize setMany (w.2.take q) (minI w.2) part = pt at e4 e5 ⊢
        conv => whnf
        repeat' (first | ((first | (refine And.intro rfl ?_) | (refine Wr.i64 (by omega) (by omega) ?_) | (refine IdxL.mk q (by omega) (by omega) ?_) | (refine LdOwn.mk q 0 (.int .i64 w.2[q]) (by omega) (by simp [hq2]) ?_) | (refine IdxL.mk w.2[q].toNat (by omega) (by omega) ?_) | (refine StOwn.mk w.2[q].toNat 0 (.int .i64 (pt.getD w.2[q].toNat 0)) (.int .i64 (minI w.2)) (by omega) e4 (Nat.le_refl 1) rfl ?_)); conv => whnf) | (refine Br.dec (fun _ => ?_) (fun _ => ?_) <;> first | (exfalso; omega) | conv => whnf))
        exact ⟨q + 1, hq2, by omega, Le.of_eq (by rw [e5, List.map_set]; rfl)⟩
      · rw [List.take_of_length_le hq2]
        conv => whnf
        repeat' (first | (refine Wr.i64 (by omega) (by omega) ?_; conv => whnf) | (refine Br.dec (fun _ => ?_) (fun _ => ?_) <;> first | (exfalso; omega) | conv => whnf))
        exact ⟨(m, setMany w.2 (minI w.2) part, w.1), ⟨by simp only; omega, h6⟩, Nat.lt_succ_self m, Le.mk [] (by simp) (by simp) (by simp) (.cons (.refl _) (.cons (.refl _) (.cons (.refl _) (.cons (.refl _) (.cons (.of_eq (by rw [show (m : Int) = ((m + 1 : Nat) : Int) - 1 by omega]; rfl)) .nil))))) (.cons rfl (.refl _) (.cons rfl (.refl _) .nil))⟩
end Go.Ab
namespace Go.Ab
open Go.Proofs
theorem OpK.frz {P : Program} {T : Tab} {N : Nat} {o : Oper} {K : St → Prop} {s : St} (hT : TabOK P T) (gs : List (List Nat)) (h : frzK gs s fun s' => opW P T N s' o K) : OpK P N s o K := ⟨fun σ β a w hr Q => by
  obtain ⟨s1, h1, hle⟩ := frzK_spec (N := N) h
  obtain ⟨σ1, β1, hr1, hl1⟩ := hle σ β a w hr
  exact Oper.wp_mono (fun a' w' ⟨σ', β', s2, hK, hr', hl⟩ => ⟨σ', β', s2, hK, hr', hl1.trans hl⟩) (opW_sound hT h1 hr1 Q)⟩
theorem putR_mem {N : List (List Int)} {a : Nat} (ha : a < N.length) {b y : Int} {k : Nat} : y ∈ (putR N a b).getD k [] ↔ y ∈ N.getD k [] ∨ (a = k ∧ y = b) := by
  unfold putR
  rw [getD_set ha]
  split
  · rename_i h
    rw [insI_mem, h]
    simp
  · rename_i h
    simp [h]
theorem addE_len2 {n : Nat} {g : List (List Int) × List (List Int)} (hl : g.2.length = n) (e : Int × Int) : (addE n g e).2.length = n := by
  rw [addE_2]
  cases (hasB n e.1 && hasB n e.2 && !(g.1.getD e.1.toNat []).contains e.2) with
  | true => rw [cond_true]; unfold putR; rw [List.length_set]; exact hl
  | false => exact hl
/-- The two rows of a graph tell the same. -/
structure MirG (n : Nat) (g : List (List Int) × List (List Int)) : Prop where
  l1 : g.1.length = n
  l2 : g.2.length = n
  m : ∀ x y : Int, 0 ≤ x ∧ x < n → 0 ≤ y ∧ y < n → (y ∈ g.1.getD x.toNat [] ↔ x ∈ g.2.getD y.toNat [])
theorem MirG.add {n : Nat} {g : List (List Int) × List (List Int)} (h : MirG n g) (e : Int × Int) : MirG n (addE n g e) := by
  refine ⟨addE_len h.l1 e, addE_len2 h.l2 e, fun x y hx hy => ?_⟩
  rw [addE_1, addE_2]
  cases hc : (hasB n e.1 && hasB n e.2 && !(g.1.getD e.1.toNat []).contains e.2) with
  | true =>
    simp only [Bool.and_eq_true] at hc
    have h1 := hasB_iff hc.1.1
    have h2 := hasB_iff hc.1.2
    rw [cond_true, cond_true, putR_mem (by rw [h.l1]; omega), putR_mem (by rw [h.l2]; omega), h.m x y hx hy]
    constructor
    · rintro (h3 | ⟨h3, h4⟩)
      · exact .inl h3
      · exact .inr ⟨by omega, by omega⟩
    · rintro (h3 | ⟨h3, h4⟩)
      · exact .inl h3
      · exact .inr ⟨by omega, by omega⟩
  | false => exact h.m x y hx hy
theorem MirG.fold {n : Nat} : ∀ (l : List (Int × Int)) {g : List (List Int) × List (List Int)}, MirG n g → MirG n (l.foldl (addE n) g)
  | [], _, h => h
  | e :: r, _, h => MirG.fold r (h.add e)
theorem graph_mir (n : Nat) (l : List (Int × Int)) : MirG n (graphE n l) := by
  refine MirG.fold l ⟨by simp, by simp, fun x y _ _ => ?_⟩
  have : ∀ k, (List.replicate n ([] : List Int)).getD k [] = [] := fun k => by
    rw [List.getD_eq_getElem?_getD, List.getElem?_replicate]
    split <;> rfl
  simp only [this]
  simp
theorem rowE_lt {n : Nat} {rows : List (List Int)} (hl : rows.length = n) {x y : Int} (h : rowE rows x y) : 0 ≤ x ∧ x < n := by
  refine ⟨h.1, ?_⟩
  have h2 := h.2
  unfold rowR at h2
  rcases Nat.lt_or_ge x.toNat rows.length with h3 | h3
  · omega
  · rw [List.getD_eq_getElem?_getD, List.getElem?_eq_none h3] at h2
    simp at h2
theorem graph_mirE (n : Nat) (l : List (Int × Int)) (x y : Int) : rowE (graphE n l).2 x y ↔ rowE (graphE n l).1 y x := by
  obtain ⟨h1, h2⟩ := graphE_in n l
  have hm := graph_mir n l
  constructor
  · intro h
    have hx := rowE_lt hm.l2 h
    have hy := row_in h2 h.2
    exact ⟨hy.1, (hm.m y x hy hx).2 h.2⟩
  · intro h
    have hx := rowE_lt hm.l1 h
    have hy := row_in h1 h.2
    exact ⟨hy.1, (hm.m y x hx hy).1 h.2⟩
theorem graph_rowE {n : Nat} {l : List (Int × Int)} {x y : Int} : rowE (graphE n l).1 x y ↔ (x, y) ∈ l ∧ hasB n x = true ∧ hasB n y = true := by
  constructor
  · intro h
    have hx := rowE_lt (graph_mir n l).l1 h
    have := (graph_rowR hx).1 h.2
    exact ⟨this.1, hasB_of hx, this.2⟩
  · rintro ⟨h1, h2, h3⟩
    have hx := hasB_iff h2
    exact ⟨hx.1, (graph_rowR hx).2 ⟨h1, h3⟩⟩
def openS (part : List Int) (o : List Bool) (t : Int × Int) : List Bool := if part.getD t.1.toNat 0 = part.getD t.2.toNat 0 then o else o.set (part.getD t.1.toNat 0).toNat true
def open0 (n : Nat) (part : List Int) : List Bool := ((List.replicate n false).set (part.getD 0 0).toNat true).set (part.getD (n - 1) 0).toNat true
def openB (n : Nat) (part : List Int) (prs : List (Int × Int)) : List Bool := prs.foldl (openS part) (open0 n part)
def trapR (plc : Int → Int) (part : List Int) (i q : Nat) : List Int := ((List.range q).filter fun j => part.getD j 0 == (i : Int)).map fun (j : Nat) => plc j
def trapT (part : List Int) (op : List Bool) (i : Nat) : Bool := part.getD i 0 == (i : Int) && !op.getD i false
def trapL (plc : Int → Int) (part : List Int) (op : List Bool) (q : Nat) : List (List Int) := ((List.range q).filter (trapT part op)).map fun i => trapR plc part i part.length
def prsW (w : Way) (f : Pr) : List (Int × Int) := w.real.map (ixP w.p w.j f w.n)
def partW (w : Way) (f : Pr) : List Int := partR w.n.toNat (graphE w.n.toNat (prsW w f)).1
def trapsW (w : Way) (f : Pr) : List (List Int) := trapL (placeI w.p w.j w.n) (partW w f) (openB w.n.toNat (partW w f) (prsW w f)) (partW w f).length
theorem openS_len (part : List Int) (o : List Bool) (t : Int × Int) : (openS part o t).length = o.length := by
  unfold openS
  split <;> simp
theorem partR_in {n : Nat} {rows : List (List Int)} (hr : rowsIn n rows) {k : Nat} (hk : k < n) : 0 ≤ (partR n rows).getD k 0 ∧ (partR n rows).getD k 0 < n := by
  have hx : 0 ≤ (k : Int) ∧ (k : Int) < n := by omega
  have := partR_spec hr hx
  exact rch_in hr hx this.scc.1
theorem trapR_succ (plc : Int → Int) (part : List Int) (i q : Nat) : trapR plc part i (q + 1) = if part.getD q 0 = (i : Int) then trapR plc part i q ++ [plc q] else trapR plc part i q := by
  unfold trapR
  rw [List.range_succ, List.filter_append, List.map_append]
  by_cases h : part.getD q 0 = (i : Int)
  · rw [if_pos h, List.filter_cons_of_pos (by rw [h]; simp)]
    rfl
  · rw [if_neg h, List.filter_cons_of_neg (by simpa using h)]
    simp
theorem trapL_succ (plc : Int → Int) (part : List Int) (op : List Bool) (q : Nat) : trapL plc part op (q + 1) = if trapT part op q = true then trapL plc part op q ++ [trapR plc part q part.length] else trapL plc part op q := by
  unfold trapL
  rw [List.range_succ, List.filter_append, List.map_append]
  by_cases h : trapT part op q = true
  · rw [if_pos h, List.filter_cons_of_pos h]
    rfl
  · rw [if_neg h, List.filter_cons_of_neg h]
    simp
theorem trapR_len (plc : Int → Int) (part : List Int) (i q : Nat) : (trapR plc part i q).length ≤ q := by
  unfold trapR
  rw [List.length_map]
  exact Nat.le_trans (List.length_filter_le _ _) (by simp)
theorem trapL_len (plc : Int → Int) (part : List Int) (op : List Bool) (q : Nat) : (trapL plc part op q).length ≤ q := by
  unfold trapL
  rw [List.length_map]
  exact Nat.le_trans (List.length_filter_le _ _) (by simp)
theorem openF_len (part : List Int) : ∀ (l : List (Int × Int)) (o : List Bool), (l.foldl (openS part) o).length = o.length
  | [], _ => rfl
  | t :: r, o => by rw [List.foldl_cons, openF_len part r, openS_len]
theorem openB_len (n : Nat) (part : List Int) (l : List (Int × Int)) : (l.foldl (openS part) (open0 n part)).length = n := by
  rw [openF_len]
  simp [open0]
end Go.Ab
namespace Go.Ab
open Go.Proofs
set_option maxHeartbeats 4000000 in
set_option maxRecDepth 100000 in
theorem way_Way_Traps (w : Way) (f : Pr) (n : Nat) (hw : w.n = n) (hj : w.p.procs[w.j]? = some f) (hc : cntP w.p.procs ≤ 1000) (hn : n ≤ 5000) (hn2 : 2 ≤ n) (hlen : w.real.length ≤ 1000000) (hr : ∀ t ∈ prsW w f, (0 ≤ t.1 ∧ t.1 < n) ∧ 0 ≤ t.2 ∧ t.2 < n) : SpecP Tryz.prog 98 [.ip w.cells] (fun r => r = eMat (trapsW w f)) := by
  refine SpecP.body I_way_Way_Traps tabOK Tryz.func98 rfl Tryz.call98 (by show 1 ≤ _; decide) ?_
  conv => whnf
  have hgi := graphE_in n (prsW w f)
  have hpart : partW w f = partR n (graphE n (prsW w f)).1 := by unfold partW; rw [hw]; rfl
  have htr : trapsW w f = trapL (placeI w.p w.j w.n) (partW w f) (openB n (partW w f) (prsW w f)) n := by unfold trapsW; rw [hpart, partR_len, hw]; rfl
  have hpin : ∀ k, k < n → 0 ≤ (partW w f).getD k 0 ∧ (partW w f).getD k 0 < n := fun k hk => by rw [hpart]; exact partR_in hgi.1 hk
  have hpl : (partW w f).length = n := by rw [hpart, partR_len]
  have hcp := graph_Graph_Parts n hn (graphE n (prsW w f)) hgi.1 hgi.2 (graph_mirE n (prsW w f))
  rw [← hpart] at hcp
  rw [htr]
  clear htr hpart hgi
  generalize partW w f = part at hpin hpl hcp ⊢
  have ha0 := hpin 0 (by omega)
  have ha1 := hpin (n - 1) (by omega)
  have hp0 := intAt (l := part) (i := 0) (by omega)
  have hp1 := intAt (l := part) (i := n - 1) (by omega)
  have e0 : (List.replicate n AV.ff)[(part.getD 0 0).toNat]? = some .ff := by rw [List.getElem?_replicate, if_pos (by omega)]
  have e1 : ((List.replicate n AV.ff).set (part.getD 0 0).toNat .tt)[(part.getD (n - 1) 0).toNat]? = some (bv (((List.replicate n false).set (part.getD 0 0).toNat true).getD (part.getD (n - 1) 0).toNat false)) := by
    have : (List.replicate n AV.ff).set (part.getD 0 0).toNat .tt = ((List.replicate n false).set (part.getD 0 0).toNat true).map bv := by
      rw [List.map_set, List.map_replicate]
      rfl
    rw [this]
    exact bvAt (by rw [List.length_set, List.length_replicate]; omega)
  have hplm : (part.map (AV.int .i64)).length = n := by rw [List.length_map, hpl]
  repeat' ((first | (intro (_ : _ ≤ 9223372036854775807)) | (refine DrawK.auto tabOK mixed (by kernel_rfl) ?_) | (refine And.intro rfl ?_) | (refine And.intro ⟨rfl, rfl, by decide⟩ ?_) | (refine Wr.i64 (by omega) (by omega) ?_) | (refine CallK.pure (way_Way_graph w f n hw hj hc hn w.real hlen) (.cons (Sub.refl _) (.cons (Sub.refl _) .nil)) ?_; rintro _ rfl) | (refine CallK.pure hcp (.cons (Sub.refl _) .nil) ?_; rintro _ rfl) | (refine MkK.mk n hw (by show 1 * n ≤ 140737488355328; omega) (by unfold maxLen; omega) ?_) | (refine IdxK.at (k := 0) rfl hp0 rfl ?_) | (refine IdxK.at (k := n-1) (by omega) hp1 rfl ?_) | (refine IdxL.mk (part.getD 0 0).toNat (by omega) (by omega) ?_) | (refine IdxL.mk (part.getD (n-1) 0).toNat (by omega) (by omega) ?_) | (refine StOwn.mk (part.getD 0 0).toNat 0 .ff .tt (show (0+(part.getD 0 0).toNat)*1 = (part.getD 0 0).toNat*1+0 by omega) e0 (Nat.le_refl 1) rfl ?_) | (refine CallK.pure (way_Way_Pairs w f hj hc (by omega) w.real hlen) (.cons (Sub.refl _) (.cons (Sub.refl _) .nil)) ?_; rintro _ rfl) | (refine StOwn.mk (part.getD (n-1) 0).toNat 0 _ .tt (show (0+(part.getD (n-1) 0).toNat)*1 = (part.getD (n-1) 0).toNat*1+0 by omega) e1 (Nat.le_refl 1) (by cases ((List.replicate n false).set (part.getD 0 0).toNat true).getD (part.getD (n-1) 0).toNat false <;> rfl) ?_)); conv => whnf)
  have hprl : (prsW w f).length ≤ 1000000 := by unfold prsW; rw [List.length_map]; exact hlen
  have hpl2 : (avP (prsW w f)).length = (prsW w f).length := by simp [avP]
  refine LoopK.inv tabOK (fun x : Nat × List Bool => ⟨[(0, .p (.ip w.cells)), (3, .p (eInts part)), (4, .hd 0 0 n), (43, .p (.sl (avP (prsW w f)))), (44, .p (.int .i64 (avP (prsW w f)).length)), (45, .p (.int .i64 x.1))], [(0, .own 4 1 (x.2.map bv))]⟩)
    (fun x => x.1 ≤ (prsW w f).length ∧ x.2 = ((prsW w f).take x.1).foldl (openS part) (open0 n part)) (fun x => (prsW w f).length - x.1) (0, open0 n part)
    (Le.mk [] (by simp) (by simp) (by simp) (.cons (.refl _) (.cons (.refl _) (.cons (.refl _) (.cons (.refl _) (.cons (.refl _) (.cons (.refl _) .nil)))))) (.cons rfl (.of_eq (by unfold open0; rw [List.map_set, List.map_set, List.map_replicate]; rfl)) .nil))
    ⟨Nat.zero_le _, rfl⟩ ?_
  rintro ⟨m, o⟩ ⟨h1, h2⟩
  simp only at h1 h2 ⊢
  have hol : o.length = n := by rw [h2]; exact openB_len n part _
  rcases Nat.lt_or_ge m (prsW w f).length with hm | hm
  · obtain ⟨⟨h3, h4⟩, h5, h6⟩ := hr _ (List.getElem_mem hm)
    have h7 := hpin (prsW w f)[m].1.toNat (by omega)
    have h8 := hpin (prsW w f)[m].2.toNat (by omega)
    have e2 := intAt (l := part) (i := (prsW w f)[m].1.toNat) (by omega)
    have e3 := intAt (l := part) (i := (prsW w f)[m].2.toNat) (by omega)
    have e4 := bvAt (l := o) (i := (part.getD (prsW w f)[m].1.toNat 0).toNat) (by omega)
    have hme : (avP (prsW w f))[m]? = some (.agg [.int .i64 (prsW w f)[m].1, .int .i64 (prsW w f)[m].2]) := by simp [avP, hm]
    have e5 : ((prsW w f).take (m + 1)).foldl (openS part) (open0 n part) = openS part o (prsW w f)[m] := by rw [List.take_succ_eq_append_getElem hm, List.foldl_append, ← h2]; rfl
    conv => whnf
    repeat' (first | ((first | (refine DrawK.auto tabOK mixed (by kernel_rfl) ?_) | (refine And.intro rfl ?_) | (refine Wr.i64 (by omega) (by omega) ?_) | (refine IdxK.at (k := m) rfl hme rfl ?_) | (refine IdxL.mk 0 rfl (by decide) ?_) | (refine IdxL.mk 1 rfl (by decide) ?_) | (refine IdxK.at (k := (prsW w f)[m].1.toNat) (by omega) e2 rfl ?_) | (refine IdxK.at (k := (prsW w f)[m].2.toNat) (by omega) e3 rfl ?_) | (refine IdxL.mk (part.getD (prsW w f)[m].1.toNat 0).toNat (by omega) (by omega) ?_) | (refine StOwn.mk (part.getD (prsW w f)[m].1.toNat 0).toNat 0 _ .tt (by omega) e4 (Nat.le_refl 1) (by cases o.getD (part.getD (prsW w f)[m].1.toNat 0).toNat false <;> rfl) ?_)); conv => whnf) | (refine Br.dec (fun _ => ?_) (fun _ => ?_) <;> first | (exfalso; omega) | conv => whnf) | (refine Br.dec2 (fun _ => ?_) (fun _ => ?_) <;> first | (exfalso; omega) | conv => whnf))
    all_goals first
      | (have hq : part.getD (prsW w f)[m].1.toNat 0 = part.getD (prsW w f)[m].2.toNat 0 := by assumption
         exact ⟨(m + 1, o), ⟨by simp only; omega, by simp only; rw [e5]; unfold openS; rw [if_pos hq]⟩, by simp only; omega, Le.of_eq rfl⟩)
      | (have hq : ¬ part.getD (prsW w f)[m].1.toNat 0 = part.getD (prsW w f)[m].2.toNat 0 := by assumption
         exact ⟨(m + 1, o.set (part.getD (prsW w f)[m].1.toNat 0).toNat true), ⟨by simp only; omega, by simp only; rw [e5]; unfold openS; rw [if_neg hq]⟩, by simp only; omega, Le.of_eq (by simp only [List.map_set]; rfl)⟩)
  · rw [List.take_of_length_le hm] at h2
    have hop : openB n part (prsW w f) = o := h2.symm
    rw [hop]
    clear hop h2 e0 e1 hp0 hp1 hcp
    conv => whnf
    repeat' (first | (intro (_ : _ ≤ 9223372036854775807); conv => whnf) | (refine Br.dec (fun _ => ?_) (fun _ => ?_) <;> first | (exfalso; omega) | conv => whnf))
    refine LoopK.inv tabOK (fun q : Nat => ⟨[(0, .p (.ip w.cells)), (3, .p (eInts part)), (4, .hd 0 0 n), (7, .hd 1 0 (trapL (placeI w.p w.j w.n) part o q).length), (69, .p (.int .i64 (part.map (AV.int .i64)).length)), (70, .p (.int .i64 q))], [(0, .own 4 1 (o.map bv)), (1, .own 48 1 ((avI (trapL (placeI w.p w.j w.n) part o q)).map AV.sl))]⟩)
      (fun q => q ≤ n) (fun q => n - q) 0
      (Le.mk [(1, .own 48 1 [])] (by simp [Chunk.new0]; rfl) (by simp) (by simp) (.cons (.refl _) (.cons (.refl _) (.cons (.refl _) (.cons (.nil List.mem_cons_self) (.cons (.refl _) (.cons (.refl _) .nil)))))) (.cons rfl (.refl _) (.new List.mem_cons_self .nil)))
      (Nat.zero_le _) ?_
    intro q hqn
    have hLl := trapL_len (placeI w.p w.j w.n) part o q
    rcases Nat.lt_or_ge q n with hq | hq
    · have e2 := intAt (l := part) (i := q) (by omega)
      have e3 := bvAt (l := o) (i := q) (by omega)
      have hsucc := trapL_succ (placeI w.p w.j w.n) part o q
      generalize trapL (placeI w.p w.j w.n) part o q = acc at hLl hsucc ⊢
      have hpe : part[q] = part.getD q 0 := by rw [List.getD_eq_getElem?_getD, List.getElem?_eq_getElem]; rfl
      cases hb : o.getD q false with
      | true =>
        rw [hb] at e3
        have ht : ¬ trapT part o q = true := by unfold trapT; rw [hb]; simp
        rw [if_neg ht] at hsucc
        conv => whnf
        repeat' (first | ((first | (refine And.intro rfl ?_) | (refine IdxK.map (by omega) (fun _ => rfl) ?_) | (refine Wr.i64 (by omega) (by omega) ?_) | (refine IdxL.mk q rfl (by omega) ?_) | (refine LdOwn.mk q 0 .tt (by omega) e3 ?_)); conv => whnf) | (refine Br.dec (fun _ => ?_) (fun _ => ?_) <;> first | (exfalso; omega) | conv => whnf) | (refine Br.dec2 (fun _ => ?_) (fun _ => ?_) <;> first | (exfalso; omega) | conv => whnf))
        all_goals exact ⟨q + 1, hq, by omega, Le.of_eq (by rw [hsucc]; rfl)⟩
      | false =>
        rw [hb] at e3
        conv => whnf
        repeat' (first | ((first | (intro (_ : _ ≤ 9223372036854775807)) | (refine And.intro rfl ?_) | (refine IdxK.map (by omega) (fun _ => rfl) ?_) | (refine Wr.i64 (by omega) (by omega) ?_) | (refine IdxL.mk q rfl (by omega) ?_) | (refine LdOwn.mk q 0 .ff (by omega) e3 ?_)); conv => whnf) | (refine Br.dec (fun _ => ?_) (fun _ => ?_) <;> first | (exfalso; omega) | conv => whnf) | (refine Br.dec2 (fun _ => ?_) (fun _ => ?_) <;> first | (exfalso; omega) | conv => whnf))
        all_goals try
          have hne : ¬ part.getD q 0 = (q : Int) := by omega
          have ht : ¬ trapT part o q = true := fun h => by
            unfold trapT at h
            rw [Bool.and_eq_true, beq_iff_eq] at h
            exact hne h.1
          rw [if_neg ht] at hsucc
          exact ⟨q + 1, hq, by omega, Le.of_eq (by rw [hsucc]; rfl)⟩
        have hpq : part.getD q 0 = (q : Int) := by omega
        have ht : trapT part o q = true := by unfold trapT; rw [hb, hpq]; simp
        rw [if_pos ht, hpl] at hsucc
        refine LoopK.inv tabOK (fun z : Nat => ⟨[(0, .p (.ip w.cells)), (3, .p (eInts part)), (4, .hd 0 0 n), (7, .hd 1 0 acc.length), (8, .p (.int .i64 q)), (9, .hd 2 0 (trapR (placeI w.p w.j w.n) part q z).length), (69, .p (.int .i64 (part.map (AV.int .i64)).length)), (70, .p (.int .i64 q)), (86, .p (.int .i64 (part.map (AV.int .i64)).length)), (87, .p (.int .i64 z))], [(0, .own 4 1 (o.map bv)), (1, .own 48 1 ((avI acc).map AV.sl)), (2, .own 3 1 ((trapR (placeI w.p w.j w.n) part q z).map (.int .i64)))]⟩)
          (fun z => z ≤ n) (fun z => n - z) 0
          (Le.mk [(2, .own 3 1 [])] (by simp [Chunk.new0]; rfl) (by simp) (by simp) (.cons (.refl _) (.cons (.refl _) (.cons (.refl _) (.cons (.refl _) (.cons (.refl _) (.cons (.nil List.mem_cons_self) (.cons (.refl _) (.cons (.refl _) (.cons (.refl _) (.cons (.refl _) .nil)))))))))) (.cons rfl (.refl _) (.cons rfl (.refl _) (.new List.mem_cons_self .nil))))
          (Nat.zero_le _) ?_
        intro z hzn
        have hRl := trapR_len (placeI w.p w.j w.n) part q z
        rcases Nat.lt_or_ge z n with hz | hz
        · have e4 := intAt (l := part) (i := z) (by omega)
          have hs2 := trapR_succ (placeI w.p w.j w.n) part q z
          generalize trapR (placeI w.p w.j w.n) part q z = l at hRl hs2 ⊢
          conv => whnf
          repeat' (first | ((first | (refine And.intro rfl ?_) | (refine And.intro ⟨by decide, by decide⟩ ?_) | (refine BsK.pure (fun x hx => by rcases List.mem_singleton.1 hx with rfl; rfl) rfl ?_) | (refine IdxK.map (by omega) (fun _ => rfl) ?_) | (refine Wr.i64 (by omega) (by omega) ?_) | (refine CallK.pure (way_Way_Place w f hj hc (by omega) z (by omega)) (.cons (Sub.refl _) (.cons (Sub.refl _) .nil)) ?_; rintro _ rfl) | (refine AppK.int1 (by simp) (by simp; omega) ?_)); conv => whnf) | (refine Br.dec (fun _ => ?_) (fun _ => ?_) <;> first | (exfalso; omega) | conv => whnf))
          have hpz : part[z] = part.getD z 0 := by rw [List.getD_eq_getElem?_getD, List.getElem?_eq_getElem]; rfl
          · rw [if_pos (by omega)] at hs2
            exact ⟨z + 1, hz, by omega, Le.of_eq (by rw [hs2, List.length_append, List.map_append]; rfl)⟩
          · have hpz : part[z] = part.getD z 0 := by rw [List.getD_eq_getElem?_getD, List.getElem?_eq_getElem]; rfl
            rw [if_neg (by omega)] at hs2
            exact ⟨z + 1, hz, by omega, Le.of_eq (by rw [hs2]; rfl)⟩
        · have hze : z = n := by omega
          subst hze
          conv => whnf
          repeat' (refine Br.dec (fun _ => ?_) (fun _ => ?_) <;> first | (exfalso; omega) | conv => whnf)
          have hfl : (trapR (placeI w.p w.j w.n) part q z).length = ((trapR (placeI w.p w.j w.n) part q z).map (AV.int .i64)).length := by simp
          refine OpK.frz tabOK [[9, 104]] ?_
          conv => whnf
          refine LenK.mk hfl ?_
          conv => whnf
          refine LenK.mk hfl ?_
          conv => whnf
          repeat' ((first | (refine And.intro rfl ?_) | (refine And.intro ⟨by decide, by decide⟩ ?_) | (refine BsK.pure (fun x hx => by rcases List.mem_singleton.1 hx with rfl; rfl) rfl ?_) | (refine Wr.i64 (by omega) (by omega) ?_) | (refine AppK.mk (by simp [avI]) rfl (by show (acc.length+1) * 24 ≤ 140737488355328; omega) (by show acc.length+1 ≤ 9223372036854775807; omega) (fun x hx => by rcases List.mem_singleton.1 hx with rfl; exact ⟨rfl, rfl⟩) ?_)); conv => whnf)
          exact ⟨q + 1, hq, by omega, Le.of_eq (by rw [hsucc]; simp only [avI, List.length_append, List.map_append]; rfl)⟩
    · have hqe : q = n := by omega
      subst hqe
      conv => whnf
      repeat' (refine Br.dec (fun _ => ?_) (fun _ => ?_) <;> first | (exfalso; omega) | conv => whnf)
      exact ⟨_, .hd rfl (by simp [avI]), rfl⟩
end Go.Ab
namespace Go.Ab
open Go.Proofs
/-- The step out of a trap, if the statement jumps by goto. -/
def vOf (p : Pg) (id : Int) : List Step := match stAt p id with
  | some s => if s.kind = 10 then [⟨id, -1, 3⟩] else []
  | none => []
def virtW (w : Way) (f : Pr) : List Step := (trapsW w f).flatMap fun l => l.flatMap (vOf w.p)
theorem vOf_len (p : Pg) (id : Int) : (vOf p id).length ≤ 1 := by
  unfold vOf
  split
  · split <;> simp
  · simp
theorem flatMap_take_len {α β : Type} {g : α → List β} {c : Nat} : ∀ (l : List α), (∀ x ∈ l, (g x).length ≤ c) → (l.flatMap g).length ≤ l.length * c
  | [], _ => by simp
  | a :: r, h => by
    have h1 := h a List.mem_cons_self
    have h2 := flatMap_take_len r fun x hx => h x (List.mem_cons_of_mem _ hx)
    rw [List.flatMap_cons, List.length_append, List.length_cons, Nat.add_mul]
    omega
set_option maxHeartbeats 4000000 in
set_option maxRecDepth 100000 in
theorem way_virtual (w : Way) (f : Pr) (n : Nat) (hw : w.n = n) (hj : w.p.procs[w.j]? = some f) (hc : cntP w.p.procs ≤ 1000) (hn : n ≤ 5000) (hn2 : 2 ≤ n) (hlen : w.real.length ≤ 1000000) (hr : ∀ t ∈ prsW w f, (0 ≤ t.1 ∧ t.1 < n) ∧ 0 ≤ t.2 ∧ t.2 < n)
    (htl : (trapsW w f).length ≤ 5000) (hti : ∀ l ∈ trapsW w f, l.length ≤ 5000 ∧ ∀ id ∈ l, 1 ≤ id ∧ id ≤ (sheetOf w.p).l.length) :
    SpecH Tryz.prog 141 [.p (.ip w.cells)] [] (fun r H => r = .hd 0 0 (virtW w f).length ∧ H = [(0, .own 45 3 (avS (virtW w f)))]) := by
  refine SpecH.body I_way_Way_virtual tabOK Tryz.func141 rfl Tryz.call141 (by show 1 ≤ _; decide) ?_
  conv => whnf
  repeat' ((first | (intro (_ : _ ≤ 9223372036854775807)) | (refine CallK.pure (way_Way_Traps w f n hw hj hc hn hn2 hlen hr) (.cons (Sub.refl _) .nil) ?_; rintro _ rfl)); conv => whnf)
  unfold virtW
  generalize trapsW w f = ts at htl hti ⊢
  have hml : ((avI ts).map AV.sl).length = ts.length := by simp [avI]
  refine LoopK.inv tabOK (fun x : Nat × List Step => ⟨[(0, .p (.ip w.cells)), (3, .hd 0 0 x.2.length), (9, .p (eMat ts)), (10, .p (.int .i64 ((avI ts).map AV.sl).length)), (11, .p (.int .i64 x.1))], [(0, .own 45 3 (avS x.2))]⟩)
    (fun x => x.1 ≤ ts.length ∧ x.2.length ≤ x.1 * 5000 ∧ x.2 ++ (ts.drop x.1).flatMap (fun l => l.flatMap (vOf w.p)) = ts.flatMap fun l => l.flatMap (vOf w.p)) (fun x => ts.length - x.1) (0, [])
    (Le.mk [(0, .own 45 3 [])] (by simp [Chunk.new0]; rfl) (by simp) (by simp) (.cons (.refl _) (.cons (.nil List.mem_cons_self) (.cons (.refl _) (.cons (.refl _) (.cons (.refl _) .nil))))) (.new List.mem_cons_self .nil))
    ⟨Nat.zero_le _, by simp, rfl⟩ ?_
  rintro ⟨m, acc⟩ ⟨h1, h2, h3⟩
  simp only at h1 h2 h3 ⊢
  rcases Nat.lt_or_ge m ts.length with hm | hm
  rotate_left 1
  · rw [List.drop_eq_nil_of_le hm, List.flatMap_nil, List.append_nil] at h3
    conv => whnf
    repeat' (refine Br.dec (fun _ => ?_) (fun _ => ?_) <;> first | (exfalso; omega) | conv => whnf)
    exact ⟨_, LSub.refl _, by rw [h3], by rw [h3]⟩
  obtain ⟨hl1, hl2⟩ := hti _ (List.getElem_mem hm)
  have hrow : ((avI ts).map AV.sl)[m]? = some (.sl (ts[m].map (.int .i64))) := by simp [avI, hm]
  rw [flatMap_step hm] at h3
  conv => whnf
  repeat' (first | ((first | (intro (_ : _ ≤ 9223372036854775807)) | (refine IdxK.map (by omega) (fun _ => rfl) ?_)); conv => whnf) | (refine Br.dec (fun _ => ?_) (fun _ => ?_) <;> first | (exfalso; omega) | conv => whnf))
  have hav : (avI ts)[m]'(by simp [avI]; exact hm) = ts[m].map (.int .i64) := by simp [avI]
  rw [hav]
  generalize ts[m] = l at hl1 hl2 h3 ⊢
  have hll : (l.map (AV.int .i64)).length = l.length := List.length_map _
  generalize htot : (ts.flatMap fun l => l.flatMap (vOf w.p)) = tot at h3 ⊢
  refine LoopK.inv tabOK (fun x : Nat × List Step => ⟨[(0, .p (.ip w.cells)), (3, .hd 0 0 x.2.length), (9, .p (eMat ts)), (10, .p (.int .i64 ((avI ts).map AV.sl).length)), (11, .p (.int .i64 m)), (15, .p (eInts l)), (16, .p (.int .i64 (l.map (AV.int .i64)).length)), (17, .p (.int .i64 x.1))], [(0, .own 45 3 (avS x.2))]⟩)
    (fun x => x.1 ≤ l.length ∧ x.2.length ≤ m * 5000 + x.1 ∧ x.2 ++ ((l.drop x.1).flatMap (vOf w.p) ++ (ts.drop (m + 1)).flatMap (fun l => l.flatMap (vOf w.p))) = tot) (fun x => l.length - x.1) (0, acc) (Le.of_eq rfl) ⟨Nat.zero_le _, by simp only; omega, h3⟩ ?_
  rintro ⟨k, acc2⟩ ⟨h4, h5, h6⟩
  simp only at h4 h5 h6 ⊢
  rcases Nat.lt_or_ge k l.length with hk | hk
  rotate_left 1
  · rw [List.drop_eq_nil_of_le hk] at h6
    conv => whnf
    repeat' (first | (refine Wr.i64 (by omega) (by omega) ?_; conv => whnf) | (refine Br.dec (fun _ => ?_) (fun _ => ?_) <;> first | (exfalso; omega) | conv => whnf))
    exact ⟨(m + 1, acc2), ⟨hm, by simp only; omega, by simpa using h6⟩, by simp only; omega, Le.of_eq rfl⟩
  obtain ⟨h7, h8⟩ := hl2 _ (List.getElem_mem hk)
  obtain ⟨_, _, _, hsl, _⟩ := sheet_spec w.p
  have hlt : (l[k] - 1).toNat < (sheetOf w.p).l.length := by omega
  have hu : ∃ u : Item, ((sheetOf w.p).l.map fun i => AV.agg i.cells)[(l[k] - 1).toNat]? = some (.agg u.cells) ∧ stAt w.p l[k] = some u.s := ⟨_, by rw [List.getElem?_map, List.getElem?_eq_getElem hlt]; rfl, by unfold stAt; rw [List.getElem?_eq_getElem hlt]; rfl⟩
  obtain ⟨u, hu1, hu2⟩ := hu
  rw [flatMap_step hk] at h6
  have hv : vOf w.p l[k] = if u.s.kind = 10 then [⟨l[k], -1, 3⟩] else [] := by unfold vOf; rw [hu2]
  rw [hv] at h6
  conv => whnf
  repeat' (first | ((first | (refine And.intro rfl ?_) | (refine And.intro ⟨by decide, by decide⟩ ?_) | (refine BsK.pure (fun x hx => by rcases List.mem_singleton.1 hx with rfl; rfl) rfl ?_) | (refine IdxK.map (by omega) (fun _ => rfl) ?_) | (refine Wr.i64 (by omega) (by omega) ?_) | (refine IdxK.at (by omega) hu1 rfl ?_) | (refine AppK.mk (by simp [avS]) rfl (by show (acc2.length+1) * 24 ≤ 140737488355328; omega) (by show acc2.length+1 ≤ 9223372036854775807; omega) (fun x hx => by rcases List.mem_singleton.1 hx with rfl; exact ⟨rfl, rfl⟩) ?_)); conv => whnf) | (refine Br.dec (fun _ => ?_) (fun _ => ?_) <;> first | (exfalso; omega) | conv => whnf))
  · rw [if_pos (by assumption)] at h6
    exact ⟨(k + 1, acc2 ++ [⟨l[k], -1, 3⟩]), ⟨hk, by simp; omega, by simpa using h6⟩, by simp only; omega, Le.of_eq (by simp only [avS, List.length_append, List.map_append]; rfl)⟩
  · rw [if_neg (by assumption)] at h6
    exact ⟨(k + 1, acc2), ⟨hk, by simp only; omega, by simpa using h6⟩, by simp only; omega, Le.of_eq rfl⟩
end Go.Ab
namespace Go.Ab
open Go.Proofs
/-- The step of a jump, were it none. -/
def fOf (it : Item) : List Step := if it.s.kind = 7 ∨ it.s.kind = 8 ∨ it.s.kind = 9 ∨ it.s.kind = 10 then [⟨it.s.id, it.next, 2⟩] else []
/-- What is asked of a way, so that its traps' steps can be told. -/
structure WayT (w : Way) (f : Pr) (n : Nat) : Prop where
  hw : w.n = n
  hj : w.p.procs[w.j]? = some f
  hc : cntP w.p.procs ≤ 1000
  hn : n ≤ 5000
  hn2 : 2 ≤ n
  hlen : w.real.length ≤ 1000000
  hr : ∀ t ∈ prsW w f, (0 ≤ t.1 ∧ t.1 < n) ∧ 0 ≤ t.2 ∧ t.2 < n
  htl : (trapsW w f).length ≤ 5000
  hti : ∀ l ∈ trapsW w f, l.length ≤ 5000 ∧ ∀ id ∈ l, 1 ≤ id ∧ id ≤ (sheetOf w.p).l.length
  hok : ∀ s ∈ w.real, okSt s
  hfk : ∀ it ∈ itsOf w.p w.j f, ∀ s ∈ fOf it, okSt s
theorem vOf_mem {p : Pg} {id : Int} {s : Step} (h : s ∈ vOf p id) : s = ⟨id, -1, 3⟩ := by
  unfold vOf at h
  split at h
  · split at h
    · simpa using h
    · simp at h
  · simp at h
theorem WayT.virt_ok {w : Way} {f : Pr} {n : Nat} (h : WayT w f n) : ∀ s ∈ virtW w f, okSt s := fun s hs => by
  unfold virtW at hs
  obtain ⟨l, hl, hs⟩ := List.mem_flatMap.1 hs
  obtain ⟨id, hid, hs⟩ := List.mem_flatMap.1 hs
  obtain ⟨_, _, _, hsl, _⟩ := sheet_spec w.p
  have h1 := (h.hti l hl).2 id hid
  have h2 := h.hc
  rw [vOf_mem hs]
  exact ⟨by show id ≠ _; omega, by show (-1 : Int) ≠ _; decide⟩
theorem WayT.virt_len {w : Way} {f : Pr} {n : Nat} (h : WayT w f n) : (virtW w f).length ≤ 25000000 := by
  have h1 := flatMap_take_len (g := fun l => l.flatMap (vOf w.p)) (c := 5000) (trapsW w f) fun l hl => by
    have h2 := flatMap_take_len (g := vOf w.p) (c := 1) l fun id _ => vOf_len w.p id
    have h3 := (h.hti l hl).1
    omega
  have h2 := h.htl
  unfold virtW
  omega
def dataW (w : Way) (f : Pr) : List Step := normS (virtW w f ++ w.real)
def augRaw (w : Way) (f : Pr) : List Step := virtW w f ++ w.real ++ [⟨0, -1, 2⟩] ++ (itsOf w.p w.j f).flatMap fOf
def augW (w : Way) (f : Pr) : List Step := normS (augRaw w f)
theorem fOf_len (it : Item) : (fOf it).length ≤ 1 := by
  unfold fOf
  split <;> simp
set_option maxHeartbeats 4000000 in
set_option maxRecDepth 100000 in
theorem way_Way_Data (w : Way) (f : Pr) (n : Nat) (h : WayT w f n) : SpecP Tryz.prog 97 [.ip w.cells] (fun r => r = eSteps (dataW w f)) := by
  refine SpecP.body I_way_Way_Data tabOK Tryz.func97 rfl Tryz.call97 (by show 1 ≤ _; decide) ?_
  conv => whnf
  have hlen := h.hlen
  have hvl := h.virt_len
  have hvok := h.virt_ok
  repeat' (first | ((first | (refine DrawK.auto tabOK mixed (by kernel_rfl) ?_) | (refine And.intro ⟨by decide, by decide⟩ ?_)); conv => whnf) | (refine CallK.heap [] 0 (ArgsH.cons (LSub.refl _) ArgsH.nil) BlksH.nil (way_virtual w f n h.hw h.hj h.hc h.hn h.hn2 h.hlen h.hr h.htl h.hti) rfl rfl ?_; rintro l' H' ⟨rfl, rfl⟩; conv => whnf))
  have hml : (w.real.map fun s => AV.agg s.cells).length = w.real.length := List.length_map _
  have hvm : (avS (virtW w f)).length = (virtW w f).length := by simp [avS]
  refine AppK.mk hvm.symm rfl (by rw [hml]; show ((virtW w f).length + w.real.length) * 24 ≤ 140737488355328; omega) (by rw [hml]; show (virtW w f).length + w.real.length ≤ 9223372036854775807; omega) (fun x hx => by obtain ⟨s, _, rfl⟩ := List.mem_map.1 hx; exact ⟨rfl, rfl⟩) ?_
  conv => whnf
  have happ : avS (virtW w f) ++ (w.real.map fun s => AV.agg s.cells) = avS (virtW w f ++ w.real) := by simp [avS]
  have hlp : (virtW w f).length + (w.real.map fun s => AV.agg s.cells).length = (virtW w f ++ w.real).length := by simp
  rw [happ, hlp]
  repeat' (refine CallK.heap [(1000, 0)] 0 (by repeat' (first | exact ArgsH.nil | refine ArgsH.cons ?_ ?_ | exact LSub.refl _ | exact LSub.p Sub.nils | exact LSub.p (Sub.tt rfl) | exact LSub.p (Sub.ff rfl) | exact LSub.p (Sub.int (by omega)))) (by refine BlksH.cons (j := 0) rfl rfl ?_ ?_; exact CSub.refl _; exact BlksH.nil) (flat_Sort (virtW w f ++ w.real) (fun s hs => (List.mem_append.1 hs).elim (hvok s) (h.hok s)) (by rw [List.length_append]; omega)) rfl rfl ?_; rintro l' H' ⟨rfl, rfl⟩; conv => whnf)
  exact ⟨_, .hd rfl (by simp [avS]), rfl⟩
set_option maxRecDepth 100000 in
theorem way_Way_Aug (w : Way) (f : Pr) (n : Nat) (h : WayT w f n) : SpecP Tryz.prog 96 [.ip w.cells] (fun r => r = eSteps (augW w f)) := by
  refine SpecP.body I_way_Way_Aug tabOK Tryz.func96 rfl Tryz.call96 (by show 1 ≤ _; decide) ?_
  conv => whnf
  have hlen := h.hlen
  have hvl := h.virt_len
  have hvok := h.virt_ok
  have hcc := h.hc
  have hits : itL w.j 0 (-1) 0 (offN w.p.procs w.j) f.body = itsOf w.p w.j f := rfl
  repeat' (first | ((first | (refine DrawK.auto tabOK mixed (by kernel_rfl) ?_) | (refine And.intro ⟨by decide, by decide⟩ ?_)); conv => whnf) | (refine CallK.heap [] 0 (ArgsH.cons (LSub.refl _) ArgsH.nil) BlksH.nil (way_virtual w f n h.hw h.hj h.hc h.hn h.hn2 h.hlen h.hr h.htl h.hti) rfl rfl ?_; rintro l' H' ⟨rfl, rfl⟩; conv => whnf))
  have hml : (w.real.map fun s => AV.agg s.cells).length = w.real.length := List.length_map _
  have hvm : (avS (virtW w f)).length = (virtW w f).length := by simp [avS]
  refine AppK.mk hvm.symm rfl (by rw [hml]; show ((virtW w f).length + w.real.length) * 24 ≤ 140737488355328; omega) (by rw [hml]; show (virtW w f).length + w.real.length ≤ 9223372036854775807; omega) (fun x hx => by obtain ⟨s, _, rfl⟩ := List.mem_map.1 hx; exact ⟨rfl, rfl⟩) ?_
  conv => whnf
  have happ : avS (virtW w f) ++ (w.real.map fun s => AV.agg s.cells) = avS (virtW w f ++ w.real) := by simp [avS]
  have hlp : (virtW w f).length + (w.real.map fun s => AV.agg s.cells).length = (virtW w f ++ w.real).length := by simp
  rw [happ, hlp]
  have hbl : (virtW w f ++ w.real).length ≤ 26000000 := by rw [List.length_append]; omega
  have hbok : ∀ s ∈ virtW w f ++ w.real ++ [⟨0, -1, 2⟩], okSt s := fun s hs => by
    rcases List.mem_append.1 hs with hs | hs
    · exact (List.mem_append.1 hs).elim (hvok s) (h.hok s)
    · rw [List.mem_singleton.1 hs]
      exact ⟨by decide, by decide⟩
  have hraw : augRaw w f = virtW w f ++ w.real ++ [⟨0, -1, 2⟩] ++ (itsOf w.p w.j f).flatMap fOf := rfl
  unfold augW
  rw [hraw]
  clear hraw happ hlp hml hvm hvok hvl hlen
  generalize virtW w f ++ w.real = base at hbl hbok ⊢
  repeat' ((first | (intro (_ : _ ≤ 9223372036854775807)) | (refine DrawK.auto tabOK mixed (by kernel_rfl) ?_) | (refine And.intro rfl ?_) | (refine And.intro ⟨by decide, by decide⟩ ?_) | (refine BsK.pure (fun x hx => by rcases List.mem_singleton.1 hx with rfl; rfl) rfl ?_) | (refine CallK.pure (Of_at w.p h.hj hcc) (.cons (Sub.refl _) (.cons (Sub.refl _) .nil)) ?_; rintro _ rfl) | (refine AppK.mk (by simp [avS]) rfl (by show (base.length+1) * 24 ≤ 140737488355328; omega) (by show base.length+1 ≤ 9223372036854775807; omega) (fun x hx => by rcases List.mem_singleton.1 hx with rfl; exact ⟨rfl, rfl⟩) ?_)); conv => whnf)
  rw [hits]
  have hib : (itsOf w.p w.j f).length ≤ 1000 := by
    obtain ⟨_, _, _, hsl, hsp⟩ := sheet_spec w.p
    obtain ⟨_, _, hle, _⟩ := hsp w.j f h.hj
    rw [← hits, itL_len]
    omega
  have hfok := h.hfk
  generalize itsOf w.p w.j f = its at hib hfok ⊢
  have hil := eItems_len its
  refine LoopK.inv tabOK (fun x : Nat × List Step => ⟨[(3, .hd 0 0 x.2.length), (25, .p (eItems its)), (26, .p (.int .i64 (its.map fun i => AV.agg i.cells).length)), (27, .p (.int .i64 x.1))], [(0, .own 45 3 (avS x.2))]⟩)
    (fun x => x.1 ≤ its.length ∧ x.2.length ≤ base.length + 1 + x.1 ∧ x.2 ++ (its.drop x.1).flatMap fOf = base ++ [⟨0, -1, 2⟩] ++ its.flatMap fOf) (fun x => its.length - x.1) (0, base ++ [⟨0, -1, 2⟩])
    (Le.of_eq (by simp only [avS, List.length_append, List.map_append]; rfl)) ⟨Nat.zero_le _, by simp, rfl⟩ ?_
  rintro ⟨m, acc⟩ ⟨h1, h2, h3⟩
  simp only at h1 h2 h3 ⊢
  rcases Nat.lt_or_ge m its.length with hm | hm
  rotate_left 1
  · rw [List.drop_eq_nil_of_le hm, List.flatMap_nil, List.append_nil] at h3
    have hok : ∀ s ∈ acc, okSt s := fun s hs => by
      rw [h3] at hs
      rcases List.mem_append.1 hs with hs | hs
      · exact hbok s hs
      · obtain ⟨it, hi, hs⟩ := List.mem_flatMap.1 hs
        exact hfok it hi s hs
    rw [← h3]
    conv => whnf
    repeat' (first | (refine Br.dec (fun _ => ?_) (fun _ => ?_) <;> first | (exfalso; omega) | conv => whnf) | (refine CallK.heap [(1000, 0)] 0 (by repeat' (first | exact ArgsH.nil | refine ArgsH.cons ?_ ?_ | exact LSub.refl _ | exact LSub.p Sub.nils | exact LSub.p (Sub.tt rfl) | exact LSub.p (Sub.ff rfl) | exact LSub.p (Sub.int (by omega)))) (by refine BlksH.cons (j := 0) rfl rfl ?_ ?_; exact CSub.refl _; exact BlksH.nil) (flat_Sort acc hok (by omega)) rfl rfl ?_; rintro l' H' ⟨rfl, rfl⟩; conv => whnf))
    exact ⟨_, .hd rfl (by simp [avS]), rfl⟩
  rw [flatMap_step hm] at h3
  have hf : fOf its[m] = if its[m].s.kind = 7 ∨ its[m].s.kind = 8 ∨ its[m].s.kind = 9 ∨ its[m].s.kind = 10 then [⟨its[m].s.id, its[m].next, 2⟩] else [] := rfl
  conv => whnf
  repeat' (first | ((first | (refine And.intro rfl ?_) | (refine And.intro ⟨by decide, by decide⟩ ?_) | (refine BsK.pure (fun x hx => by rcases List.mem_singleton.1 hx with rfl; rfl) rfl ?_) | (refine IdxK.map (by omega) (fun _ => rfl) ?_) | (refine Wr.i64 (by omega) (by omega) ?_) | (refine AppK.mk (by simp [avS]) rfl (by show (acc.length+1) * 24 ≤ 140737488355328; omega) (by show acc.length+1 ≤ 9223372036854775807; omega) (fun x hx => by rcases List.mem_singleton.1 hx with rfl; exact ⟨rfl, rfl⟩) ?_)); conv => whnf) | (refine Br.dec (fun _ => ?_) (fun _ => ?_) <;> first | (exfalso; omega) | conv => whnf))
  all_goals first
    | (rw [if_pos (by omega)] at hf
       rw [hf] at h3
       exact ⟨(m + 1, acc ++ [⟨its[m].s.id, its[m].next, 2⟩]), ⟨hm, by simp; omega, by simpa using h3⟩, by simp only; omega, Le.of_eq (by simp only [avS, List.length_append, List.map_append]; rfl)⟩)
    | (rw [if_neg (by omega)] at hf
       rw [hf] at h3
       exact ⟨(m + 1, acc), ⟨hm, by simp only; omega, by simpa using h3⟩, by simp only; omega, Le.of_eq rfl⟩)
end Go.Ab
namespace Go.Ab
open Go.Proofs
end Go.Ab
namespace Go.Ab
open Go.Proofs
def Pr0 : Pr := ⟨[], [], [], [], []⟩
def procR (p : Pg) (n : Str) : Pr × Bool := match p.procs.find? (fun f => f.name == n) with
  | some f => (f, true)
  | none => (Pr0, false)
end Go.Ab
namespace Go.Ab
open Go.Proofs
def satI (x : Int) : Int := if x > 20000 then 20001 else x
theorem satI_sat {a b : Int} (hb : 0 ≤ b) : satI (satI a + b) = satI (a + b) := by
  unfold satI
  split <;> split <;> (try split) <;> omega
theorem satI_rng {a : Int} (h : 0 ≤ a) : 0 ≤ satI a ∧ satI a ≤ 20001 := by
  unfold satI
  split <;> omega
theorem satI_id {a : Int} (h : a ≤ 20001) : satI a = a := by
  unfold satI
  split <;> omega
theorem satI_full {a b : Int} (h : a > 20000) (h1 : a ≤ 20001) (hb : 0 ≤ b) : a = satI (a + b) := by
  unfold satI
  split <;> omega
set_option maxRecDepth 100000 in
theorem whittlerref3_weighText (s : Str) (n : Int) (hn : 0 ≤ n ∧ n ≤ 20001) : SpecP Tryz.prog 63 [.str s, .int .i64 n] (fun r => r = .int .i64 (satI (n + (1 + s.length : Nat)))) := by
  refine SpecP.body I_whittlerref3_weighText tabOK Tryz.func63 rfl Tryz.call63 (by show 2 ≤ _; decide) ?_
  conv => whnf
  repeat' (first | ((first | (intro (_ : _ ≤ 9223372036854775807)) | (refine Wr.i64 (by omega) (by omega) ?_)); conv => whnf) | (refine Br.dec (fun _ => ?_) (fun _ => ?_) <;> first | (exfalso; omega) | conv => whnf))
  all_goals exact RetK.int (by unfold satI; (repeat' split) <;> omega)
set_option maxHeartbeats 1000000 in
set_option maxRecDepth 100000 in
theorem whittlerref3_weighTexts (l : List Str) (n : Int) (hn : 0 ≤ n ∧ n ≤ 20001) : SpecP Tryz.prog 62 [eStrs l, .int .i64 n] (fun r => r = .int .i64 (satI (n + wTxs l))) := by
  refine SpecP.body I_whittlerref3_weighTexts tabOK Tryz.func62 rfl Tryz.call62 (by show 2 ≤ _; decide) ?_
  conv => whnf
  skip
  have hl : (l.map AV.str).length = l.length := List.length_map _
  refine LoopK.inv tabOK (fun x : Nat × Int => ⟨[(0, .p (eStrs l)), (1, .p (.int .i64 x.2)), (5, .p (.int .i64 x.1))], []⟩) (fun x => x.1 ≤ l.length ∧ (0 ≤ x.2 ∧ x.2 ≤ 20001) ∧ satI (x.2 + wTxs (l.drop x.1)) = satI (n + wTxs l)) (fun x => l.length - x.1) (0, n) (Le.of_eq rfl) ⟨Nat.zero_le _, hn, rfl⟩ ?_
  rintro ⟨j, m⟩ ⟨h2, h3, h4⟩
  simp only at h2 h3 h4 ⊢
  rcases Nat.lt_or_ge j l.length with hj | hj
  · rw [List.drop_eq_getElem_cons hj, wTxs] at h4
    conv => whnf
    repeat' (first | ((first | (intro (_ : _ ≤ 9223372036854775807)) | (refine CallK.pure (whittlerref3_weighText _ _ h3) (by repeat' (first | exact ArgP.nil | refine ArgP.cons ?_ ?_ | exact Sub.refl _ | exact Sub.tt rfl | exact Sub.ff rfl | exact Sub.int (by omega))) ?_; rintro _ rfl) | (refine IdxK.map (by omega) (fun _ => rfl) ?_) | (refine Wr.i64 (by omega) (by omega) ?_)); conv => whnf) | (refine Br.dec (fun _ => ?_) (fun _ => ?_) <;> first | (exfalso; omega) | conv => whnf))
    · have h5 : satI (satI (m + (1 + l[j].length : Nat)) + wTxs (l.drop (j + 1))) = satI (n + wTxs l) := by
        rw [satI_sat (by omega), ← h4]
        congr 1
        omega
      exact ⟨(j + 1, satI (m + (1 + l[j].length : Nat))), ⟨by simp only; omega, satI_rng (by omega), h5⟩, by simp only; omega, Le.of_eq rfl⟩
    · exact RetK.int (by rw [← h4]; exact satI_full (by omega) h3.2 (by omega))
  · rw [List.drop_eq_nil_of_le hj, wTxs] at h4
    conv => whnf
    repeat' (first | (intro (_ : _ ≤ 9223372036854775807); conv => whnf) | (refine Br.dec (fun _ => ?_) (fun _ => ?_) <;> first | (exfalso; omega) | conv => whnf))
    exact RetK.int (by rw [← h4, satI_id (by omega)]; simp)
set_option maxHeartbeats 2000000 in
set_option maxRecDepth 100000 in
theorem whittlerref3_weighExpr : ∀ (k : Nat) (x : X) (_ : wX x < k) (n : Int) (_ : 0 ≤ n ∧ n ≤ 20001), SpecP Tryz.prog 111 [.agg x.cells, .int .i64 n] (fun r => r = .int .i64 (satI (n + wX x))) := by
  intro k
  induction k with
  | zero => intro x h; omega
  | succ k ih =>
    intro x hx n hn
    have hxe : wX x = 1 + x.name.length + wXs x.kids := by cases x; rw [wX]; rfl
    have hkl := X.avs_len x.kids
    refine SpecP.body I_whittlerref3_weighExpr tabOK Tryz.func111 rfl Tryz.call111 (by show 2 ≤ _; decide) ?_
    conv => whnf
    repeat' (refine CallK.pure (whittlerref3_weighText _ _ hn) (by repeat' (first | exact ArgP.nil | refine ArgP.cons ?_ ?_ | exact Sub.refl _ | exact Sub.tt rfl | exact Sub.ff rfl | exact Sub.int (by omega))) ?_; rintro _ rfl; conv => whnf)
    refine LoopK.inv tabOK (fun y : Nat × Int => ⟨[(1, .p (.int .i64 y.2)), (2, .p (.ip x.cells)), (5, .p (.int .i64 y.1))], []⟩) (fun y => y.1 ≤ x.kids.length ∧ (0 ≤ y.2 ∧ y.2 ≤ 20001) ∧ satI (y.2 + wXs (x.kids.drop y.1)) = satI (n + wX x)) (fun y => x.kids.length - y.1) (0, satI (n + (1 + x.name.length : Nat))) (Le.of_eq rfl) ⟨Nat.zero_le _, satI_rng (by omega), by
      show satI (satI (n + (1 + x.name.length : Nat)) + wXs x.kids) = _
      rw [satI_sat (by omega), hxe]
      congr 1
      omega⟩ ?_
    rintro ⟨j, m⟩ ⟨h2, h3, h4⟩
    simp only at h2 h3 h4 ⊢
    rcases Nat.lt_or_ge j x.kids.length with hj | hj
    · rw [List.drop_eq_getElem_cons hj, wXs] at h4
      have hkw : wX x.kids[j] < k := by
        have : ∀ (l : List X) (y : X), y ∈ l → wX y ≤ wXs l := fun l => by
          induction l with
          | nil => intro y h; cases h
          | cons a r ih =>
            intro y h
            rw [wXs]
            rcases List.mem_cons.1 h with rfl | h
            · omega
            · have := ih y h; omega
        have := this x.kids _ (List.getElem_mem hj)
        omega
      conv => whnf
      repeat' (first | ((first | (intro (_ : _ ≤ 9223372036854775807)) | (refine IdxK.xs (by omega) ?_) | (refine Wr.i64 (by omega) (by omega) ?_) | (refine CallK.pure (ih (x.kids[j]'hj) hkw m h3) (.cons (Sub.refl _) (.cons (Sub.refl _) .nil)) ?_; rintro _ rfl)); conv => whnf) | (refine Br.dec (fun _ => ?_) (fun _ => ?_) <;> first | (exfalso; omega) | conv => whnf))
      · have h5 : satI (satI (m + wX x.kids[j]) + wXs (x.kids.drop (j + 1))) = satI (n + wX x) := by
          rw [satI_sat (by omega), ← h4]
          congr 1
          omega
        exact ⟨(j + 1, satI (m + wX x.kids[j])), ⟨by simp only; omega, satI_rng (by omega), h5⟩, by simp only; omega, Le.of_eq rfl⟩
      · exact RetK.int (by rw [← h4]; exact satI_full (by omega) h3.2 (by omega))
    · rw [List.drop_eq_nil_of_le hj, wXs] at h4
      conv => whnf
      repeat' (first | (intro (_ : _ ≤ 9223372036854775807); conv => whnf) | (refine Br.dec (fun _ => ?_) (fun _ => ?_) <;> first | (exfalso; omega) | conv => whnf))
      exact RetK.int (by rw [← h4, satI_id (by omega)]; simp)
theorem wL_mem : ∀ (l : List S) (y : S), y ∈ l → wS y ≤ wL l
  | [], y, h => by cases h
  | a :: r, y, h => by
    rw [wL]
    rcases List.mem_cons.1 h with rfl | h
    · omega
    · have := wL_mem r y h; omega
set_option maxHeartbeats 4000000 in
set_option maxRecDepth 100000 in
theorem whittlerref3_weighStmts : ∀ (k : Nat) (l : List S) (_ : wL l < k) (n : Int) (_ : 0 ≤ n ∧ n ≤ 20001), SpecP Tryz.prog 64 [eSs l, .int .i64 n] (fun r => r = .int .i64 (satI (n + wL l))) := by
  intro k
  induction k with
  | zero => intro l h; omega
  | succ k ih =>
    intro l hl n hn
    have hkl := S.avs_len l
    refine SpecP.body I_whittlerref3_weighStmts tabOK Tryz.func64 rfl Tryz.call64 (by show 2 ≤ _; decide) ?_
    conv => whnf
    skip
    refine LoopK.inv tabOK (fun y : Nat × Int => ⟨[(0, .p (eSs l)), (1, .p (.int .i64 y.2)), (5, .p (.int .i64 y.1))], []⟩) (fun y => y.1 ≤ l.length ∧ (0 ≤ y.2 ∧ y.2 ≤ 20001) ∧ satI (y.2 + wL (l.drop y.1)) = satI (n + wL l)) (fun y => l.length - y.1) (0, n) (Le.of_eq rfl) ⟨Nat.zero_le _, hn, rfl⟩ ?_
    rintro ⟨j, m⟩ ⟨h2, h3, h4⟩
    simp only at h2 h3 h4 ⊢
    rcases Nat.lt_or_ge j l.length with hj | hj
    rotate_left 1
    · rw [List.drop_eq_nil_of_le hj, wL] at h4
      conv => whnf
      repeat' (first | (intro (_ : _ ≤ 9223372036854775807); conv => whnf) | (refine Br.dec (fun _ => ?_) (fun _ => ?_) <;> first | (exfalso; omega) | conv => whnf))
      exact RetK.int (by rw [← h4, satI_id (by omega)]; simp)
    rw [List.drop_eq_getElem_cons hj, wL] at h4
    have hsw := wL_mem l _ (List.getElem_mem hj)
    have hse := wS_eq l[j]
    have q1 := satI_rng (a := m + wX l[j].x) (by omega)
    have q2 := satI_rng (a := satI (m + wX l[j].x) + wTxs l[j].labels) (by omega)
    have q3 := satI_rng (a := satI (satI (m + wX l[j].x) + wTxs l[j].labels) + (1 + l[j].name.length : Nat)) (by omega)
    conv => whnf
    repeat' (first | ((first | (intro (_ : _ ≤ 9223372036854775807)) | (refine DrawK.auto tabOK mixed (by kernel_rfl) ?_) | (refine And.intro rfl ?_) | (refine IdxK.ss (by omega) ?_) | (refine CallK.pure (whittlerref3_weighExpr (wX l[j].x+1) l[j].x (by omega) m h3) (.cons (Sub.refl _) (.cons (Sub.refl _) .nil)) ?_; rintro _ rfl) | (refine CallK.pure (whittlerref3_weighTexts l[j].labels _ q1) (.cons (Sub.refl _) (.cons (Sub.refl _) .nil)) ?_; rintro _ rfl) | (refine CallK.pure (whittlerref3_weighText l[j].name _ q2) (.cons (Sub.refl _) (.cons (Sub.refl _) .nil)) ?_; rintro _ rfl) | (refine CallK.pure (whittlerref3_weighText l[j].proc _ q3) (.cons (Sub.refl _) (.cons (Sub.refl _) .nil)) ?_; rintro _ rfl)); conv => whnf) | (refine Br.dec (fun _ => ?_) (fun _ => ?_) <;> first | (exfalso; omega) | conv => whnf))
    rotate_left 1
    · exact RetK.int (by rw [← h4]; exact satI_full (by omega) h3.2 (by omega))
    have q4 := satI_rng (a := satI (satI (satI (m + wX l[j].x) + wTxs l[j].labels) + (1 + l[j].name.length : Nat)) + (1 + l[j].proc.length : Nat)) (by omega)
    have h5 : satI (satI (satI (satI (satI (m + wX l[j].x) + wTxs l[j].labels) + (1 + l[j].name.length : Nat)) + (1 + l[j].proc.length : Nat)) + (wArgs l[j].args + (wL l[j].thn + wL l[j].els + wL (l.drop (j + 1))) : Nat)) = satI (n + wL l) := by
      rw [satI_sat (by omega), Int.add_assoc, satI_sat (by omega), Int.add_assoc, satI_sat (by omega), Int.add_assoc, satI_sat (by omega), ← h4, hse]
      congr 1
      omega
    generalize satI (satI (satI (satI (m + wX l[j].x) + wTxs l[j].labels) + (1 + l[j].name.length : Nat)) + (1 + l[j].proc.length : Nat)) = m0 at q4 h5 ⊢
    have hal : (l[j].args.map fun a => AV.agg a.cells).length = l[j].args.length := List.length_map _
    refine LoopK.inv tabOK (fun y : Nat × Int => ⟨[(0, .p (eSs l)), (1, .p (.int .i64 y.2)), (5, .p (.int .i64 j)), (6, .p (.ip l[j].cells)), (7, .p (.int .i64 y.1))], []⟩) (fun y => y.1 ≤ l[j].args.length ∧ (0 ≤ y.2 ∧ y.2 ≤ 20001) ∧ satI (y.2 + (wArgs (l[j].args.drop y.1) + (wL l[j].thn + wL l[j].els + wL (l.drop (j + 1))) : Nat)) = satI (n + wL l)) (fun y => l[j].args.length - y.1) (0, m0) (Le.of_eq rfl) ⟨Nat.zero_le _, q4, h5⟩ ?_
    rintro ⟨a, m2⟩ ⟨h6, h7, h8⟩
    simp only at h6 h7 h8 ⊢
    have fin : satI (m2 + (wL l[j].thn + wL l[j].els + wL (l.drop (j + 1)) : Nat)) = satI (n + wL l) → (0 ≤ satI (satI (m2 + wL l[j].thn) + wL l[j].els) ∧ satI (satI (m2 + wL l[j].thn) + wL l[j].els) ≤ 20001) ∧ satI (satI (satI (m2 + wL l[j].thn) + wL l[j].els) + wL (l.drop (j + 1))) = satI (n + wL l) := fun h => by
      have := satI_rng (a := m2 + wL l[j].thn) (by omega)
      refine ⟨satI_rng (by omega), ?_⟩
      rw [satI_sat (by omega), Int.add_assoc, satI_sat (by omega), ← h]
      congr 1
      omega
    have r1 := satI_rng (a := m2 + wL l[j].thn) (by omega)
    have full : m2 > 20000 → satI (m2 + (wL l[j].thn + wL l[j].els + wL (l.drop (j + 1)) : Nat)) = satI (n + wL l) := fun h => by
      rw [← h8, ← satI_full h h7.2 (by omega), ← satI_full h h7.2 (by omega)]
    rcases Nat.lt_or_ge a l[j].args.length with ha | ha
    rotate_left 1
    · have h9 : satI (m2 + (wL l[j].thn + wL l[j].els + wL (l.drop (j + 1)) : Nat)) = satI (n + wL l) := by
        rw [List.drop_eq_nil_of_le ha, wArgs, Nat.zero_add] at h8
        exact h8
      obtain ⟨f1, f2⟩ := fin h9
      conv => whnf
      repeat' (first | ((first | (intro (_ : _ ≤ 9223372036854775807)) | (refine DrawK.auto tabOK mixed (by kernel_rfl) ?_) | (refine Wr.i64 (by omega) (by omega) ?_) | (refine CallK.pure (ih l[j].thn (by omega) m2 h7) (.cons (Sub.refl _) (.cons (Sub.refl _) .nil)) ?_; rintro _ rfl) | (refine CallK.pure (ih l[j].els (by omega) _ r1) (.cons (Sub.refl _) (.cons (Sub.refl _) .nil)) ?_; rintro _ rfl)); conv => whnf) | (refine Br.dec (fun _ => ?_) (fun _ => ?_) <;> first | (exfalso; omega) | conv => whnf))
      all_goals exact ⟨(j + 1, satI (satI (m2 + wL l[j].thn) + wL l[j].els)), ⟨by simp only; omega, f1, f2⟩, by simp only; omega, Le.of_eq rfl⟩
    rw [List.drop_eq_getElem_cons ha, wArgs] at h8
    have q5 := satI_rng (a := m2 + wX l[j].args[a].x) (by omega)
    conv => whnf
    repeat' (first | ((first | (intro (_ : _ ≤ 9223372036854775807)) | (refine DrawK.auto tabOK mixed (by kernel_rfl) ?_) | (refine IdxK.map (by omega) (fun _ => rfl) ?_) | (refine Wr.i64 (by omega) (by omega) ?_) | (refine CallK.pure (whittlerref3_weighExpr (wX l[j].args[a].x+1) l[j].args[a].x (by omega) m2 h7) (.cons (Sub.refl _) (.cons (Sub.refl _) .nil)) ?_; rintro _ rfl) | (refine CallK.pure (whittlerref3_weighText l[j].args[a].name _ q5) (.cons (Sub.refl _) (.cons (Sub.refl _) .nil)) ?_; rintro _ rfl) | (refine CallK.pure (ih l[j].thn (by omega) m2 h7) (.cons (Sub.refl _) (.cons (Sub.refl _) .nil)) ?_; rintro _ rfl) | (refine CallK.pure (ih l[j].els (by omega) _ r1) (.cons (Sub.refl _) (.cons (Sub.refl _) .nil)) ?_; rintro _ rfl)); conv => whnf) | (refine Br.dec (fun _ => ?_) (fun _ => ?_) <;> first | (exfalso; omega) | conv => whnf))
    · have h10 : satI (satI (satI (m2 + wX l[j].args[a].x) + (1 + l[j].args[a].name.length : Nat)) + (wArgs (l[j].args.drop (a + 1)) + (wL l[j].thn + wL l[j].els + wL (l.drop (j + 1))) : Nat)) = satI (n + wL l) := by
        rw [satI_sat (by omega), Int.add_assoc, satI_sat (by omega), ← h8]
        congr 1
        omega
      exact ⟨(a + 1, satI (satI (m2 + wX l[j].args[a].x) + (1 + l[j].args[a].name.length : Nat))), ⟨by simp only; omega, satI_rng (by omega), h10⟩, by simp only; omega, Le.of_eq rfl⟩
    · obtain ⟨f1, f2⟩ := fin (full (by omega))
      exact ⟨(j + 1, satI (satI (m2 + wL l[j].thn) + wL l[j].els)), ⟨by simp only; omega, f1, f2⟩, by simp only; omega, Le.of_eq rfl⟩
end Go.Ab
namespace Go.Ab
open Go.Proofs
def fitB (p : Pg) : Bool := decide (wPg p ≤ 20000)
set_option maxHeartbeats 4000000 in
set_option maxRecDepth 100000 in
theorem whittlerref3_Fits (p : Pg) : SpecP Tryz.prog 16 [.agg p.cells] (fun r => r = .bool (fitB p)) := by
  refine SpecP.body I_whittlerref3_Fits tabOK Tryz.func16 rfl Tryz.call16 (by show 1 ≤ _; decide) ?_
  conv => whnf
  have hl : (p.procs.map fun f => AV.agg f.cells).length = p.procs.length := List.length_map _
  have q0 := satI_rng (a := 0 + wTxs p.globals) (by omega)
  repeat' (refine CallK.pure (whittlerref3_weighTexts p.globals 0 (by omega)) (.cons (Sub.refl _) (.cons (Sub.refl _) .nil)) ?_; rintro _ rfl; conv => whnf)
  refine LoopK.inv tabOK (fun y : Nat × Int => ⟨[(1, .p (.ip p.cells)), (3, .p (.int .i64 y.2)), (4, .p (.int .i64 y.1))], []⟩) (fun y => y.1 ≤ p.procs.length ∧ (0 ≤ y.2 ∧ y.2 ≤ 20001) ∧ satI (y.2 + wPrs (p.procs.drop y.1)) = satI (wPg p : Nat)) (fun y => p.procs.length - y.1) (0, satI (0 + wTxs p.globals)) (Le.of_eq rfl) ⟨Nat.zero_le _, q0, by
    show satI (satI (0 + wTxs p.globals) + wPrs p.procs) = _
    rw [satI_sat (by omega)]
    congr 1
    unfold wPg
    omega⟩ ?_
  rintro ⟨j, m⟩ ⟨h2, h3, h4⟩
  simp only at h2 h3 h4 ⊢
  have last : ∀ {x : Int}, 0 ≤ x ∧ x ≤ 20001 → satI x = satI (wPg p : Nat) → (decide (x ≤ 20000)) = fitB p := fun {x} hx h => by
    unfold fitB
    unfold satI at h
    by_cases h1 : wPg p ≤ 20000
    · rw [decide_eq_true h1, decide_eq_true_eq]
      split at h <;> split at h <;> omega
    · rw [decide_eq_false h1, decide_eq_false_iff_not]
      split at h <;> split at h <;> omega
  rcases Nat.lt_or_ge j p.procs.length with hj | hj
  rotate_left 1
  · rw [List.drop_eq_nil_of_le hj, wPrs] at h4
    conv => whnf
    repeat' (first | (intro (_ : _ ≤ 9223372036854775807); conv => whnf) | (refine Br.dec (fun _ => ?_) (fun _ => ?_) <;> first | (exfalso; omega) | conv => whnf))
    all_goals exact RetK.bool (last h3 (by rw [← h4]; simp))
  rw [List.drop_eq_getElem_cons hj, wPrs] at h4
  have hpe : wPr p.procs[j] = 1 + p.procs[j].name.length + wTxs p.procs[j].vars + wTxs p.procs[j].fin + wPms p.procs[j].params + wL p.procs[j].body := rfl
  have q1 := satI_rng (a := m + (1 + p.procs[j].name.length : Nat)) (by omega)
  have q2 := satI_rng (a := satI (m + (1 + p.procs[j].name.length : Nat)) + wTxs p.procs[j].vars) (by omega)
  have q3 := satI_rng (a := satI (satI (m + (1 + p.procs[j].name.length : Nat)) + wTxs p.procs[j].vars) + wTxs p.procs[j].fin) (by omega)
  conv => whnf
  repeat' (first | ((first | (intro (_ : _ ≤ 9223372036854775807)) | (refine DrawK.auto tabOK mixed (by kernel_rfl) ?_) | (refine And.intro rfl ?_) | (refine IdxK.map (by omega) (fun _ => rfl) ?_) | (refine CallK.pure (whittlerref3_weighText p.procs[j].name _ h3) (.cons (Sub.refl _) (.cons (Sub.refl _) .nil)) ?_; rintro _ rfl) | (refine CallK.pure (whittlerref3_weighTexts p.procs[j].vars _ q1) (.cons (Sub.refl _) (.cons (Sub.refl _) .nil)) ?_; rintro _ rfl) | (refine CallK.pure (whittlerref3_weighTexts p.procs[j].fin _ q2) (.cons (Sub.refl _) (.cons (Sub.refl _) .nil)) ?_; rintro _ rfl)); conv => whnf) | (refine Br.dec (fun _ => ?_) (fun _ => ?_) <;> first | (exfalso; omega) | conv => whnf))
  rotate_left 1
  · exact RetK.bool (last h3 (by rw [← h4, ← satI_full (by omega) h3.2 (by omega), satI_id h3.2]))
  have h5 : satI (satI (satI (satI (m + (1 + p.procs[j].name.length : Nat)) + wTxs p.procs[j].vars) + wTxs p.procs[j].fin) + (wPms p.procs[j].params + (wL p.procs[j].body + wPrs (p.procs.drop (j + 1))) : Nat)) = satI (wPg p : Nat) := by
    rw [satI_sat (by omega), Int.add_assoc, satI_sat (by omega), Int.add_assoc, satI_sat (by omega), ← h4, hpe]
    congr 1
    omega
  generalize satI (satI (satI (m + (1 + p.procs[j].name.length : Nat)) + wTxs p.procs[j].vars) + wTxs p.procs[j].fin) = m0 at q3 h5 ⊢
  have hal : (p.procs[j].params.map fun a => AV.agg a.cells).length = p.procs[j].params.length := List.length_map _
  refine LoopK.inv tabOK (fun y : Nat × Int => ⟨[(1, .p (.ip p.cells)), (3, .p (.int .i64 y.2)), (4, .p (.int .i64 j)), (5, .p (.ip p.procs[j].cells)), (6, .p (.int .i64 y.1))], []⟩) (fun y => y.1 ≤ p.procs[j].params.length ∧ (0 ≤ y.2 ∧ y.2 ≤ 20001) ∧ satI (y.2 + (wPms (p.procs[j].params.drop y.1) + (wL p.procs[j].body + wPrs (p.procs.drop (j + 1))) : Nat)) = satI (wPg p : Nat)) (fun y => p.procs[j].params.length - y.1) (0, m0) (Le.of_eq rfl) ⟨Nat.zero_le _, q3, h5⟩ ?_
  rintro ⟨a, m2⟩ ⟨h6, h7, h8⟩
  simp only at h6 h7 h8 ⊢
  have fin : satI (m2 + (wL p.procs[j].body + wPrs (p.procs.drop (j + 1)) : Nat)) = satI (wPg p : Nat) → (0 ≤ satI (m2 + wL p.procs[j].body) ∧ satI (m2 + wL p.procs[j].body) ≤ 20001) ∧ satI (satI (m2 + wL p.procs[j].body) + wPrs (p.procs.drop (j + 1))) = satI (wPg p : Nat) := fun h => by
    refine ⟨satI_rng (by omega), ?_⟩
    rw [satI_sat (by omega), ← h]
    congr 1
    omega
  have full : m2 > 20000 → satI (m2 + (wL p.procs[j].body + wPrs (p.procs.drop (j + 1)) : Nat)) = satI (wPg p : Nat) := fun h => by
    rw [← h8, ← satI_full h h7.2 (by omega), ← satI_full h h7.2 (by omega)]
  rcases Nat.lt_or_ge a p.procs[j].params.length with ha | ha
  rotate_left 1
  · have h9 : satI (m2 + (wL p.procs[j].body + wPrs (p.procs.drop (j + 1)) : Nat)) = satI (wPg p : Nat) := by
      rw [List.drop_eq_nil_of_le ha, wPms, Nat.zero_add] at h8
      exact h8
    obtain ⟨f1, f2⟩ := fin h9
    conv => whnf
    repeat' (first | ((first | (intro (_ : _ ≤ 9223372036854775807)) | (refine Wr.i64 (by omega) (by omega) ?_) | (refine CallK.pure (whittlerref3_weighStmts (wL p.procs[j].body+1) p.procs[j].body (by omega) m2 h7) (.cons (Sub.refl _) (.cons (Sub.refl _) .nil)) ?_; rintro _ rfl)); conv => whnf) | (refine Br.dec (fun _ => ?_) (fun _ => ?_) <;> first | (exfalso; omega) | conv => whnf))
    all_goals exact ⟨(j + 1, satI (m2 + wL p.procs[j].body)), ⟨by simp only; omega, f1, f2⟩, by simp only; omega, Le.of_eq rfl⟩
  rw [List.drop_eq_getElem_cons ha, wPms] at h8
  conv => whnf
  repeat' (first | ((first | (intro (_ : _ ≤ 9223372036854775807)) | (refine IdxK.map (by omega) (fun _ => rfl) ?_) | (refine Wr.i64 (by omega) (by omega) ?_) | (refine CallK.pure (whittlerref3_weighText p.procs[j].params[a].name _ h7) (.cons (Sub.refl _) (.cons (Sub.refl _) .nil)) ?_; rintro _ rfl) | (refine CallK.pure (whittlerref3_weighStmts (wL p.procs[j].body+1) p.procs[j].body (by omega) m2 h7) (.cons (Sub.refl _) (.cons (Sub.refl _) .nil)) ?_; rintro _ rfl)); conv => whnf) | (refine Br.dec (fun _ => ?_) (fun _ => ?_) <;> first | (exfalso; omega) | conv => whnf))
  · have h10 : satI (satI (m2 + (1 + p.procs[j].params[a].name.length : Nat)) + (wPms (p.procs[j].params.drop (a + 1)) + (wL p.procs[j].body + wPrs (p.procs.drop (j + 1))) : Nat)) = satI (wPg p : Nat) := by
      rw [satI_sat (by omega), ← h8]
      congr 1
      omega
    exact ⟨(a + 1, satI (m2 + (1 + p.procs[j].params[a].name.length : Nat))), ⟨by simp only; omega, satI_rng (by omega), h10⟩, by simp only; omega, Le.of_eq rfl⟩
  · obtain ⟨f1, f2⟩ := fin (full (by omega))
    exact ⟨(j + 1, satI (m2 + wL p.procs[j].body)), ⟨by simp only; omega, f1, f2⟩, by simp only; omega, Le.of_eq rfl⟩
end Go.Ab
namespace Go.Ab
open Go.Proofs
/-- Rows whose elements say less. -/
inductive SubE : List AV → List AV → Prop
  | nil : SubE [] []
  | cons {a b : AV} {xs ys : List AV} (h : SubL a.cells b.cells) (hs : SubE xs ys) : SubE (a :: xs) (b :: ys)
theorem SubE.get {xs ys : List AV} (h : SubE xs ys) : xs.length = ys.length ∧ ∀ (i : Nat) (b : AV), ys[i]? = some b → ∃ a, xs[i]? = some a ∧ SubL a.cells b.cells := by
  induction h with
  | nil => exact ⟨rfl, by simp⟩
  | cons h hs ih =>
    refine ⟨by simp [ih.1], fun i b hb => ?_⟩
    cases i with
    | zero => simp at hb; subst hb; exact ⟨_, rfl, h⟩
    | succ i => exact ih.2 i b (by simpa using hb)
theorem Sub.sl {xs ys : List AV} (h : SubE xs ys) : Sub (.sl xs) (.sl ys) := fun σ v hr => by
  obtain ⟨hl, hg⟩ := h.get
  cases hr with
  | nilsl =>
    obtain rfl : ys = [] := by simpa using hl.symm
    exact .nilsl
  | slz b =>
    obtain rfl : ys = [] := by simpa using hl.symm
    exact .slz b
  | sl _ b off cap sz cells u hb hcap hmax hsz hc hrr =>
    rw [hl]
    refine .sl ys b off cap sz cells u hb (by omega) hmax (fun i e hi => ?_) (fun i e j c hi hj => ?_) (fun i e j c hi hj => ?_)
    · obtain ⟨a, h1, h2⟩ := hg i e hi
      rw [← hsz i a h1, h2.1]
    · obtain ⟨a, h1, h2⟩ := hg i e hi
      obtain ⟨d, h3, _⟩ := h2.get hj
      exact hc i a j d h1 h3
    · obtain ⟨a, h1, h2⟩ := hg i e hi
      obtain ⟨d, h3, h4⟩ := h2.get hj
      exact h4 _ _ (hrr i a j d h1 h3)
set_option maxRecDepth 100000 in
theorem whittlerref3_num (n : Int) : SpecP Tryz.prog 108 [.int .i64 n] (fun r => r = .agg (X.mk 1 n [] []).cells) := by
  refine SpecP.body I_whittlerref3_num tabOK Tryz.func108 rfl Tryz.call108 (by show 1 ≤ _; decide) ?_
  conv => whnf
  repeat' (refine And.intro rfl ?_; conv => whnf)
  exact ⟨_, .p (Sub.agg (by repeat' (first | exact SubL.nil | refine SubL.cons ?_ ?_ | exact Sub.refl _ | exact Sub.nils | exact Sub.ff rfl))), rfl⟩
set_option maxRecDepth 100000 in
theorem whittlerref3_name (s : Str) : SpecP Tryz.prog 109 [.str s] (fun r => r = .agg (X.mk 2 0 s []).cells) := by
  refine SpecP.body I_whittlerref3_name tabOK Tryz.func109 rfl Tryz.call109 (by show 1 ≤ _; decide) ?_
  conv => whnf
  repeat' (refine And.intro rfl ?_; conv => whnf)
  exact ⟨_, .p (Sub.agg (by repeat' (first | exact SubL.nil | refine SubL.cons ?_ ?_ | exact Sub.refl _ | exact Sub.nils | exact Sub.ff rfl))), rfl⟩
set_option maxRecDepth 100000 in
theorem whittlerref3_two (op : Int) (a b : X) : SpecP Tryz.prog 110 [.int .i64 op, .agg a.cells, .agg b.cells] (fun r => r = .agg (X.mk op 0 [] [a, b]).cells) := by
  refine SpecP.body I_whittlerref3_two tabOK Tryz.func110 rfl Tryz.call110 (by show 3 ≤ _; decide) ?_
  conv => whnf
  repeat' ((first | (refine And.intro rfl ?_) | (refine And.intro ⟨by decide, by decide⟩ ?_) | (refine BsK.pureL rfl rfl ?_)); conv => whnf)
  have e : X.avs [a, b] = [.agg a.cells, .agg b.cells] := by simp only [X.avs, X.av_eq]
  exact ⟨_, .p (Sub.agg (SubL.cons (Sub.refl _) (SubL.cons (Sub.refl _) (SubL.cons (Sub.refl _) (SubL.cons (Sub.of_eq (by show _ = AV.sl (X.avs [a, b]); rw [e]; rfl)) SubL.nil))))), rfl⟩
def bs (l : List Nat) : Str := l.map fun n => UInt8.ofNat n
def someP : Pg := ⟨[[103]], [
  ⟨[109, 97, 105, 110], [], [[118]], [
    .mk 1 1 [] [118] [] (.mk 1 2 [] []) false [] [] [],
    .mk 2 4 [] [103] [112] (.mk 0 0 [] []) false [⟨false, [], .mk 1 3 [] []⟩, ⟨true, [118], .mk 0 0 [] []⟩] [] [],
    .mk 3 3 [] [] [] (.mk 2 0 [118] []) false [] [] [],
    .mk 4 3 [] [] [] (.mk 2 0 [103] []) false [] [] []], []⟩,
  ⟨[112], [⟨[120], false⟩, ⟨[121], true⟩], [], [
    .mk 5 1 [] [121] [] (.mk 8 0 [] [.mk 2 0 [121] [], .mk 2 0 [120] []]) false [] [] [],
    .mk 6 5 [] [] [] (.mk 12 0 [] [.mk 2 0 [121] [], .mk 1 9 [] []]) false [] [.mk 7 10 [] [101] [] (.mk 0 0 [] []) false [] [] []] [],
    .mk 8 9 [] [] [] (.mk 2 0 [121] []) true [] [] []], [[101]]⟩]⟩
set_option maxHeartbeats 4000000 in
set_option maxRecDepth 100000 in
theorem whittlerref3_Some : SpecP Tryz.prog 61 [] (fun r => r = .agg someP.cells) := by
  refine SpecP.body I_whittlerref3_Some tabOK Tryz.func61 rfl Tryz.call61 (by show 0 ≤ _; decide) ?_
  conv => whnf
  repeat' ((first | (refine CallK.pure (whittlerref3_num _) (by repeat' (first | exact ArgP.nil | refine ArgP.cons ?_ ?_ | exact Sub.refl _ | exact Sub.tt rfl | exact Sub.ff rfl)) ?_; rintro _ rfl) | (refine CallK.pure (whittlerref3_name _) (by repeat' (first | exact ArgP.nil | refine ArgP.cons ?_ ?_ | exact Sub.refl _ | exact Sub.tt rfl | exact Sub.ff rfl)) ?_; rintro _ rfl) | (refine And.intro rfl ?_) | (refine And.intro ⟨by decide, by decide⟩ ?_) | (refine BsK.pure (fun x hx => by rcases List.mem_singleton.1 hx with rfl; rfl) rfl ?_) | (refine BsK.pureL rfl rfl ?_) | (refine CallK.pure (whittlerref3_two 8 (.mk 2 0 [121] []) (.mk 2 0 [120] [])) (.cons (Sub.refl _) (.cons (Sub.refl _) (.cons (Sub.refl _) .nil))) ?_; rintro _ rfl) | (refine CallK.pure (whittlerref3_two 12 (.mk 2 0 [121] []) (.mk 1 9 [] [])) (.cons (Sub.refl _) (.cons (Sub.refl _) (.cons (Sub.refl _) .nil))) ?_; rintro _ rfl)); conv => whnf)
  exact ⟨_, .p (Sub.agg (by repeat' (first | exact SubL.nil | exact SubE.nil | exact Sub.nils | exact Sub.ff rfl | exact Sub.tt rfl | refine SubL.cons ?_ ?_ | refine SubE.cons ?_ ?_ | exact Sub.refl _ | refine Sub.agg ?_ | refine Sub.sl ?_))), rfl⟩
end Go.Ab
namespace Go.Ab
open Go.Proofs
theorem some_fit : Fit someP := by unfold Fit; decide
theorem some_chk : chkB someP = true := by kernel_rfl
def f0 : Pr := someP.procs[0]'(by decide)
def f1 : Pr := someP.procs[1]'(by decide)
theorem norm0 : normS (stepsRaw someP 0 f0) = [⟨0, 1, 1⟩, ⟨1, 2, 1⟩, ⟨2, 3, 1⟩, ⟨3, 4, 1⟩, ⟨4, -1, 1⟩] := by
  have h1 : stepsRaw someP 0 f0 = [⟨0, 1, 1⟩, ⟨1, 2, 1⟩, ⟨2, 3, 1⟩, ⟨3, 4, 1⟩, ⟨4, -1, 1⟩] := by kernel_rfl
  unfold normS sortSt
  rw [h1, List.mergeSort_of_pairwise (by decide)]
  rfl
theorem norm1 : normS (stepsRaw someP 1 f1) = [⟨0, 5, 1⟩, ⟨5, 6, 1⟩, ⟨6, 7, 1⟩, ⟨6, 8, 1⟩, ⟨7, -1, 1⟩, ⟨8, -1, 1⟩] := by
  have h1 : stepsRaw someP 1 f1 = [⟨0, 5, 1⟩, ⟨5, 6, 1⟩, ⟨6, 7, 1⟩, ⟨6, 8, 1⟩, ⟨7, -1, 1⟩, ⟨8, -1, 1⟩] := by kernel_rfl
  unfold normS sortSt
  rw [h1, List.mergeSort_of_pairwise (by decide)]
  rfl
theorem some_way : wayO someP [112] = some (newWay someP 1 f1) := by
  unfold wayO
  rw [some_chk]
  rfl
end Go.Ab
namespace Go.Ab
open Go.Proofs
theorem step_rep {σ : Mem} {a : Step} {v : Value} (h : Rep σ (.agg a.cells) v) : v = .agg #[.int .i64 a.src, .int .i64 a.dst, .int .i64 a.kind] := by
  cases h with
  | agg cs vs u hn hc hr =>
    have hs : vs.size = 3 := hn
    have g : ∀ (j : Nat) (n : Int), a.cells[j]? = some (.int .i64 n) → vs[j]? = some (.int .i64 n) := fun j n hj => by
      have h1 := hc j _ hj
      have h2 := hr j _ hj
      cases hu : u j <;> rw [hu] at h2 <;> cases h2
      rw [h1, hu]
    congr 1
    apply Array.ext_getElem?
    intro i
    match i with
    | 0 => exact g 0 _ rfl
    | 1 => exact g 1 _ rfl
    | 2 => exact g 2 _ rfl
    | i + 3 => rw [Array.getElem?_eq_none (by omega), Array.getElem?_eq_none (by simp)]
theorem ValO.steps {hr : Bool} {s : St} {o : Oper} {K : LV → Prop} {x y : Operand} {u : TypeId} (hop : o.op = .binOp .eql 45 x y u) {a b : Step} (hx : evalO s.sl x = .p (.agg a.cells)) (hy : evalO s.sl y = .p (.agg b.cells))
    (hK : K (.p (.bool (decide (a = b))))) : ValO Tryz.prog hr s o K := by
  refine ⟨fun σ β ac w hs _ => ⟨_, .bool (decide (a = b)), hK, .p (.bool _), fun w' _ _ => ?_⟩⟩
  have h1 : ac.eval x = .agg #[.int .i64 a.src, .int .i64 a.dst, .int .i64 a.kind] := by
    have := evalO_rep hs x
    rw [hx] at this
    cases this with
    | p h => exact step_rep h
  have h2 : ac.eval y = .agg #[.int .i64 b.src, .int .i64 b.dst, .int .i64 b.kind] := by
    have := evalO_rep hs y
    rw [hy] at this
    cases this with
    | p h => exact step_rep h
  have hu : Tryz.prog.underlying 45 = some (.struct (Tryz.prog.fieldsOf 45)) := by kernel_rfl
  have hi : Tryz.prog.underlying 3 = some (.int .i64) := by kernel_rfl
  have hf : (Tryz.prog.fieldsOf 45).toList = (match ty45.desc with | .struct fs => fs.toList | _ => []) := by kernel_rfl
  have he : (Op.equalIn 10000 45 (.agg #[.int .i64 a.src, .int .i64 a.dst, .int .i64 a.kind]) (.agg #[.int .i64 b.src, .int .i64 b.dst, .int .i64 b.kind])).run Tryz.prog w' = .ok (decide (a = b)) w' := by
    rw [run_equalIn_struct w' 9999 _ _ _ hu (by kernel_rfl), hf]
    simp only [ty45, Op.eqFields]
    have p0 : ∀ x y z : Int, (part 3 #[.int .i64 x, .int .i64 y, .int .i64 z] 0).run Tryz.prog w' = .ok (.int .i64 x) w' := fun x y z => run_part_plain w' (by kernel_rfl) rfl
    have p1 : ∀ x y z : Int, (part 3 #[.int .i64 x, .int .i64 y, .int .i64 z] 1).run Tryz.prog w' = .ok (.int .i64 y) w' := fun x y z => run_part_plain w' (by kernel_rfl) rfl
    have p2 : ∀ x y z : Int, (part 3 #[.int .i64 x, .int .i64 y, .int .i64 z] 2).run Tryz.prog w' = .ok (.int .i64 z) w' := fun x y z => run_part_plain w' (by kernel_rfl) rfl
    have ei : ∀ x y : Int, (Op.equalIn 9999 3 (.int .i64 x) (.int .i64 y)).run Tryz.prog w' = .ok (x == y) w' := fun a b => run_equalIn_int (P := Tryz.prog) w' 9998 3 .i64 .i64 a b hi
    have e : decide (a = b) = ((a.src == b.src) && ((a.dst == b.dst) && (a.kind == b.kind))) := by
      cases a; cases b
      simp only [Step.mk.injEq, Bool.decide_and]
      rfl
    simp only [ne_eq, show ¬ ("From" = "_") by decide, show ¬ ("To" = "_") by decide, show ¬ ("Kind" = "_") by decide, not_false_eq_true, if_true, Sem.run_bind, p0, p1, p2, Result.andThen_ok, ei, Sem.run_ite, Sem.run_pure, e]
    cases (a.src == b.src) <;> cases (a.dst == b.dst) <;> cases (a.kind == b.kind) <;> simp
  simp only [execOp, hop, h1, h2, Sem.run_bind, run_eqGuard_agg _ _ _ _ _ _ _ (show Tryz.prog.eqGuardType Tryz.prog.depth 45 = false by kernel_rfl), Result.andThen_ok, run_eql_struct, he, Sem.run_pure]
end Go.Ab
namespace Go.Ab
open Go.Proofs
end Go.Ab
namespace Go.Ab
open Go.Proofs
theorem fit_procs {p : Pg} (h : chkB p = true) : p.procs.length ≤ 20000 := by have := (chk_cnt h).2.1; omega
theorem way_len {p : Pg} (h : chkB p = true) {j : Nat} {f : Pr} (hj : p.procs[j]? = some f) : (newWay p j f).real.length ≤ 100000 := by
  obtain ⟨h1, h2⟩ := real_spec h hj
  have h3 := nodup_len (lt_nodup h1) fun s hs => (h2 s).1 hs
  have h4 := stepsRaw_len p j f
  have h5 := cntP_mem _ _ (List.mem_of_getElem? hj)
  have := (chk_cnt h).2.2
  omega
end Go.Ab
namespace Go.Ab
open Go.Proofs
set_option maxHeartbeats 1000000 in
set_option maxRecDepth 100000 in
theorem tree_count : ∀ (k : Nat) (l : List S) (_ : cntL l < k) (_ : cntL l ≤ 1000000), SpecP Tryz.prog 82 [eSs l] (fun r => r = .int .i64 (cntL l)) := by
  intro k
  induction k with
  | zero => intro l h; omega
  | succ k ih =>
    intro l hk hl
    have hll := S.avs_len l
    have hlc : l.length ≤ cntL l := by
      clear hk hl hll
      induction l with
      | nil => simp
      | cons t r ihr => rw [cntL, cntS_eq, List.length_cons]; omega
    refine SpecP.body I_tree_count tabOK Tryz.func82 rfl Tryz.call82 (by show 1 ≤ _; decide) ?_
    conv => whnf
    repeat' (intro (_ : _ ≤ 9223372036854775807); conv => whnf)
    refine LoopK.inv tabOK (fun y : Nat × Nat => ⟨[(0, .p (eSs l)), (3, .p (.int .i64 y.2)), (8, .p (.int .i64 (S.avs l).length)), (9, .p (.int .i64 y.1))], []⟩) (fun y => y.1 ≤ l.length ∧ y.2 + cntL (l.drop y.1) = cntL l + (l.length - y.1)) (fun y => l.length - y.1) (0, l.length) (Le.of_eq (by simp only [S.avs_len]; rfl)) ⟨Nat.zero_le _, by simp; omega⟩ ?_
    rintro ⟨j, n⟩ ⟨h2, h3⟩
    simp only at h2 h3 ⊢
    rcases Nat.lt_or_ge j l.length with hj | hj
    · have hst := cntL_step hj
      have hcs := cntS_eq l[j]
      have h4 : cntL (l.drop j) ≤ cntL l := by
        have : ∀ (l : List S) (j : Nat), cntL (l.drop j) ≤ cntL l := fun l => by
          induction l with
          | nil => intro j; simp
          | cons t r ihr =>
            intro j
            cases j with
            | zero => simp
            | succ j => rw [List.drop_succ_cons, cntL]; have := ihr j; omega
        exact this l j
      conv => whnf
      repeat' (first | ((first | (refine DrawK.auto tabOK mixed (by kernel_rfl) ?_) | (refine IdxK.ss (by omega) ?_) | (refine Wr.i64 (by omega) (by omega) ?_) | (refine CallK.pure (ih l[j].thn (by omega) (by omega)) (.cons (Sub.refl _) .nil) ?_; rintro _ rfl) | (refine CallK.pure (ih l[j].els (by omega) (by omega)) (.cons (Sub.refl _) .nil) ?_; rintro _ rfl)); conv => whnf) | (refine Br.dec (fun _ => ?_) (fun _ => ?_) <;> first | (exfalso; omega) | conv => whnf))
      all_goals exact ⟨(j + 1, n + (cntL l[j].thn + cntL l[j].els)), ⟨by simp only; omega, by simp only; omega⟩, by simp only; omega, Le.of_eq rfl⟩
    · conv => whnf
      rw [List.drop_eq_nil_of_le hj, cntL] at h3
      repeat' (refine Br.dec (fun _ => ?_) (fun _ => ?_) <;> first | (exfalso; omega) | conv => whnf)
      exact RetK.int (by omega)
set_option maxRecDepth 100000 in
theorem tree_Count (p : Pg) (hc : cntP p.procs ≤ 1000) : SpecP Tryz.prog 32 [.agg p.cells] (fun r => r = .int .i64 (cntP p.procs)) := by
  refine SpecP.body I_tree_Count tabOK Tryz.func32 rfl Tryz.call32 (by show 1 ≤ _; decide) ?_
  conv => whnf
  have hl2 : (p.procs.map fun f => AV.agg f.cells).length = p.procs.length := List.length_map _
  repeat' (intro (_ : _ ≤ 9223372036854775807); conv => whnf)
  refine LoopK.inv tabOK (fun y : Nat × Nat => ⟨[(3, .p (.int .i64 y.2)), (7, .p (.sl (p.procs.map fun f => .agg f.cells))), (8, .p (.int .i64 (p.procs.map fun f => AV.agg f.cells).length)), (9, .p (.int .i64 y.1))], []⟩) (fun y => y.1 ≤ p.procs.length ∧ y.2 + cntP (p.procs.drop y.1) = cntP p.procs) (fun y => p.procs.length - y.1) (0, 0) (Le.of_eq rfl) ⟨Nat.zero_le _, by simp⟩ ?_
  rintro ⟨j, n⟩ ⟨h2, h3⟩
  simp only at h2 h3 ⊢
  rcases Nat.lt_or_ge j p.procs.length with hj | hj
  · have hst := cntP_step hj
    have hcm := cntP_mem _ _ (List.getElem_mem hj)
    conv => whnf
    repeat' (first | ((first | (refine And.intro rfl ?_) | (refine IdxK.map (by omega) (fun _ => rfl) ?_) | (refine Wr.i64 (by omega) (by omega) ?_) | (refine CallK.pure (tree_count (cntL p.procs[j].body+1) p.procs[j].body (by omega) (by omega)) (.cons (Sub.refl _) .nil) ?_; rintro _ rfl)); conv => whnf) | (refine Br.dec (fun _ => ?_) (fun _ => ?_) <;> first | (exfalso; omega) | conv => whnf))
    exact ⟨(j + 1, n + cntL p.procs[j].body), ⟨by simp only; omega, by simp only; omega⟩, by simp only; omega, Le.of_eq rfl⟩
  · conv => whnf
    rw [List.drop_eq_nil_of_le hj, cntP] at h3
    repeat' (refine Br.dec (fun _ => ?_) (fun _ => ?_) <;> first | (exfalso; omega) | conv => whnf)
    exact RetK.int (by omega)
def smallB (p : Pg) (most : Int) : Bool := chkB p && decide ((cntP p.procs : Int) ≤ most)
end Go.Ab
namespace Go.Ab
open Go.Proofs
/-- A step that may be taken: from the beginning, or past none of some. -/
def frR (steps : List Step) (at_ : Int) (but : List Int) (a b : Int) : Prop := (a = at_ ∨ hasI but a = false) ∧ ∃ s ∈ steps, s.src = a ∧ s.dst = b
structure FrI (steps : List Step) (at_ : Int) (but : List Int) (n : Nat) (l : List Int) : Prop where
  le : n ≤ l.length
  hd : l[0]? = some at_
  nd : l.Nodup
  sub : ∀ x ∈ l, x ∈ at_ :: steps.map Step.dst
  snd : ∀ x ∈ l, Rch (frR steps at_ but) at_ x
  cl : ∀ (m : Nat) (a : Int), m < n → l[m]? = some a → ∀ b, frR steps at_ but a b → b ∈ l
theorem FrI.len {steps : List Step} {at_ : Int} {but : List Int} {n : Nat} {l : List Int} (h : FrI steps at_ but n l) : l.length ≤ steps.length + 1 := by
  have := nodup_len h.nd h.sub
  simpa using this
theorem FrI.start (steps : List Step) (at_ : Int) (but : List Int) : FrI steps at_ but 0 [at_] := ⟨Nat.zero_le _, rfl, by simp, by simp, fun x hx => by rw [List.mem_singleton.1 hx]; exact .refl, fun m a hm => by omega⟩
theorem FrI.add {steps : List Step} {at_ : Int} {but : List Int} {n : Nat} {l : List Int} (h : FrI steps at_ but n l) {a b : Int} (ha : a ∈ l) (hb : frR steps at_ but a b) (hn : hasI l b = false) : FrI steps at_ but n (l ++ [b]) := by
  have hnm : b ∉ l := fun hm => by rw [hasI_iff.2 hm] at hn; cases hn
  have h0 : 0 < l.length := (List.getElem?_eq_some_iff.1 h.hd).1
  refine ⟨by rw [List.length_append]; have := h.le; omega, by rw [List.getElem?_append_left h0]; exact h.hd, ?_, fun x hx => ?_, fun x hx => ?_, fun m c hm hc d hd => ?_⟩
  · rw [List.nodup_append]
    refine ⟨h.nd, by simp, fun x hx y hy => ?_⟩
    rw [List.mem_singleton.1 hy]
    exact fun e => hnm (e ▸ hx)
  · rcases List.mem_append.1 hx with hx | hx
    · exact h.sub x hx
    · rw [List.mem_singleton.1 hx]
      obtain ⟨_, s, hs, _, h2⟩ := hb
      exact List.mem_cons_of_mem _ (List.mem_map.2 ⟨s, hs, h2⟩)
  · rcases List.mem_append.1 hx with hx | hx
    · exact h.snd x hx
    · rw [List.mem_singleton.1 hx]
      exact .tail (h.snd a ha) hb
  · rcases Nat.lt_or_ge m l.length with hml | hml
    · rw [List.getElem?_append_left hml] at hc
      exact List.mem_append.2 (.inl (h.cl m c hm hc d hd))
    · have := h.le
      omega
theorem FrI.fin {steps : List Step} {at_ : Int} {but : List Int} {l : List Int} (h : FrI steps at_ but l.length l) (x : Int) : x ∈ l ↔ Rch (frR steps at_ but) at_ x := by
  refine ⟨h.snd x, fun hr => hr.closed (S := fun x => x ∈ l) (fun a b ha hb => ?_) (List.mem_of_getElem? h.hd)⟩
  obtain ⟨m, hm⟩ := List.mem_iff_getElem?.1 ha
  exact h.cl m a (List.getElem?_eq_some_iff.1 hm).1 hm b hb
theorem FrI.next {steps : List Step} {at_ : Int} {but : List Int} {n : Nat} {l : List Int} (h : FrI steps at_ but n l) (hn : n < l.length) (hc : ∀ b, frR steps at_ but l[n] b → b ∈ l) : FrI steps at_ but (n + 1) l := by
  refine ⟨hn, h.hd, h.nd, h.sub, h.snd, fun m a hm ha b hb => ?_⟩
  rcases Nat.lt_or_ge m n with hmn | hmn
  · exact h.cl m a hmn ha b hb
  · obtain rfl : m = n := by omega
    rw [List.getElem?_eq_getElem hn] at ha
    cases ha
    exact hc b hb
end Go.Ab
namespace Go.Ab
open Go.Proofs
theorem DrawK.frz {P : Program} {T : Tab} {N : Nat} {ops : Array Oper} {info : Info} {id : Nat} {K : St → Prop} {s : St} (gs : List (List Nat)) (h : frzK gs s fun s' => DrawK P T N info id ops K s') : DrawK P T N info id ops K s := by
  obtain ⟨s', h1, h2⟩ := frzK_spec (N := N) h
  exact DrawK.le h2 h1
/-- A statement's own item, by its number. -/
theorem stAt_own {p : Pg} (h : chkB p = true) {j : Nat} {f : Pr} (hj : p.procs[j]? = some f) {a : Int} (h1 : (offN p.procs j : Int) + 1 ≤ a) (h2 : a ≤ (offN p.procs j + cntL f.body : Nat)) : ∃ t ∈ flL f.body, stAt p a = some t ∧ t.id = a := by
  obtain ⟨it, h3, h4⟩ := sheet_its hj (k := (a - 1).toNat) (by omega) (by omega)
  refine ⟨it.s, its_s h4, by unfold stAt; rw [h3]; rfl, ?_⟩
  obtain ⟨_, _, _, hlen, hsp⟩ := sheet_spec p
  obtain ⟨_, _, hle, hd⟩ := hsp j f hj
  have hids := its_ids (chk_parts h).1 hj
  have h5 : (itsOf p j f)[(a - 1).toNat - offN p.procs j]? = some it := by
    unfold itsOf
    rw [← hd, List.getElem?_drop, List.getElem?_take, if_pos (by omega), show offN p.procs j + ((a - 1).toNat - offN p.procs j) = (a - 1).toNat by omega]
    exact h3
  have h6 : ((itsOf p j f).map fun it => it.s.id)[(a - 1).toNat - offN p.procs j]? = some it.s.id := by rw [List.getElem?_map, h5]; rfl
  rw [hids] at h6
  unfold idsN at h6
  rw [List.getElem?_map, List.getElem?_range' (by omega)] at h6
  simp at h6
  omega
end Go.Ab
