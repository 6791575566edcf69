/- cfg: the procedures that can come to their end. -/
import Derived.Laws.StructEq
import Derived.ChangeKeysEq
import Derived.Test.YtngohbblmlokoaaGreatCfgF7
import Derived.Test.YtngohbblmlokoaaGreatCfgF10
import Derived.Test.YtngohbblmlokoaaGreatCfgF11
import Derived.Test.YtngohbblmlokoaaGreatCfgF14
set_option linter.unusedSimpArgs false
set_option linter.unusedVariables false
namespace Go.Ab
open Go.Proofs
def endS (p : Pg) (st : List Str × Bool) (k : Nat) : List Str × Bool := match p.procs[k]? with
  | some f => bif !(st.1.any fun s => f.name == s) && endsW (newWay p k f) f st.1 then (st.1 ++ [f.name], true) else st
  | none => st
def roundE (p : Pg) (out : List Str) : List Str × Bool := (List.range p.procs.length).foldl (endS p) (out, false)
def endsF (p : Pg) : Nat → List Str → List Str
  | 0, out => out
  | k + 1, out => bif (roundE p out).2 then endsF p k (roundE p out).1 else (roundE p out).1
/-- How many are not told yet. -/
def leftN (p : Pg) (out : List Str) : Nat := p.procs.countP fun f => !(out.any fun s => f.name == s)
theorem countP_less {α : Type} {p q : α → Bool} : ∀ {l : List α}, (∀ x ∈ l, q x = true → p x = true) → (∃ x ∈ l, p x = true ∧ q x = false) → l.countP q < l.countP p
  | [], _, h => by obtain ⟨x, hx, _⟩ := h; cases hx
  | a :: r, h1, h2 => by
    have hle : r.countP q ≤ r.countP p := List.countP_mono_left fun x hx => h1 x (List.mem_cons_of_mem _ hx)
    rw [List.countP_cons, List.countP_cons]
    have ha := h1 a List.mem_cons_self
    obtain ⟨x, hx, h3, h4⟩ := h2
    rcases List.mem_cons.1 hx with rfl | hx
    · rw [h3, h4]; simp; omega
    · have := countP_less (fun y hy => h1 y (List.mem_cons_of_mem _ hy)) ⟨x, hx, h3, h4⟩
      cases hq : q a with
      | true => rw [ha hq]; simp; omega
      | false => cases p a <;> simp <;> omega
theorem leftN_add {p : Pg} {out : List Str} {f : Pr} (hf : f ∈ p.procs) (h : (out.any fun s => f.name == s) = false) : leftN p (out ++ [f.name]) < leftN p out := by
  unfold leftN
  refine countP_less (fun g _ hg => ?_) ⟨f, hf, by rw [h]; rfl, by rw [List.any_append]; simp⟩
  rw [List.any_append] at hg
  cases hq : out.any fun s => g.name == s with
  | false => rfl
  | true => rw [hq] at hg; cases hg
def endsR (p : Pg) : List Str := bif chkB p then sortS (endsF p (p.procs.length + 1) []) else []
set_option maxHeartbeats 2000000 in
set_option maxRecDepth 100000 in
theorem cfg_Ends (p : Pg) (hf : Fit p) : SpecP Tryz.prog 26 [.agg p.cells] (fun r => r = eStrs (endsR p)) := by
  refine SpecP.body I_cfg_Ends tabOK Tryz.func26 rfl Tryz.call26 (by show 1 ≤ _; decide) ?_
  conv => whnf
  cases hc : chkB p with
  | false =>
    have e : endsR p = [] := by unfold endsR; rw [hc]; rfl
    have hA : ¬ (allB p).1 = 0 := by unfold chkB at hc; simpa using hc
    rw [e]
    repeat' (first | (refine CallK.pure (check_May p hf) (by repeat' (first | exact ArgP.nil | refine ArgP.cons ?_ ?_ | exact Sub.refl _ | exact Sub.tt rfl | exact Sub.ff rfl | exact Sub.int (by omega))) ?_; rintro _ rfl; conv => whnf) | (refine Br.dec2 (fun _ => ?_) (fun _ => ?_) <;> first | (exfalso; omega) | conv => whnf))
    all_goals first
      | exact ⟨_, .p Sub.nils, rfl⟩
      | (exfalso; exact hA (by assumption))
  | true =>
    obtain ⟨hg, hpl, hcn⟩ := chk_cnt hc
    have hA : (allB p).1 = 0 := by unfold chkB at hc; simpa using hc
    have e : endsR p = sortS (endsF p (p.procs.length + 1) []) := by unfold endsR; rw [hc]; rfl
    rw [e]
    repeat' (first | ((first | (refine CallK.pure (check_May p hf) (by repeat' (first | exact ArgP.nil | refine ArgP.cons ?_ ?_ | exact Sub.refl _ | exact Sub.tt rfl | exact Sub.ff rfl | exact Sub.int (by omega))) ?_; rintro _ rfl) | (refine CallK.pure (flat_New p (by omega) (by omega)) (.cons (Sub.refl _) .nil) ?_; rintro _ rfl)); conv => whnf) | (refine Br.dec2 (fun _ => ?_) (fun _ => ?_) <;> first | (exfalso; omega) | conv => whnf))
    have hl : (p.procs.map fun f => AV.agg f.cells).length = p.procs.length := List.length_map _
    have hl0 : leftN p [] ≤ p.procs.length := List.countP_le_length
    refine LoopK.inv tabOK (fun x : List Str × Bool => ⟨[(1, .p (.ip p.cells)), (3, .p (.ip (sheetOf p).cells)), (4, .hd 0 0 x.1.length), (5, .p (bv x.2))], [(0, .own 9 1 (x.1.map .str))]⟩)
      (fun x => x.1.length + leftN p x.1 ≤ p.procs.length ∧ (x.2 = true → ∃ k, leftN p x.1 < k ∧ endsF p k x.1 = endsF p (p.procs.length + 1) []) ∧ (x.2 = false → x.1 = endsF p (p.procs.length + 1) [])) (fun x => 2 * leftN p x.1 + x.2.toNat) ([], true)
      (Le.mk [(0, .own 9 1 [])] (by simp [Chunk.new0]; rfl) (by simp) (by simp) (.cons (.refl _) (.cons (.refl _) (.cons (.nil List.mem_cons_self) (.cons (.refl _) .nil)))) (.new List.mem_cons_self .nil))
      ⟨by simpa using hl0, fun _ => ⟨p.procs.length + 1, by show leftN p [] < _; omega, rfl⟩, by simp⟩ ?_
    rintro ⟨out, more⟩ ⟨h1, h2, h3⟩
    simp only at h1 h2 h3 ⊢
    cases more with
    | false =>
      have h3 := h3 rfl
      rw [← h3]
      conv => whnf
      repeat' (refine CallK.heap [(1000, 0)] 0 (by repeat' (first | exact ArgsH.nil | refine ArgsH.cons ?_ ?_ | exact LSub.refl _ | exact LSub.p Sub.nils | exact LSub.p (Sub.tt rfl) | exact LSub.p (Sub.ff rfl) | exact LSub.p (Sub.int (by omega)))) (by refine BlksH.cons (j := 0) rfl rfl ?_ ?_; exact CSub.refl _; exact BlksH.nil) (slices_Sort out (by omega)) rfl rfl ?_; rintro l' H' ⟨rfl, rfl⟩; conv => whnf)
      exact ⟨_, .hd rfl (by simp [sortS_len]), rfl⟩
    | true =>
      obtain ⟨k, hk1, hk2⟩ := h2 rfl
      clear h2 h3
      conv => whnf
      repeat' (intro (_ : _ ≤ 9223372036854775807); conv => whnf)
      refine LoopK.inv tabOK (fun x : Nat × List Str × Bool => ⟨[(1, .p (.ip p.cells)), (3, .p (.ip (sheetOf p).cells)), (4, .hd 0 0 x.2.1.length), (5, .p (bv x.2.2)), (15, .p (.sl (p.procs.map fun f => .agg f.cells))), (16, .p (.int .i64 (p.procs.map fun f => AV.agg f.cells).length)), (17, .p (.int .i64 x.1))], [(0, .own 9 1 (x.2.1.map .str))]⟩)
        (fun x => x.1 ≤ p.procs.length ∧ ((List.range p.procs.length).drop x.1).foldl (endS p) x.2 = roundE p out ∧ x.2.1.length + leftN p x.2.1 ≤ p.procs.length ∧ leftN p x.2.1 + x.2.2.toNat ≤ leftN p out ∧ (x.2.2 = false → x.2.1 = out)) (fun x => p.procs.length - x.1) (0, out, false) (Le.of_eq rfl) ⟨Nat.zero_le _, rfl, h1, Nat.le_refl _, fun _ => rfl⟩ ?_
      rintro ⟨m, o, b⟩ ⟨h4, h5, h6, h7, h8⟩
      simp only at h4 h5 h6 h7 h8 ⊢
      rcases Nat.lt_or_ge m p.procs.length with hm | hm
      rotate_left 1
      · rw [List.drop_eq_nil_of_le (by simpa using hm), List.foldl_nil] at h5
        obtain ⟨k', rfl⟩ : ∃ k', k = k' + 1 := ⟨k - 1, by omega⟩
        rw [endsF, ← h5] at hk2
        conv => whnf
        repeat' (refine Br.dec (fun _ => ?_) (fun _ => ?_) <;> first | (exfalso; omega) | conv => whnf)
        cases b with
        | true => exact ⟨(o, true), ⟨h6, fun _ => ⟨k', by show leftN p o < k'; simp only [Bool.toNat_true] at h7; omega, hk2⟩, by simp⟩, by simp only [Bool.toNat_true] at h7 ⊢; omega, Le.mk [] (by simp) (by simp) (by simp) (.cons (.refl _) (.cons (.refl _) (.cons (.refl _) (.cons (.refl _) .nil)))) (.cons rfl (.refl _) .nil)⟩
        | false => exact ⟨(o, false), ⟨h6, by simp, fun _ => hk2⟩, by simp only [Bool.toNat_true, Bool.toNat_false] at h7 ⊢; omega, Le.mk [] (by simp) (by simp) (by simp) (.cons (.refl _) (.cons (.refl _) (.cons (.refl _) (.cons (.refl _) .nil)))) (.cons rfl (.refl _) .nil)⟩
      have hmr : m < (List.range p.procs.length).length := by simpa using hm
      rw [List.drop_eq_getElem_cons hmr, List.foldl_cons, List.getElem_range] at h5
      have hkj : p.procs[m]? = some p.procs[m] := by simp
      obtain ⟨w1, w2, w3⟩ := chk_way hc hkj
      obtain ⟨_, _, _, hsl, hsp⟩ := sheet_spec p
      obtain ⟨_, _, hle, _⟩ := hsp m _ hkj
      have hreal : ∀ t ∈ (newWay p m p.procs[m]).real, t.src = 0 ∨ (1 ≤ t.src ∧ t.src ≤ (sheetOf p).l.length) := fun t ht => by
        have := (w2 t (normS_mem ht)).1
        omega
      have hrl : (newWay p m p.procs[m]).real.length ≤ 100000 := by
        have h9 := normS_len (stepsRaw p m p.procs[m])
        have h10 := stepsRaw_len p m p.procs[m]
        show (normS (stepsRaw p m p.procs[m])).length ≤ 100000
        omega
      have hE := way_Way_Ends (newWay p m p.procs[m]) p.procs[m] hkj hcn rfl hreal hrl o
      have hst : endS p (o, b) m = bif !(o.any fun s => p.procs[m].name == s) && endsW (newWay p m p.procs[m]) p.procs[m] o then (o ++ [p.procs[m].name], true) else (o, b) := by unfold endS; rw [hkj]
      rw [hst] at h5
      conv => whnf
      repeat' (first | ((first | (refine And.intro rfl ?_) | (refine And.intro ⟨by decide, by decide⟩ ?_) | (refine BsK.pure (fun x hx => by rcases List.mem_singleton.1 hx with rfl; rfl) rfl ?_) | (refine IdxK.map (by omega) (fun _ => rfl) ?_) | (refine Wr.i64 (by omega) (by omega) ?_) | (refine CallK.borrow (slices_Contains_string_string_ o p.procs[m].name) (.cons (.hd rfl (by simp)) (.cons (.p (Sub.refl _)) .nil)) (by rintro _ rfl; rfl) ?_; rintro _ rfl) | (refine CallK.pure (way_New p m p.procs[m] hkj (by omega) w1 w3) (.cons (Sub.refl _) (.cons (Sub.refl _) .nil)) ?_; rintro _ rfl) | (refine CallK.borrow hE (.cons (.p (Sub.refl _)) (.cons (.hd rfl (by simp)) .nil)) (by rintro _ rfl; rfl) ?_; rintro _ rfl) | (refine AppK.str1 (by simp) (by rw [List.length_map]; omega) ?_)); conv => whnf) | (refine Br.dec (fun _ => ?_) (fun _ => ?_) <;> first | (exfalso; omega) | conv => whnf) | (refine Br.n (fun _ => ?_) (fun _ => ?_) <;> conv => whnf) | (refine Br.b (fun _ => ?_) (fun _ => ?_) <;> conv => whnf))
      all_goals first
        | (have e1 : (!(o.any fun s => p.procs[m].name == s) && endsW (newWay p m p.procs[m]) p.procs[m] o) = true := by simp [*]; done
           rw [e1, cond_true] at h5
           have h9 := leftN_add (p := p) (out := o) (f := p.procs[m]) (List.getElem_mem hm) (by assumption)
           exact ⟨(m + 1, o ++ [p.procs[m].name], true), ⟨by simp only; omega, h5, by simp; omega, by show leftN p (o ++ [p.procs[m].name]) + 1 ≤ _; omega, by simp⟩, by simp only; omega, Le.of_eq (by simp only [List.length_append, List.map_append]; rfl)⟩)
        | (have e1 : (!(o.any fun s => p.procs[m].name == s) && endsW (newWay p m p.procs[m]) p.procs[m] o) = false := by simp [*]; done
           rw [e1, cond_false] at h5
           exact ⟨(m + 1, o, b), ⟨by simp only; omega, h5, h6, h7, h8⟩, by simp only; omega, Le.of_eq rfl⟩)
end Go.Ab
namespace Go.Ab
open Go.Proofs
/-- One step stands ahead of another one. -/
def ltSt (a b : Step) : Prop := rankI a.src < rankI b.src ∨ (rankI a.src = rankI b.src ∧ rankI a.dst < rankI b.dst)
def okS1 (s : Step) : Prop := okSt s ∧ s.kind = 1
theorem Step.eq_of {a b : Step} (h1 : a.src = b.src) (h2 : a.dst = b.dst) (h3 : a.kind = b.kind) : a = b := by
  cases a; cases b; simp_all
theorem stepLt_iff {a b : Step} : stepLt a b = true ↔ rankI a.src < rankI b.src ∨ (rankI a.src = rankI b.src ∧ (rankI a.dst < rankI b.dst ∨ (rankI a.dst = rankI b.dst ∧ a.kind < b.kind))) := by
  have h : stepLt a b = decide (stepC a b < 0) := rfl
  rw [h, decide_eq_true_eq]
  unfold stepC
  simp only [orI]
  split
  · rename_i h1
    rw [cmpI_zero] at h1
    split
    · rename_i h2
      rw [cmpI_zero] at h2
      split
      · rename_i h3
        rw [cmpI_zero] at h3
        omega
      · rw [cmpI_neg]; omega
    · rename_i h2
      rw [cmpI_zero] at h2
      rw [cmpI_neg]
      omega
  · rename_i h1
    rw [cmpI_zero] at h1
    rw [cmpI_neg]
    omega
theorem sortSt_sorted (l : List Step) : (sortSt l).Pairwise fun a b => stepLt b a = false := by
  have := List.pairwise_mergeSort (le := fun x y => !stepLt y x) (fun a b c h1 h2 => by
    simp only [Bool.not_eq_true'] at h1 h2 ⊢
    rw [Bool.eq_false_iff, ne_eq, stepLt_iff] at h1 h2 ⊢
    omega) (fun a b => by
    cases h1 : stepLt b a with
    | false => rfl
    | true =>
      have h2 : stepLt a b = false := by
        rw [Bool.eq_false_iff, ne_eq, stepLt_iff]
        rw [stepLt_iff] at h1
        omega
      rw [h2]
      rfl) l
  refine List.Pairwise.imp ?_ this
  intro a b h
  simpa using h
theorem sameStep_iff {a b : Step} (ha : okS1 a) (hb : okS1 b) : sameStep a b = true ↔ a = b := by
  unfold sameStep
  simp only [Bool.and_eq_true, decide_eq_true_eq]
  refine ⟨fun h => Step.eq_of h.1 h.2 (by rw [ha.2, hb.2]), fun h => by rw [h]; exact ⟨rfl, rfl⟩⟩
theorem ltSt_of {a b : Step} (ha : okS1 a) (hb : okS1 b) (h : stepLt b a = false) (hne : a ≠ b) : ltSt a b := by
  rw [Bool.eq_false_iff, ne_eq, stepLt_iff] at h
  unfold ltSt
  by_cases h1 : rankI a.src = rankI b.src
  · by_cases h2 : rankI a.dst = rankI b.dst
    · exact absurd (Step.eq_of (rankI_inj ha.1.1 hb.1.1 h1) (rankI_inj ha.1.2 hb.1.2 h2) (by rw [ha.2, hb.2])) hne
    · omega
  · omega
theorem ltSt_trans {a b c : Step} (h : ltSt a b) (h' : ltSt b c) : ltSt a c := by unfold ltSt at *; omega
theorem compFrom_spec : ∀ (l : List Step) (a : Step), okS1 a → (∀ s ∈ l, okS1 s) → (a :: l).Pairwise (fun a b => stepLt b a = false) → (a :: compFrom a l).Pairwise ltSt ∧ ∀ s, s ∈ a :: compFrom a l ↔ s ∈ a :: l
  | [], a, _, _, _ => ⟨by simp [compFrom], by simp [compFrom]⟩
  | b :: r, a, ha, hl, h => by
    have hb := hl b List.mem_cons_self
    have hr : ∀ s ∈ r, okS1 s := fun s hs => hl s (List.mem_cons_of_mem _ hs)
    rw [List.pairwise_cons] at h
    obtain ⟨h1, h2⟩ := h
    obtain ⟨i1, i2⟩ := compFrom_spec r b hb hr h2
    rw [compFrom]
    cases hs : sameStep b a with
    | true =>
      obtain rfl := (sameStep_iff hb ha).1 hs
      rw [cond_true]
      exact ⟨i1, fun s => by rw [i2]; simp⟩
    | false =>
      rw [cond_false]
      have hne : a ≠ b := fun e => by
        rw [(sameStep_iff hb ha).2 e.symm] at hs
        cases hs
      have hlt := ltSt_of ha hb (h1 b List.mem_cons_self) hne
      refine ⟨?_, fun s => by rw [List.mem_cons, i2, ← List.mem_cons (a := s) (b := a)]⟩
      rw [List.pairwise_cons]
      refine ⟨fun s hsm => ?_, i1⟩
      rcases List.mem_cons.1 hsm with rfl | hsm
      · exact hlt
      · exact ltSt_trans hlt ((List.pairwise_cons.1 i1).1 s hsm)
theorem normS_spec {l : List Step} (hok : ∀ s ∈ l, okS1 s) : (normS l).Pairwise ltSt ∧ ∀ s, s ∈ normS l ↔ s ∈ l := by
  have hp : ∀ s, s ∈ sortSt l ↔ s ∈ l := fun s => (sortSt_perm l).mem_iff
  have hs := sortSt_sorted l
  unfold normS
  cases hq : sortSt l with
  | nil =>
    rw [hq] at hp
    exact ⟨by simp [compF], fun s => by rw [← hp]; simp [compF]⟩
  | cons a r =>
    rw [hq] at hp hs
    have hok' : ∀ s ∈ a :: r, okS1 s := fun s h => hok s ((hp s).1 h)
    obtain ⟨h1, h2⟩ := compFrom_spec r a (hok' a List.mem_cons_self) (fun s h => hok' s (List.mem_cons_of_mem _ h)) hs
    exact ⟨h1, fun s => by rw [compF, h2, hp]⟩
theorem stepsRaw_ok1 {p : Pg} (h : chkB p = true) {j : Nat} {f : Pr} (hj : p.procs[j]? = some f) : ∀ s ∈ stepsRaw p j f, okS1 s := by
  obtain ⟨_, _, h3⟩ := chk_way h hj
  intro s hs
  refine ⟨h3 s hs, ?_⟩
  unfold stepsRaw at hs
  rcases List.mem_cons.1 hs with rfl | hs
  · rfl
  · obtain ⟨it, _, hz⟩ := List.mem_flatMap.1 hs
    obtain ⟨y, _, rfl⟩ := List.mem_map.1 hz
    rfl
/-- A procedure's steps: in order, each once. -/
theorem real_spec {p : Pg} (h : chkB p = true) {j : Nat} {f : Pr} (hj : p.procs[j]? = some f) : (newWay p j f).real.Pairwise ltSt ∧ ∀ s, s ∈ (newWay p j f).real ↔ s ∈ stepsRaw p j f := normS_spec (stepsRaw_ok1 h hj)
/-- Only the first one begins at the entry. -/
theorem raw_src0 {p : Pg} (h : chkB p = true) {j : Nat} {f : Pr} (hj : p.procs[j]? = some f) {s : Step} (hs : s ∈ stepsRaw p j f) : s = ⟨0, fstI p j f, 1⟩ ∨ (1 ≤ s.src ∧ s.src ≤ 9223372036854775806) := by
  obtain ⟨_, _, hcn⟩ := chk_cnt h
  obtain ⟨_, _, _, hlen, hsp⟩ := sheet_spec p
  obtain ⟨_, _, hle, _⟩ := hsp j f hj
  unfold stepsRaw at hs
  rcases List.mem_cons.1 hs with rfl | hs
  · exact .inl rfl
  · obtain ⟨it, hit, hz⟩ := List.mem_flatMap.1 hs
    obtain ⟨y, _, rfl⟩ := List.mem_map.1 hz
    have := body_id (chk_parts h).1 hj (its_s hit)
    refine .inr ?_
    simp only
    omega
theorem fst_head {p : Pg} (h : chkB p = true) {j : Nat} {f : Pr} (hj : p.procs[j]? = some f) : fstI p j f = headI f.body (-1) := by
  have h1 := may_ids (chk_parts h).1 hj
  unfold fstI
  cases hb : f.body with
  | nil => rw [cntL, if_neg (by omega)]; rfl
  | cons t r =>
    rw [hb, flL, flS_eq] at h1
    have h3 : 1 ≤ cntL (t :: r) := by rw [cntL, cntS_eq]; omega
    rw [if_pos (by omega)]
    have h4 := congrArg (fun l => l[0]?) h1
    simp only [List.cons_append, List.map_cons] at h4
    unfold idsN at h4
    rw [List.getElem?_map, List.getElem?_range' (by omega)] at h4
    simp at h4
    show _ = t.id
    omega
end Go.Ab
namespace Go.Ab
open Go.Proofs
theorem some_fit : Fit someP := by unfold Fit; decide
theorem some_chk : chkB someP = true := by kernel_rfl
theorem some_first : firstR someP [112] = (5, true) := by kernel_rfl
theorem some_behind : behR someP 7 = (8, true) := by kernel_rfl
def f0 : Pr := someP.procs[0]'(by decide)
def f1 : Pr := someP.procs[1]'(by decide)
theorem norm0 : normS (stepsRaw someP 0 f0) = [⟨0, 1, 1⟩, ⟨1, 2, 1⟩, ⟨2, 3, 1⟩, ⟨3, 4, 1⟩, ⟨4, -1, 1⟩] := by
  have h1 : stepsRaw someP 0 f0 = [⟨0, 1, 1⟩, ⟨1, 2, 1⟩, ⟨2, 3, 1⟩, ⟨3, 4, 1⟩, ⟨4, -1, 1⟩] := by kernel_rfl
  unfold normS sortSt
  rw [h1, List.mergeSort_of_pairwise (by decide)]
  rfl
theorem norm1 : normS (stepsRaw someP 1 f1) = [⟨0, 5, 1⟩, ⟨5, 6, 1⟩, ⟨6, 7, 1⟩, ⟨6, 8, 1⟩, ⟨7, -1, 1⟩, ⟨8, -1, 1⟩] := by
  have h1 : stepsRaw someP 1 f1 = [⟨0, 5, 1⟩, ⟨5, 6, 1⟩, ⟨6, 7, 1⟩, ⟨6, 8, 1⟩, ⟨7, -1, 1⟩, ⟨8, -1, 1⟩] := by kernel_rfl
  unfold normS sortSt
  rw [h1, List.mergeSort_of_pairwise (by decide)]
  rfl
theorem some_way : wayO someP [112] = some (newWay someP 1 f1) := by
  unfold wayO
  rw [some_chk]
  rfl
theorem some_of : (ofR someP [112]).length = 6 := by
  unfold ofR
  rw [some_way]
  show (normS (stepsRaw someP 1 f1)).length = 6
  rw [norm1]
  rfl
theorem some_live : (liveR someP [112]).length = 4 := by
  unfold liveR
  rw [some_way]
  show (liveL (newWay someP 1 f1)).length = 4
  unfold newWay
  simp only [norm1]
  kernel_rfl
theorem e00 : endsW (newWay someP 0 f0) f0 [] = false := by
  unfold newWay
  simp only [norm0]
  kernel_rfl
theorem e10 : endsW (newWay someP 1 f1) f1 [] = true := by
  unfold newWay
  simp only [norm1]
  kernel_rfl
theorem e01 : endsW (newWay someP 0 f0) f0 [[112]] = true := by
  unfold newWay
  simp only [norm0]
  kernel_rfl
theorem some_ends : (endsR someP).length = 2 := by
  have r1 : roundE someP [] = ([[112]], true) := by
    show endS someP (endS someP ([], false) 0) 1 = _
    have h1 : endS someP ([], false) 0 = ([], false) := by
      show (bif true && endsW (newWay someP 0 f0) f0 [] then _ else _) = _
      rw [e00]
      rfl
    rw [h1]
    show (bif true && endsW (newWay someP 1 f1) f1 [] then _ else _) = _
    rw [e10]
    rfl
  have r2 : roundE someP [[112]] = ([[112], [109, 97, 105, 110]], true) := by
    show endS someP (endS someP ([[112]], false) 0) 1 = _
    have h1 : endS someP ([[112]], false) 0 = ([[112], [109, 97, 105, 110]], true) := by
      show (bif true && endsW (newWay someP 0 f0) f0 [[112]] then _ else _) = _
      rw [e01]
      rfl
    rw [h1]
    rfl
  have r3 : roundE someP [[112], [109, 97, 105, 110]] = ([[112], [109, 97, 105, 110]], false) := by
    show endS someP (endS someP ([[112], [109, 97, 105, 110]], false) 0) 1 = _
    rfl
  have h : endsF someP (someP.procs.length + 1) [] = [[112], [109, 97, 105, 110]] := by
    show endsF someP 3 [] = _
    rw [endsF, r1, cond_true, endsF, r2, cond_true, endsF, r3]
    rfl
  unfold endsR
  rw [some_chk, cond_true, h, sortS_len]
  rfl
set_option maxHeartbeats 2000000 in
set_option maxRecDepth 100000 in
theorem whittlerlaw15_flowing : SpecP Tryz.prog 15 [] (fun r => r = .tt) := by
  have hB := cfg_Behind someP some_fit 7
  rw [some_behind] at hB
  have hF := cfg_First someP some_fit [112]
  rw [some_first] at hF
  have hO := some_of
  have hL := some_live
  have hE := some_ends
  refine SpecP.body I_whittlerlaw15_flowing tabOK Tryz.func15 rfl Tryz.call15 (by show 0 ≤ _; decide) ?_
  conv => whnf
  repeat' (first | ((first | (intro (_ : _ ≤ 9223372036854775807)) | (refine And.intro rfl ?_) | (refine CallK.pure whittlerref3_Some .nil ?_; rintro _ rfl) | (refine CallK.pure hB (.cons (Sub.refl _) (.cons (Sub.refl _) .nil)) ?_; rintro _ rfl) | (refine CallK.pure hF (.cons (Sub.refl _) (.cons (Sub.refl _) .nil)) ?_; rintro _ rfl) | (refine CallK.pure (cfg_Of someP some_fit [112]) (.cons (Sub.refl _) (.cons (Sub.refl _) .nil)) ?_; rintro _ rfl) | (refine CallK.pure (cfg_Live someP some_fit [112]) (.cons (Sub.refl _) (.cons (Sub.refl _) .nil)) ?_; rintro _ rfl) | (refine CallK.pure (cfg_Ends someP some_fit) (.cons (Sub.refl _) .nil) ?_; rintro _ rfl)); conv => whnf) | (refine Br.dec (fun _ => ?_) (fun _ => ?_) <;> first | (exfalso; omega) | conv => whnf) | (refine Br.b (fun _ => ?_) (fun _ => ?_) <;> conv => whnf))
  all_goals first
    | exact ⟨_, .p (Sub.tt' (by rw [List.length_map, hE]; rfl)), rfl⟩
    | (exfalso; simp only [List.length_map] at *; omega)
    | (exfalso; simp_all; done)
end Go.Ab
namespace Go.Ab
open Go.Proofs
theorem step_rep {σ : Mem} {a : Step} {v : Value} (h : Rep σ (.agg a.cells) v) : v = .agg #[.int .i64 a.src, .int .i64 a.dst, .int .i64 a.kind] := by
  cases h with
  | agg cs vs u hn hc hr =>
    have hs : vs.size = 3 := hn
    have g : ∀ (j : Nat) (n : Int), a.cells[j]? = some (.int .i64 n) → vs[j]? = some (.int .i64 n) := fun j n hj => by
      have h1 := hc j _ hj
      have h2 := hr j _ hj
      cases hu : u j <;> rw [hu] at h2 <;> cases h2
      rw [h1, hu]
    congr 1
    apply Array.ext_getElem?
    intro i
    match i with
    | 0 => exact g 0 _ rfl
    | 1 => exact g 1 _ rfl
    | 2 => exact g 2 _ rfl
    | i + 3 => rw [Array.getElem?_eq_none (by omega), Array.getElem?_eq_none (by simp)]
theorem ValO.steps {hr : Bool} {s : St} {o : Oper} {K : LV → Prop} {x y : Operand} {u : TypeId} (hop : o.op = .binOp .eql 49 x y u) {a b : Step} (hx : evalO s.sl x = .p (.agg a.cells)) (hy : evalO s.sl y = .p (.agg b.cells))
    (hK : K (.p (.bool (decide (a = b))))) : ValO Tryz.prog hr s o K := by
  refine ⟨fun σ β ac w hs _ => ⟨_, .bool (decide (a = b)), hK, .p (.bool _), fun w' _ _ => ?_⟩⟩
  have h1 : ac.eval x = .agg #[.int .i64 a.src, .int .i64 a.dst, .int .i64 a.kind] := by
    have := evalO_rep hs x
    rw [hx] at this
    cases this with
    | p h => exact step_rep h
  have h2 : ac.eval y = .agg #[.int .i64 b.src, .int .i64 b.dst, .int .i64 b.kind] := by
    have := evalO_rep hs y
    rw [hy] at this
    cases this with
    | p h => exact step_rep h
  have hu : Tryz.prog.underlying 49 = some (.struct (Tryz.prog.fieldsOf 49)) := by kernel_rfl
  have hi : Tryz.prog.underlying 3 = some (.int .i64) := by kernel_rfl
  have hf : (Tryz.prog.fieldsOf 49).toList = (match ty49.desc with | .struct fs => fs.toList | _ => []) := by kernel_rfl
  have he : (Op.equalIn 10000 49 (.agg #[.int .i64 a.src, .int .i64 a.dst, .int .i64 a.kind]) (.agg #[.int .i64 b.src, .int .i64 b.dst, .int .i64 b.kind])).run Tryz.prog w' = .ok (decide (a = b)) w' := by
    rw [run_equalIn_struct w' 9999 _ _ _ hu (by kernel_rfl), hf]
    simp only [ty49, Op.eqFields]
    have p0 : ∀ x y z : Int, (part 3 #[.int .i64 x, .int .i64 y, .int .i64 z] 0).run Tryz.prog w' = .ok (.int .i64 x) w' := fun x y z => run_part_plain w' (by kernel_rfl) rfl
    have p1 : ∀ x y z : Int, (part 3 #[.int .i64 x, .int .i64 y, .int .i64 z] 1).run Tryz.prog w' = .ok (.int .i64 y) w' := fun x y z => run_part_plain w' (by kernel_rfl) rfl
    have p2 : ∀ x y z : Int, (part 3 #[.int .i64 x, .int .i64 y, .int .i64 z] 2).run Tryz.prog w' = .ok (.int .i64 z) w' := fun x y z => run_part_plain w' (by kernel_rfl) rfl
    have ei : ∀ x y : Int, (Op.equalIn 9999 3 (.int .i64 x) (.int .i64 y)).run Tryz.prog w' = .ok (x == y) w' := fun a b => run_equalIn_int (P := Tryz.prog) w' 9998 3 .i64 .i64 a b hi
    have e : decide (a = b) = ((a.src == b.src) && ((a.dst == b.dst) && (a.kind == b.kind))) := by
      cases a; cases b
      simp only [Step.mk.injEq, Bool.decide_and]
      rfl
    simp only [ne_eq, show ¬ ("From" = "_") by decide, show ¬ ("To" = "_") by decide, show ¬ ("Kind" = "_") by decide, not_false_eq_true, if_true, Sem.run_bind, p0, p1, p2, Result.andThen_ok, ei, Sem.run_ite, Sem.run_pure, e]
    cases (a.src == b.src) <;> cases (a.dst == b.dst) <;> cases (a.kind == b.kind) <;> simp
  simp only [execOp, hop, h1, h2, Sem.run_bind, run_eqGuard_agg _ _ _ _ _ _ _ (show Tryz.prog.eqGuardType Tryz.prog.depth 49 = false by kernel_rfl), Result.andThen_ok, run_eql_struct, he, Sem.run_pure]
end Go.Ab
namespace Go.Ab
open Go.Proofs
end Go.Ab
namespace Go.Ab
open Go.Proofs
def hasI (l : List Int) (x : Int) : Bool := l.any fun y => decide (x = y)
end Go.Ab
namespace Go.Ab
open Go.Proofs
theorem nodup_len {α : Type} [DecidableEq α] : ∀ {l m : List α}, l.Nodup → (∀ s ∈ l, s ∈ m) → l.length ≤ m.length
  | [], m, _, _ => Nat.zero_le _
  | a :: r, m, h, hs => by
    rw [List.nodup_cons] at h
    have ha := hs a List.mem_cons_self
    have h1 := nodup_len (m := m.erase a) h.2 fun s hsr => (List.mem_erase_of_ne (fun e => h.1 (by rw [← e]; exact hsr))).2 (hs s (List.mem_cons_of_mem _ hsr))
    rw [List.length_erase_of_mem ha] at h1
    have := List.length_pos_of_mem ha
    simp only [List.length_cons]
    omega
theorem its_ids {p : Pg} (hm : mayB p = true) {j : Nat} {f : Pr} (hj : p.procs[j]? = some f) : (itsOf p j f).map (fun it => it.s.id) = idsN (offN p.procs j) (cntL f.body) := by
  rw [← may_ids hm hj, ← itL_s (j : Nat) 0 (-1) 0 (offN p.procs j) f.body, List.map_map]
  rfl
theorem hasI_iff {l : List Int} {x : Int} : hasI l x = true ↔ x ∈ l := by
  unfold hasI
  rw [List.any_eq_true]
  refine ⟨fun ⟨y, h1, h2⟩ => by simp at h2; exact h2 ▸ h1, fun h => ⟨x, h, by simp⟩⟩
theorem idsN_has {n c : Nat} {a : Int} (h1 : (n : Int) + 1 ≤ a) (h2 : a ≤ (n + c : Nat)) : a ∈ idsN n c := by
  unfold idsN
  refine List.mem_map.2 ⟨a.toNat, List.mem_range'.2 ⟨a.toNat - (n + 1), by omega, by omega⟩, by omega⟩
end Go.Ab
namespace Go.Ab
open Go.Proofs
end Go.Ab
namespace Go.Ab
open Go.Proofs
/-- A way of steps. -/
inductive Rch {α : Type} (R : α → α → Prop) (a : α) : α → Prop
  | refl : Rch R a a
  | tail {b c : α} (h : Rch R a b) (hr : R b c) : Rch R a c
theorem Rch.trans {α : Type} {R : α → α → Prop} {a b c : α} (h : Rch R a b) (h' : Rch R b c) : Rch R a c := by
  induction h' with
  | refl => exact h
  | tail _ hr ih => exact .tail ih hr
theorem Rch.head {α : Type} {R : α → α → Prop} {a b c : α} (hr : R a b) (h : Rch R b c) : Rch R a c := Rch.trans (.tail .refl hr) h
theorem Rch.mono {α : Type} {R R' : α → α → Prop} (h : ∀ x y, R x y → R' x y) {a b : α} (hr : Rch R a b) : Rch R' a b := by
  induction hr with
  | refl => exact .refl
  | tail _ hr ih => exact .tail ih (h _ _ hr)
/-- What is closed and holds the beginning holds all that ways lead to. -/
theorem Rch.closed {α : Type} {R : α → α → Prop} {S : α → Prop} (hS : ∀ x y, S x → R x y → S y) {a b : α} (ha : S a) (h : Rch R a b) : S b := by
  induction h with
  | refl => exact ha
  | tail _ hr ih => exact hS _ _ ih hr
structure WkM (n : Nat) (st : List Bool × List Int) : Prop where
  inv : wkInv n st
  mem : ∀ x, x ∈ st.2 ↔ (0 ≤ x ∧ x < n) ∧ st.1.getD x.toNat false = true
theorem WkM.start (n : Nat) : WkM n (List.replicate n false, []) := ⟨wkInv_start n, fun x => by
  simp only [List.not_mem_nil, false_iff, not_and]
  intro _
  rw [List.getD_eq_getElem?_getD, List.getElem?_replicate]
  split <;> simp⟩
theorem WkM.see {n : Nat} {st : List Bool × List Int} (h : WkM n st) {b : Int} (hb : 0 ≤ b ∧ b < n) : WkM n (seeW st b) ∧ (∀ x, x ∈ (seeW st b).2 ↔ x ∈ st.2 ∨ x = b) ∧ st.2 <+: (seeW st b).2 := by
  have hi := seeW_inv h.inv hb
  cases hs : st.1.getD b.toNat false with
  | true =>
    have e : seeW st b = st := by unfold seeW; rw [hs]; rfl
    rw [e]
    refine ⟨h, fun x => ⟨.inl, fun hx => ?_⟩, List.prefix_refl _⟩
    rcases hx with hx | rfl
    · exact hx
    · exact (h.mem _).2 ⟨hb, hs⟩
  | false =>
    have e : seeW st b = (st.1.set b.toNat true, st.2 ++ [b]) := by unfold seeW; rw [hs]; rfl
    rw [e] at hi ⊢
    have hlen := h.inv.1
    refine ⟨⟨hi, fun x => ?_⟩, fun x => by simp, List.prefix_append _ _⟩
    rw [List.mem_append, List.mem_singleton, h.mem]
    simp only [List.getD_eq_getElem?_getD, List.getElem?_set]
    by_cases hx : x = b
    · subst hx
      rw [if_pos rfl, if_pos (by omega)]
      simp [hb]
    · constructor
      · rintro (⟨h1, h2⟩ | h2)
        · refine ⟨h1, ?_⟩
          rw [if_neg (by omega)]
          exact h2
        · exact absurd h2 hx
      · rintro ⟨h1, h2⟩
        rw [if_neg (by omega)] at h2
        exact .inl ⟨h1, h2⟩
theorem WkM.fold {n : Nat} : ∀ (l : List Int) {st : List Bool × List Int}, WkM n st → (∀ b ∈ l, 0 ≤ b ∧ b < n) → WkM n (l.foldl seeW st) ∧ (∀ x, x ∈ (l.foldl seeW st).2 ↔ x ∈ st.2 ∨ x ∈ l) ∧ st.2 <+: (l.foldl seeW st).2
  | [], st, h, _ => ⟨h, fun x => by simp, List.prefix_refl _⟩
  | b :: r, st, h, hl => by
    obtain ⟨h1, h2, h3⟩ := h.see (hl b List.mem_cons_self)
    obtain ⟨h4, h5, h6⟩ := WkM.fold r h1 fun c hc => hl c (List.mem_cons_of_mem _ hc)
    refine ⟨h4, fun x => ?_, h3.trans h6⟩
    rw [List.foldl_cons, h5, h2, List.mem_cons, or_assoc]
/-- One place goes on to another one. -/
def rowR (rows : List (List Int)) (x y : Int) : Prop := y ∈ rows.getD x.toNat []
theorem row_in {n : Nat} {rows : List (List Int)} (hr : rowsIn n rows) {x y : Int} (h : rowR rows x y) : 0 ≤ y ∧ y < n := by
  unfold rowR at h
  rw [List.getD_eq_getElem?_getD] at h
  cases hq : rows[x.toNat]? with
  | none => rw [hq] at h; simp at h
  | some r => rw [hq] at h; exact hr.2 r (List.mem_of_getElem? hq) y h
theorem prefix_get {α : Type} {l m : List α} (h : l <+: m) {i : Nat} {a : α} (ha : l[i]? = some a) : m[i]? = some a := by
  obtain ⟨t, rfl⟩ := h
  rw [List.getElem?_append_left (List.getElem?_eq_some_iff.1 ha).1]
  exact ha
theorem walk_spec {n : Nat} {rows : List (List Int)} (hr : rowsIn n rows) : ∀ (k i : Nat) {st : List Bool × List Int}, WkM n st → i ≤ st.2.length → n + 1 ≤ k + i → (∀ (m : Nat) (a : Int), m < i → st.2[m]? = some a → ∀ b, rowR rows a b → b ∈ st.2) →
    WkM n (walkF rows k i st) ∧ (∀ x ∈ st.2, x ∈ (walkF rows k i st).2) ∧ (∀ x ∈ (walkF rows k i st).2, ∀ b, rowR rows x b → b ∈ (walkF rows k i st).2) ∧ (∀ S : Int → Prop, (∀ x ∈ st.2, S x) → (∀ x b, S x → rowR rows x b → S b) → ∀ x ∈ (walkF rows k i st).2, S x)
  | 0, i, st, h, hi, hk, _ => by
    have := wkInv_len h.inv
    omega
  | k + 1, i, st, h, hi, hk, hc => by
    rw [walkF]
    split
    · rename_i a ha
      have hlt := (List.getElem?_eq_some_iff.1 ha).1
      have hrow : ∀ b ∈ rows.getD a.toNat [], 0 ≤ b ∧ b < n := fun b hb => row_in hr hb
      obtain ⟨h1, h2, h3⟩ := h.fold (rows.getD a.toNat []) hrow
      obtain ⟨h4, h5, h6, h7⟩ := walk_spec hr k (i + 1) h1 (Nat.le_trans hlt h3.length_le) (by omega) fun m c hm hmc b hb => by
        rw [h2]
        rcases Nat.lt_or_ge m i with hmi | hmi
        · have hml : m < st.2.length := by omega
          have hmc' : st.2[m]? = some c := by
            have := prefix_get h3 (List.getElem?_eq_getElem hml)
            rw [List.getElem?_eq_getElem hml, ← this, hmc]
          exact .inl (hc m c hmi hmc' b hb)
        · obtain rfl : m = i := by omega
          have := prefix_get h3 ha
          rw [this] at hmc
          cases hmc
          exact .inr hb
      refine ⟨h4, fun x hx => h5 x ((h2 x).2 (.inl hx)), h6, fun S hS hcl => h7 S (fun x hx => ?_) hcl⟩
      rcases (h2 x).1 hx with hx | hx
      · exact hS x hx
      · exact hcl a x (hS a (List.mem_of_getElem? ha)) hx
    · rename_i ha
      have hlen : st.2.length ≤ i := List.getElem?_eq_none_iff.1 ha
      refine ⟨h, fun x hx => hx, fun x hx b hb => ?_, fun S hS _ => hS⟩
      obtain ⟨m, hm⟩ := List.mem_iff_getElem?.1 hx
      exact hc m x (by have := (List.getElem?_eq_some_iff.1 hm).1; omega) hm b hb
theorem start_spec {n : Nat} : ∀ (l : List Int) {st : List Bool × List Int}, WkM n st → WkM n (l.foldl (fun st a => bif hasB n a then seeW st a else st) st) ∧ ∀ x, x ∈ (l.foldl (fun st a => bif hasB n a then seeW st a else st) st).2 ↔ x ∈ st.2 ∨ (x ∈ l ∧ hasB n x = true)
  | [], st, h => ⟨h, fun x => by simp⟩
  | a :: r, st, h => by
    rw [List.foldl_cons]
    cases hb : hasB n a with
    | true =>
      obtain ⟨h1, h2, _⟩ := h.see (hasB_iff hb)
      obtain ⟨h3, h4⟩ := start_spec r h1
      rw [cond_true]
      refine ⟨h3, fun x => ?_⟩
      rw [h4, h2, List.mem_cons]
      constructor
      · rintro ((h5 | rfl) | ⟨h5, h6⟩)
        · exact .inl h5
        · exact .inr ⟨.inl rfl, hb⟩
        · exact .inr ⟨.inr h5, h6⟩
      · rintro (h5 | ⟨rfl | h5, h6⟩)
        · exact .inl (.inl h5)
        · exact .inl (.inr rfl)
        · exact .inr ⟨h5, h6⟩
    | false =>
      obtain ⟨h3, h4⟩ := start_spec r h
      rw [cond_false]
      refine ⟨h3, fun x => ?_⟩
      rw [h4, List.mem_cons]
      constructor
      · rintro (h5 | ⟨h5, h6⟩)
        · exact .inl h5
        · exact .inr ⟨.inr h5, h6⟩
      · rintro (h5 | ⟨rfl | h5, h6⟩)
        · exact .inl h5
        · rw [hb] at h6; cases h6
        · exact .inr ⟨h5, h6⟩
theorem lstI_iff : ∀ (l : List Bool) (i : Nat) (y : Int), y ∈ lstI i l ↔ ∃ k : Nat, l[k]? = some true ∧ y = ((i + k : Nat) : Int)
  | [], i, y => by simp [lstI]
  | b :: r, i, y => by
    have ih := lstI_iff r (i + 1) y
    have key : (∃ k : Nat, (b :: r)[k]? = some true ∧ y = ((i + k : Nat) : Int)) ↔ (b = true ∧ y = (i : Int)) ∨ ∃ k : Nat, r[k]? = some true ∧ y = ((i + 1 + k : Nat) : Int) := by
      constructor
      · rintro ⟨k, h1, h2⟩
        cases k with
        | zero => simp at h1; exact .inl ⟨h1, by simpa using h2⟩
        | succ k => exact .inr ⟨k, by simpa using h1, by rw [h2]; omega⟩
      · rintro (⟨h1, h2⟩ | ⟨k, h1, h2⟩)
        · exact ⟨0, by simp [h1], by simpa using h2⟩
        · exact ⟨k + 1, by simpa using h1, by rw [h2]; omega⟩
    rw [key, ← ih, lstI]
    cases b <;> simp
/-- What the program reckons as come to is what ways lead to. -/
theorem reach_iff {n : Nat} {rows : List (List Int)} (hr : rowsIn n rows) (l : List Int) (y : Int) : y ∈ lstI 0 (reachB rows l) ↔ ∃ a ∈ l, hasB n a = true ∧ Rch (rowR rows) a y := by
  obtain ⟨h1, h2⟩ := start_spec (n := n) l (WkM.start n)
  obtain ⟨h3, h4, h5, h6⟩ := walk_spec hr (rows.length + 1) 0 (st := startW rows.length l) (by rw [hr.1]; exact h1) (Nat.zero_le _) (by rw [hr.1]; omega) (fun m a hm => by omega)
  have hst : ∀ x, x ∈ (startW rows.length l).2 ↔ x ∈ l ∧ hasB n x = true := fun x => by
    rw [hr.1]
    unfold startW
    rw [h2]
    simp
  have hmem : ∀ y, y ∈ lstI 0 (reachB rows l) ↔ y ∈ (walkF rows (rows.length + 1) 0 (startW rows.length l)).2 := fun y => by
    rw [lstI_iff, h3.mem]
    show (∃ k : Nat, (walkF rows (rows.length + 1) 0 (startW rows.length l)).1[k]? = some true ∧ _) ↔ _
    constructor
    · rintro ⟨k, h7, h8⟩
      have hlt := (List.getElem?_eq_some_iff.1 h7).1
      rw [h3.inv.1] at hlt
      refine ⟨by omega, ?_⟩
      rw [h8, List.getD_eq_getElem?_getD]
      simp [h7]
    · rintro ⟨h7, h8⟩
      have hlt : y.toNat < (walkF rows (rows.length + 1) 0 (startW rows.length l)).1.length := by rw [h3.inv.1]; omega
      refine ⟨y.toNat, ?_, by omega⟩
      rw [List.getD_eq_getElem?_getD, List.getElem?_eq_getElem hlt] at h8
      rw [List.getElem?_eq_getElem hlt]
      simpa using h8
  rw [hmem]
  constructor
  · intro hy
    refine h6 (fun y => ∃ a ∈ l, hasB n a = true ∧ Rch (rowR rows) a y) (fun x hx => ?_) (fun x b ⟨a, h7, h8, h9⟩ hb => ⟨a, h7, h8, .tail h9 hb⟩) y hy
    obtain ⟨h7, h8⟩ := (hst x).1 hx
    exact ⟨x, h7, h8, .refl⟩
  · rintro ⟨a, h7, h8, h9⟩
    exact h9.closed (S := fun y => y ∈ (walkF rows (rows.length + 1) 0 (startW rows.length l)).2) (fun x b hx hb => h5 x hx b hb) (h4 a ((hst a).2 ⟨h7, h8⟩))
end Go.Ab
namespace Go.Ab
open Go.Proofs
theorem insI_mem {l : List Int} {k : Nat} {b x : Int} : x ∈ insI l k b ↔ x ∈ l ∨ x = b := by
  unfold insI
  rw [List.mem_append, List.mem_cons]
  have : x ∈ l ↔ x ∈ l.take k ∨ x ∈ l.drop k := by rw [← List.mem_append, List.take_append_drop]
  rw [this]
  constructor
  · rintro (h | h | h)
    · exact .inl (.inl h)
    · exact .inr h
    · exact .inl (.inr h)
  · rintro ((h | h) | h)
    · exact .inl h
    · exact .inr (.inr h)
    · exact .inr (.inl h)
theorem addE_row {n : Nat} {g : List (List Int) × List (List Int)} (hl : g.1.length = n) (e : Int × Int) {x y : Int} (hx : 0 ≤ x ∧ x < n) : y ∈ (addE n g e).1.getD x.toNat [] ↔ y ∈ g.1.getD x.toNat [] ∨ ((x, y) = e ∧ hasB n y = true) := by
  rw [addE_1]
  cases hc : (hasB n e.1 && hasB n e.2 && !(g.1.getD e.1.toNat []).contains e.2) with
  | true =>
    simp only [Bool.and_eq_true, Bool.not_eq_true'] at hc
    obtain ⟨⟨h1, h2⟩, _⟩ := hc
    have h3 := hasB_iff h1
    rw [cond_true]
    unfold putR
    rw [List.getD_eq_getElem?_getD, List.getElem?_set]
    by_cases he : e.1.toNat = x.toNat
    · rw [if_pos he, if_pos (by omega)]
      simp only [Option.getD_some]
      rw [insI_mem, ← he]
      have : x = e.1 := by omega
      constructor
      · rintro (h | h)
        · exact .inl h
        · exact .inr ⟨by rw [this, h], by rw [h]; exact h2⟩
      · rintro (h | ⟨h, _⟩)
        · exact .inl h
        · exact .inr (by rw [← h])
    · rw [if_neg he, ← List.getD_eq_getElem?_getD]
      constructor
      · exact .inl
      · rintro (h | ⟨h, _⟩)
        · exact h
        · exact absurd (by rw [← h]) he
  | false =>
    rw [cond_false]
    constructor
    · exact .inl
    · rintro (h | ⟨rfl, h⟩)
      · exact h
      · have h1 : hasB n x = true := by unfold hasB; simp [hx]
        simp only [h1, h, Bool.true_and, Bool.not_eq_false'] at hc
        simpa using hc
theorem addE_len {n : Nat} {g : List (List Int) × List (List Int)} (hl : g.1.length = n) (e : Int × Int) : (addE n g e).1.length = n := by
  rw [addE_1]
  cases (hasB n e.1 && hasB n e.2 && !(g.1.getD e.1.toNat []).contains e.2) with
  | true => rw [cond_true]; unfold putR; rw [List.length_set]; exact hl
  | false => exact hl
theorem graph_row {n : Nat} {x y : Int} (hx : 0 ≤ x ∧ x < n) : ∀ (l : List (Int × Int)) {g : List (List Int) × List (List Int)}, g.1.length = n → (y ∈ (l.foldl (addE n) g).1.getD x.toNat [] ↔ y ∈ g.1.getD x.toNat [] ∨ ((x, y) ∈ l ∧ hasB n y = true))
  | [], g, _ => by simp
  | e :: r, g, h => by
    rw [List.foldl_cons, graph_row hx r (addE_len h e), addE_row h e hx, List.mem_cons]
    constructor
    · rintro ((h1 | ⟨h1, h2⟩) | ⟨h1, h2⟩)
      · exact .inl h1
      · exact .inr ⟨.inl h1, h2⟩
      · exact .inr ⟨.inr h1, h2⟩
    · rintro (h1 | ⟨h1 | h1, h2⟩)
      · exact .inl (.inl h1)
      · exact .inl (.inr ⟨h1, h2⟩)
      · exact .inr ⟨h1, h2⟩
theorem graph_rowR {n : Nat} {l : List (Int × Int)} {x y : Int} (hx : 0 ≤ x ∧ x < n) : rowR (graphE n l).1 x y ↔ (x, y) ∈ l ∧ hasB n y = true := by
  unfold rowR graphE
  rw [graph_row hx l (by simp)]
  have : (List.replicate n ([] : List Int)).getD x.toNat [] = [] := by
    rw [List.getD_eq_getElem?_getD, List.getElem?_replicate]
    split <;> rfl
  rw [this]
  simp
/-- What a graph of edges comes to from a node. -/
theorem graph_reach {n : Nat} {l : List (Int × Int)} (h0 : 0 < n) (y : Int) : y ∈ lstI 0 (reachB (graphE n l).1 [0]) ↔ Rch (fun a b => (a, b) ∈ l ∧ hasB n b = true) 0 y := by
  rw [reach_iff (graphE_in n l).1]
  have hs : hasB n 0 = true := by unfold hasB; simp; omega
  constructor
  · rintro ⟨a, ha, _, h⟩
    obtain rfl : a = 0 := by simpa using ha
    exact (h.closed (S := fun x : Int => (0 ≤ x ∧ x < n) ∧ Rch (fun a b => (a, b) ∈ l ∧ hasB n b = true) 0 x) (fun x y ⟨h1, h2⟩ h3 => by
      have h4 := (graph_rowR h1).1 h3
      exact ⟨hasB_iff h4.2, .tail h2 h4⟩) ⟨⟨by omega, by omega⟩, .refl⟩).2
  · intro h
    refine ⟨0, by simp, hs, ?_⟩
    exact (h.closed (S := fun x : Int => (0 ≤ x ∧ x < n) ∧ Rch (rowR (graphE n l).1) 0 x) (fun x y ⟨h1, h2⟩ h3 => ⟨hasB_iff h3.2, .tail h2 ((graph_rowR h1).2 h3)⟩) ⟨⟨by omega, by omega⟩, .refl⟩).2
/-- A step leads from one place to another one. -/
def stR (F : List Step) (a b : Int) : Prop := ∃ s ∈ F, s.src = a ∧ s.dst = b
/-- A place of a procedure: the entry, the exit, a statement. -/
def plP (p : Pg) (j : Nat) (f : Pr) (x : Int) : Prop := x = 0 ∨ x = -1 ∨ ((offN p.procs j : Int) + 1 ≤ x ∧ x ≤ (offN p.procs j + cntL f.body : Nat))
def ixI (p : Pg) (j : Nat) (f : Pr) (x : Int) : Int := indexI (loI p j) (hiI p j f) (cntL f.body + 2 : Nat) x
theorem ix_rng {p : Pg} {j : Nat} {f : Pr} {x : Int} (h : plP p j f x) : 0 ≤ ixI p j f x ∧ ixI p j f x < (cntL f.body + 2 : Nat) := by
  unfold ixI indexI loI hiI
  unfold plP at h
  (repeat' split) <;> omega
theorem ix_inj {p : Pg} {j : Nat} {f : Pr} {x y : Int} (hx : plP p j f x) (hy : plP p j f y) (h : ixI p j f x = ixI p j f y) : x = y := by
  unfold ixI indexI loI hiI at h
  unfold plP at hx hy
  (repeat' split at h) <;> omega
theorem step_reach {p : Pg} {j : Nat} {f : Pr} {F : List Step} (hF : ∀ s ∈ F, plP p j f s.src ∧ plP p j f s.dst) {y : Int} (hy : plP p j f y) :
    ixI p j f y ∈ lstI 0 (reachB (graphE (cntL f.body + 2) (F.map (ixP p j f (cntL f.body + 2 : Nat)))).1 [0]) ↔ Rch (stR F) 0 y := by
  rw [graph_reach (by omega)]
  have e0 : ixI p j f 0 = 0 := by unfold ixI indexI; rw [if_pos rfl]
  have p0 : plP p j f 0 := .inl rfl
  constructor
  · intro h
    obtain ⟨z, h1, h2, h3⟩ := h.closed (S := fun i => ∃ z, plP p j f z ∧ ixI p j f z = i ∧ Rch (stR F) 0 z) (by
      rintro a b ⟨z, h1, h2, h3⟩ ⟨h4, _⟩
      obtain ⟨s, hs, he⟩ := List.mem_map.1 h4
      obtain ⟨h5, h6⟩ := hF s hs
      have e1 : ixI p j f s.src = a := congrArg Prod.fst he
      have e2 : ixI p j f s.dst = b := congrArg Prod.snd he
      have e3 : s.src = z := ix_inj h5 h1 (by rw [e1, h2])
      exact ⟨s.dst, h6, e2, .tail h3 ⟨s, hs, e3, rfl⟩⟩) ⟨0, p0, e0, .refl⟩
    rw [← ix_inj h1 hy h2]
    exact h3
  · intro h
    have := h.closed (S := fun z => plP p j f z ∧ Rch (fun a b => (a, b) ∈ F.map (ixP p j f (cntL f.body + 2 : Nat)) ∧ hasB (cntL f.body + 2) b = true) 0 (ixI p j f z)) (by
      rintro a b ⟨h1, h2⟩ ⟨s, hs, rfl, rfl⟩
      obtain ⟨h5, h6⟩ := hF s hs
      refine ⟨h6, .tail h2 ⟨List.mem_map.2 ⟨s, hs, rfl⟩, ?_⟩⟩
      have := ix_rng h6
      unfold hasB
      simp only [Bool.and_eq_true, decide_eq_true_eq]
      exact this) ⟨p0, by rw [e0]; exact .refl⟩
    exact this.2
theorem real_places {p : Pg} (h : chkB p = true) {j : Nat} {f : Pr} (hj : p.procs[j]? = some f) : ∀ s ∈ (newWay p j f).real, plP p j f s.src ∧ plP p j f s.dst := fun s hs => by
  obtain ⟨_, h2⟩ := real_spec h hj
  obtain ⟨_, h3, _⟩ := chk_way h hj
  obtain ⟨h4, h5⟩ := h3 s ((h2 s).1 hs)
  unfold okI at h5
  unfold plP
  omega
/-- Who can come to an end, others given. -/
def endP (p : Pg) (k : Nat) (f : Pr) (E : List Str) : Prop := Rch (stR ((newWay p k f).real.filter (keepE p E))) 0 (-1)
theorem endsW_iff {p : Pg} (h : chkB p = true) {k : Nat} {f : Pr} (hj : p.procs[k]? = some f) (E : List Str) : endsW (newWay p k f) f E = true ↔ endP p k f E := by
  unfold endP
  rw [← step_reach (p := p) (j := k) (f := f) (fun s hs => real_places h hj s (List.mem_filter.1 hs).1) (y := -1) (.inr (.inl rfl))]
  unfold endsW
  rw [List.any_eq_true]
  have e1 : ixI p k f (-1) = ((cntL f.body + 2 : Nat) : Int) - 1 := by unfold ixI indexI; rw [if_neg (by omega), if_pos rfl]
  rw [e1]
  constructor
  · rintro ⟨x, h1, h2⟩
    have h2 : ((cntL f.body + 2 : Nat) : Int) - 1 = x := of_decide_eq_true h2
    rw [h2]
    exact h1
  · intro h1
    exact ⟨_, h1, decide_eq_true rfl⟩
theorem twice_no {l : List Str} (h : twiceB l = false) : l.Nodup := by
  unfold twiceB at h
  rw [List.any_eq_false] at h
  unfold List.Nodup
  rw [List.pairwise_iff_getElem]
  intro i j hi hj hij he
  have h1 := h j (List.mem_range.2 hj)
  apply h1
  rw [List.any_eq_true]
  refine ⟨l[i], ?_, ?_⟩
  · exact List.mem_iff_getElem.2 ⟨i, by simp; omega, by simp⟩
  · rw [List.getElem?_eq_getElem hj]
    simp [he]
end Go.Ab
namespace Go.Ab
open Go.Proofs
set_option maxHeartbeats 1000000 in
set_option maxRecDepth 100000 in
theorem tree_count : ∀ (k : Nat) (l : List S) (_ : cntL l < k) (_ : cntL l ≤ 1000000), SpecP Tryz.prog 76 [eSs l] (fun r => r = .int .i64 (cntL l)) := by
  intro k
  induction k with
  | zero => intro l h; omega
  | succ k ih =>
    intro l hk hl
    have hll := S.avs_len l
    have hlc : l.length ≤ cntL l := by
      clear hk hl hll
      induction l with
      | nil => simp
      | cons t r ihr => rw [cntL, cntS_eq, List.length_cons]; omega
    refine SpecP.body I_tree_count tabOK Tryz.func76 rfl Tryz.call76 (by show 1 ≤ _; decide) ?_
    conv => whnf
    repeat' (intro (_ : _ ≤ 9223372036854775807); conv => whnf)
    refine LoopK.inv tabOK (fun y : Nat × Nat => ⟨[(0, .p (eSs l)), (3, .p (.int .i64 y.2)), (8, .p (.int .i64 (S.avs l).length)), (9, .p (.int .i64 y.1))], []⟩) (fun y => y.1 ≤ l.length ∧ y.2 + cntL (l.drop y.1) = cntL l + (l.length - y.1)) (fun y => l.length - y.1) (0, l.length) (Le.of_eq (by simp only [S.avs_len]; rfl)) ⟨Nat.zero_le _, by simp; omega⟩ ?_
    rintro ⟨j, n⟩ ⟨h2, h3⟩
    simp only at h2 h3 ⊢
    rcases Nat.lt_or_ge j l.length with hj | hj
    · have hst := cntL_step hj
      have hcs := cntS_eq l[j]
      have h4 : cntL (l.drop j) ≤ cntL l := by
        have : ∀ (l : List S) (j : Nat), cntL (l.drop j) ≤ cntL l := fun l => by
          induction l with
          | nil => intro j; simp
          | cons t r ihr =>
            intro j
            cases j with
            | zero => simp
            | succ j => rw [List.drop_succ_cons, cntL]; have := ihr j; omega
        exact this l j
      conv => whnf
      repeat' (first | ((first | (refine DrawK.auto tabOK mixed (by kernel_rfl) ?_) | (refine IdxK.ss (by omega) ?_) | (refine Wr.i64 (by omega) (by omega) ?_) | (refine CallK.pure (ih l[j].thn (by omega) (by omega)) (.cons (Sub.refl _) .nil) ?_; rintro _ rfl) | (refine CallK.pure (ih l[j].els (by omega) (by omega)) (.cons (Sub.refl _) .nil) ?_; rintro _ rfl)); conv => whnf) | (refine Br.dec (fun _ => ?_) (fun _ => ?_) <;> first | (exfalso; omega) | conv => whnf))
      all_goals exact ⟨(j + 1, n + (cntL l[j].thn + cntL l[j].els)), ⟨by simp only; omega, by simp only; omega⟩, by simp only; omega, Le.of_eq rfl⟩
    · conv => whnf
      rw [List.drop_eq_nil_of_le hj, cntL] at h3
      repeat' (refine Br.dec (fun _ => ?_) (fun _ => ?_) <;> first | (exfalso; omega) | conv => whnf)
      exact RetK.int (by omega)
set_option maxRecDepth 100000 in
theorem tree_Count (p : Pg) (hc : cntP p.procs ≤ 1000) : SpecP Tryz.prog 27 [.agg p.cells] (fun r => r = .int .i64 (cntP p.procs)) := by
  refine SpecP.body I_tree_Count tabOK Tryz.func27 rfl Tryz.call27 (by show 1 ≤ _; decide) ?_
  conv => whnf
  have hl2 : (p.procs.map fun f => AV.agg f.cells).length = p.procs.length := List.length_map _
  repeat' (intro (_ : _ ≤ 9223372036854775807); conv => whnf)
  refine LoopK.inv tabOK (fun y : Nat × Nat => ⟨[(3, .p (.int .i64 y.2)), (7, .p (.sl (p.procs.map fun f => .agg f.cells))), (8, .p (.int .i64 (p.procs.map fun f => AV.agg f.cells).length)), (9, .p (.int .i64 y.1))], []⟩) (fun y => y.1 ≤ p.procs.length ∧ y.2 + cntP (p.procs.drop y.1) = cntP p.procs) (fun y => p.procs.length - y.1) (0, 0) (Le.of_eq rfl) ⟨Nat.zero_le _, by simp⟩ ?_
  rintro ⟨j, n⟩ ⟨h2, h3⟩
  simp only at h2 h3 ⊢
  rcases Nat.lt_or_ge j p.procs.length with hj | hj
  · have hst := cntP_step hj
    have hcm := cntP_mem _ _ (List.getElem_mem hj)
    conv => whnf
    repeat' (first | ((first | (refine And.intro rfl ?_) | (refine IdxK.map (by omega) (fun _ => rfl) ?_) | (refine Wr.i64 (by omega) (by omega) ?_) | (refine CallK.pure (tree_count (cntL p.procs[j].body+1) p.procs[j].body (by omega) (by omega)) (.cons (Sub.refl _) .nil) ?_; rintro _ rfl)); conv => whnf) | (refine Br.dec (fun _ => ?_) (fun _ => ?_) <;> first | (exfalso; omega) | conv => whnf))
    exact ⟨(j + 1, n + cntL p.procs[j].body), ⟨by simp only; omega, by simp only; omega⟩, by simp only; omega, Le.of_eq rfl⟩
  · conv => whnf
    rw [List.drop_eq_nil_of_le hj, cntP] at h3
    repeat' (refine Br.dec (fun _ => ?_) (fun _ => ?_) <;> first | (exfalso; omega) | conv => whnf)
    exact RetK.int (by omega)
end Go.Ab
namespace Go.Ab
open Go.Proofs
/-- A step that may be taken: from the beginning, or past none of some. -/
def frR (steps : List Step) (at_ : Int) (but : List Int) (a b : Int) : Prop := (a = at_ ∨ hasI but a = false) ∧ ∃ s ∈ steps, s.src = a ∧ s.dst = b
structure FrI (steps : List Step) (at_ : Int) (but : List Int) (n : Nat) (l : List Int) : Prop where
  le : n ≤ l.length
  hd : l[0]? = some at_
  nd : l.Nodup
  sub : ∀ x ∈ l, x ∈ at_ :: steps.map Step.dst
  snd : ∀ x ∈ l, Rch (frR steps at_ but) at_ x
  cl : ∀ (m : Nat) (a : Int), m < n → l[m]? = some a → ∀ b, frR steps at_ but a b → b ∈ l
theorem FrI.len {steps : List Step} {at_ : Int} {but : List Int} {n : Nat} {l : List Int} (h : FrI steps at_ but n l) : l.length ≤ steps.length + 1 := by
  have := nodup_len h.nd h.sub
  simpa using this
theorem FrI.start (steps : List Step) (at_ : Int) (but : List Int) : FrI steps at_ but 0 [at_] := ⟨Nat.zero_le _, rfl, by simp, by simp, fun x hx => by rw [List.mem_singleton.1 hx]; exact .refl, fun m a hm => by omega⟩
theorem FrI.add {steps : List Step} {at_ : Int} {but : List Int} {n : Nat} {l : List Int} (h : FrI steps at_ but n l) {a b : Int} (ha : a ∈ l) (hb : frR steps at_ but a b) (hn : hasI l b = false) : FrI steps at_ but n (l ++ [b]) := by
  have hnm : b ∉ l := fun hm => by rw [hasI_iff.2 hm] at hn; cases hn
  have h0 : 0 < l.length := (List.getElem?_eq_some_iff.1 h.hd).1
  refine ⟨by rw [List.length_append]; have := h.le; omega, by rw [List.getElem?_append_left h0]; exact h.hd, ?_, fun x hx => ?_, fun x hx => ?_, fun m c hm hc d hd => ?_⟩
  · rw [List.nodup_append]
    refine ⟨h.nd, by simp, fun x hx y hy => ?_⟩
    rw [List.mem_singleton.1 hy]
    exact fun e => hnm (e ▸ hx)
  · rcases List.mem_append.1 hx with hx | hx
    · exact h.sub x hx
    · rw [List.mem_singleton.1 hx]
      obtain ⟨_, s, hs, _, h2⟩ := hb
      exact List.mem_cons_of_mem _ (List.mem_map.2 ⟨s, hs, h2⟩)
  · rcases List.mem_append.1 hx with hx | hx
    · exact h.snd x hx
    · rw [List.mem_singleton.1 hx]
      exact .tail (h.snd a ha) hb
  · rcases Nat.lt_or_ge m l.length with hml | hml
    · rw [List.getElem?_append_left hml] at hc
      exact List.mem_append.2 (.inl (h.cl m c hm hc d hd))
    · have := h.le
      omega
theorem FrI.fin {steps : List Step} {at_ : Int} {but : List Int} {l : List Int} (h : FrI steps at_ but l.length l) (x : Int) : x ∈ l ↔ Rch (frR steps at_ but) at_ x := by
  refine ⟨h.snd x, fun hr => hr.closed (S := fun x => x ∈ l) (fun a b ha hb => ?_) (List.mem_of_getElem? h.hd)⟩
  obtain ⟨m, hm⟩ := List.mem_iff_getElem?.1 ha
  exact h.cl m a (List.getElem?_eq_some_iff.1 hm).1 hm b hb
theorem FrI.next {steps : List Step} {at_ : Int} {but : List Int} {n : Nat} {l : List Int} (h : FrI steps at_ but n l) (hn : n < l.length) (hc : ∀ b, frR steps at_ but l[n] b → b ∈ l) : FrI steps at_ but (n + 1) l := by
  refine ⟨hn, h.hd, h.nd, h.sub, h.snd, fun m a hm ha b hb => ?_⟩
  rcases Nat.lt_or_ge m n with hmn | hmn
  · exact h.cl m a hmn ha b hb
  · obtain rfl : m = n := by omega
    rw [List.getElem?_eq_getElem hn] at ha
    cases ha
    exact hc b hb
end Go.Ab
namespace Go.Ab
open Go.Proofs
theorem DrawK.frz {P : Program} {T : Tab} {N : Nat} {ops : Array Oper} {info : Info} {id : Nat} {K : St → Prop} {s : St} (gs : List (List Nat)) (h : frzK gs s fun s' => DrawK P T N info id ops K s') : DrawK P T N info id ops K s := by
  obtain ⟨s', h1, h2⟩ := frzK_spec (N := N) h
  exact DrawK.le h2 h1
/-- A statement's own item, by its number. -/
theorem stAt_own {p : Pg} (h : chkB p = true) {j : Nat} {f : Pr} (hj : p.procs[j]? = some f) {a : Int} (h1 : (offN p.procs j : Int) + 1 ≤ a) (h2 : a ≤ (offN p.procs j + cntL f.body : Nat)) : ∃ t ∈ flL f.body, stAt p a = some t ∧ t.id = a := by
  obtain ⟨it, h3, h4⟩ := sheet_its hj (k := (a - 1).toNat) (by omega) (by omega)
  refine ⟨it.s, its_s h4, by unfold stAt; rw [h3]; rfl, ?_⟩
  obtain ⟨_, _, _, hlen, hsp⟩ := sheet_spec p
  obtain ⟨_, _, hle, hd⟩ := hsp j f hj
  have hids := its_ids (chk_parts h).1 hj
  have h5 : (itsOf p j f)[(a - 1).toNat - offN p.procs j]? = some it := by
    unfold itsOf
    rw [← hd, List.getElem?_drop, List.getElem?_take, if_pos (by omega), show offN p.procs j + ((a - 1).toNat - offN p.procs j) = (a - 1).toNat by omega]
    exact h3
  have h6 : ((itsOf p j f).map fun it => it.s.id)[(a - 1).toNat - offN p.procs j]? = some it.s.id := by rw [List.getElem?_map, h5]; rfl
  rw [hids] at h6
  unfold idsN at h6
  rw [List.getElem?_map, List.getElem?_range' (by omega)] at h6
  simp at h6
  omega
end Go.Ab
namespace Go.Ab
open Go.Proofs
end Go.Ab
namespace Go.Ab
open Go.Proofs
def onPr (b : Bool) (f : Pr) : Pr := ⟨f.name, f.params, f.vars, onL b f.body, if b then f.fin else []⟩
def nmPrs (n : Nat) : List Pr → List Pr
  | [] => []
  | f :: r => ⟨f.name, f.params, f.vars, nmL n f.body, f.fin⟩ :: nmPrs (n + cntL f.body) r
def nmPg (p : Pg) : Pg := ⟨p.globals, nmPrs 0 p.procs⟩
def onlyRaw (b : Bool) (p : Pg) : Pg := ⟨p.globals, (p.procs.filter fun f => f.name == mainS).map (onPr b)⟩
def onlyPg (b : Bool) (p : Pg) : Pg := nmPg (onlyRaw b p)
def gOf (b : Bool) (f : Pr) : Pr := ⟨f.name, f.params, f.vars, nmL 0 (onL b f.body), if b then f.fin else []⟩
/-- Main is there once, without parameters. -/
theorem main_one {p : Pg} (h : chkB p = true) : ∃ (k : Nat) (f : Pr), p.procs[k]? = some f ∧ p.procs.filter (fun f => f.name == mainS) = [f] ∧ f.name = mainS ∧ f.params = [] := by
  obtain ⟨hm, hs, _⟩ := chk_parts h
  obtain ⟨_, hb, _⟩ := scope_ok hs
  unfold mainBad at hb
  simp only [Bool.or_eq_false_iff, Bool.not_eq_false'] at hb
  obtain ⟨_, h2, h3, h4⟩ := hb
  have hnd := twice_no h2
  obtain ⟨k, hk, h5, h6⟩ := main_idx h3
  have h7 := List.find?_some h6
  have hn : p.procs[k].name = mainS := by
    have : mainS = p.procs[k].name := by simpa using h7
    exact this.symm
  rw [h6] at h4
  have hp : p.procs[k].params = [] := List.eq_nil_of_length_eq_zero (by simpa using h4)
  refine ⟨k, p.procs[k], List.getElem?_eq_getElem hk, ?_, hn, hp⟩
  have key : ∀ (l : List Pr), (l.map Pr.name).Nodup → ∀ f ∈ l, f.name = mainS → l.filter (fun f => f.name == mainS) = [f] := fun l => by
    induction l with
    | nil => intro _ f hf; cases hf
    | cons g r ih =>
      intro hnd f hf hfn
      rw [List.map_cons, List.nodup_cons] at hnd
      rcases List.mem_cons.1 hf with rfl | hf
      · rw [List.filter_cons_of_pos (by simp [hfn])]
        congr 1
        rw [List.filter_eq_nil_iff]
        intro g hg he
        exact hnd.1 (by rw [hfn, ← show g.name = mainS by simpa using he]; exact List.mem_map_of_mem hg)
      · rw [List.filter_cons_of_neg (by
          intro he
          exact hnd.1 (by rw [show g.name = mainS by simpa using he, ← hfn]; exact List.mem_map_of_mem hf))]
        exact ih hnd.2 f hf hfn
  exact key p.procs hnd _ (List.getElem_mem hk) hn
theorem only_eq {p : Pg} {b : Bool} {f : Pr} (h : p.procs.filter (fun f => f.name == mainS) = [f]) : onlyPg b p = ⟨p.globals, [gOf b f]⟩ := by
  unfold onlyPg nmPg onlyRaw
  simp only
  rw [h]
  rfl
mutual
theorem cntS_on (b : Bool) : ∀ t : S, cntS (onS b t) = cntS t
  | .mk id kind labels name proc x has args thn els => by
    rw [onS]
    split
    · rw [cntS, cntS, cntL_on b thn, cntL_on b els]
    · rw [cntS, cntS, cntL_on b thn, cntL_on b els]
theorem cntL_on (b : Bool) : ∀ l : List S, cntL (onL b l) = cntL l
  | [] => by rw [onL]
  | t :: r => by rw [onL, cntL, cntL, cntS_on b t, cntL_on b r]
end
/-- What is said of a statement that stands for another one. -/
structure OnR (s t : S) : Prop where
  labels : t.labels = []
  off : s.kind = 4 ∨ 7 ≤ s.kind → t.kind = 3 ∧ t.name = [] ∧ t.x = .mk 1 7 [] [] ∧ t.args = []
  on : ¬ (s.kind = 4 ∨ 7 ≤ s.kind) → t.kind = s.kind ∧ t.name = s.name ∧ t.x = s.x ∧ t.args = s.args
theorem on_own (s : S) (n : Nat) : OnR s (nmS n (onS false s)) := by
  by_cases hk : s.kind = 4 ∨ 7 ≤ s.kind
  · have e := (onS_eq false s).trans (if_pos (hk.imp id fun h => ⟨h, rfl⟩))
    rw [e, nmS_eq]
    exact ⟨rfl, fun _ => ⟨rfl, rfl, rfl, rfl⟩, fun h => absurd hk h⟩
  · have e := (onS_eq false s).trans (if_neg (fun h => hk (h.imp id fun h => h.1)))
    rw [e, nmS_eq]
    exact ⟨rfl, fun h => absurd h hk, fun _ => ⟨rfl, rfl, rfl, rfl⟩⟩
theorem on_thn (s : S) (n : Nat) : (nmS n (onS false s)).thn = nmL (n + 1) (onL false s.thn) ∧ (nmS n (onS false s)).els = nmL (n + 1 + cntL s.thn) (onL false s.els) ∧ (nmS n (onS false s)).id = ((n + 1 : Nat) : Int) := by
  have h : (onS false s).thn = onL false s.thn ∧ (onS false s).els = onL false s.els := by
    rw [onS_eq]
    split <;> exact ⟨rfl, rfl⟩
  rw [nmS_eq, h.1, h.2, cntL_on]
  exact ⟨rfl, rfl, rfl⟩
mutual
theorem onR_S : ∀ (s : S) (n : Nat) (t : S), t ∈ flS (nmS n (onS false s)) → ∃ s' ∈ flS s, OnR s' t
  | .mk id kind labels name proc x has args thn els, n, t, h => by
    obtain ⟨h1, h2, _⟩ := on_thn (.mk id kind labels name proc x has args thn els) n
    rw [flS_eq, h1, h2] at h
    rw [flS]
    rcases List.mem_cons.1 h with rfl | h
    · exact ⟨_, List.mem_cons_self, on_own _ n⟩
    · rcases List.mem_append.1 h with h | h
      · obtain ⟨s', h3, h4⟩ := onR_L thn _ t h
        exact ⟨s', List.mem_cons_of_mem _ (List.mem_append.2 (.inl h3)), h4⟩
      · obtain ⟨s', h3, h4⟩ := onR_L els _ t h
        exact ⟨s', List.mem_cons_of_mem _ (List.mem_append.2 (.inr h3)), h4⟩
theorem onR_L : ∀ (l : List S) (n : Nat) (t : S), t ∈ flL (nmL n (onL false l)) → ∃ s' ∈ flL l, OnR s' t
  | [], n, t, h => by rw [onL, nmL, flL] at h; cases h
  | s :: r, n, t, h => by
    rw [onL, nmL, flL] at h
    rw [flL]
    rcases List.mem_append.1 h with h | h
    · obtain ⟨s', h3, h4⟩ := onR_S s _ t h
      exact ⟨s', List.mem_append.2 (.inl h3), h4⟩
    · obtain ⟨s', h3, h4⟩ := onR_L r _ t h
      exact ⟨s', List.mem_append.2 (.inr h3), h4⟩
end
theorem on_fields {s : S} (h : oneOk s = true) (n : Nat) : fieldsB (nmS n (onS false s)) = true := by
  have hF := one_facts h
  obtain ⟨h1, h2, _⟩ := on_thn s n
  by_cases hk : s.kind = 4 ∨ 7 ≤ s.kind
  · have ht : s.thn = [] := List.eq_nil_of_length_eq_zero (by rcases hF.thn with h | h | h <;> omega)
    have he : s.els = [] := List.eq_nil_of_length_eq_zero (by rcases hF.els with h | h <;> omega)
    have e := (onS_eq false s).trans (if_pos (hk.imp id fun h => ⟨h, rfl⟩))
    rw [e, nmS_eq, ht, he]
    rfl
  · have hf : fieldsB s = true := by
      unfold oneOk at h
      exact (Bool.and_eq_true_iff.1 h).1
    have e := (onS_eq false s).trans (if_neg (fun h => hk (h.imp id fun h => h.1)))
    have hl1 : (nmS n (onS false s)).thn.length = s.thn.length := by rw [h1, nmL_len, onL_map, List.length_map]
    have hl2 : (nmS n (onS false s)).els.length = s.els.length := by rw [h2, nmL_len, onL_map, List.length_map]
    have e2 : fieldsB (nmS n (onS false s)) = fieldsB s := by
      unfold fieldsB
      rw [hl1, hl2]
      rw [e, nmS_eq]
      rfl
    rw [e2, hf]
mutual
theorem rowS_on : ∀ (s : S) {nest seen m : Int} (n : Nat), rowS nest seen s = some m → n + cntS s ≤ 200 → rowS nest n (nmS n (onS false s)) = some ((n + cntS s : Nat) : Int)
  | .mk id kind labels name proc x has args thn els, nest, seen, m, n, h, hn => by
    obtain ⟨h1, _, m1, h3, h4⟩ := rowS_parts h
    obtain ⟨e1, e2, e3⟩ := on_thn (.mk id kind labels name proc x has args thn els) n
    have hc : cntS (.mk id kind labels name proc x has args thn els) = 1 + cntL thn + cntL els := by rw [cntS]
    rw [hc] at hn
    have q1 := rowL_on thn (n + 1) h3 (by omega)
    have q2 := rowL_on els (n + 1 + cntL thn) h4 (by omega)
    rw [rowS_eq, if_neg (by omega), if_neg (by rw [e3]; omega), (on_own _ n).labels, on_fields h1, e1, e2]
    show (bif true then bif true then (match rowL (nest + 1) ((n : Int) + 1) (nmL (n + 1) (onL false thn)) with | some m => rowL (nest + 1) m (nmL (n + 1 + cntL thn) (onL false els)) | none => none) else none else none) = _
    rw [show ((n : Int) + 1) = ((n + 1 : Nat) : Int) by omega, q1]
    show rowL (nest + 1) ((n + 1 + cntL thn : Nat) : Int) _ = _
    rw [q2, hc]
    congr 2
    omega
theorem rowL_on : ∀ (l : List S) {nest seen m : Int} (n : Nat), rowL nest seen l = some m → n + cntL l ≤ 200 → rowL nest n (nmL n (onL false l)) = some ((n + cntL l : Nat) : Int)
  | [], nest, seen, m, n, h, hn => by rw [onL, nmL, rowL, cntL]; rfl
  | s :: r, nest, seen, m, n, h, hn => by
    obtain ⟨h1, m1, h2, h3⟩ := rowL_parts h
    have hc : cntL (s :: r) = cntS s + cntL r := by rw [cntL]
    rw [hc] at hn
    have q1 := rowS_on s n h2 (by omega)
    have q2 := rowL_on r (n + cntS s) h3 (by omega)
    rw [onL, nmL, rowL, if_neg (by omega), q1, cntS_on]
    show rowL nest ((n + cntS s : Nat) : Int) _ = _
    rw [q2, hc]
    congr 2
    omega
end
section
variable {p : Pg} {k : Nat} {f : Pr}
theorem g_flat {t : S} (ht : t ∈ flL (gOf false f).body) : ∃ s ∈ flL f.body, OnR s t := onR_L f.body 0 t ht
theorem OnR.kind {s t : S} (h : OnR s t) : t.kind ≠ 4 ∧ t.kind < 7 := by
  by_cases hk : s.kind = 4 ∨ 7 ≤ s.kind
  · have := (h.off hk).1
    omega
  · have := (h.on hk).1
    omega
theorem g_names {s t : S} (h : OnR s t) {v : Str} (hv : v ∈ namesT t) : v ∈ namesT s := by
  by_cases hk : s.kind = 4 ∨ 7 ≤ s.kind
  · obtain ⟨h1, h2, h3, h4⟩ := h.off hk
    unfold namesT namesH at hv
    rw [h1, h2, h3, h4] at hv
    exact absurd hv (by
      have : namesX (.mk 1 7 [] []) = [] := rfl
      rw [this]
      simp)
  · obtain ⟨h1, h2, h3, h4⟩ := h.on hk
    unfold namesT namesH at hv ⊢
    rwa [h1, h2, h3, h4] at hv
theorem g_may (h : chkB p = true) (hj : p.procs[k]? = some f) : mayB ⟨p.globals, [gOf false f]⟩ = true := by
  obtain ⟨hm, _⟩ := chk_parts h
  obtain ⟨h1, h2, h3, h4⟩ := mayB_parts hm
  obtain ⟨_, _, hcn⟩ := chk_cnt h
  have hmem : f ∈ p.procs := List.mem_of_getElem? hj
  obtain ⟨h5, a, b, h6⟩ := h4 f hmem
  have hc := cntP_mem _ _ hmem
  have q := rowL_on f.body (nest := 1) 0 h6 (by omega)
  obtain ⟨g1, g2, g3, g4, _, g6⟩ := mayPr_iff.1 h5
  have g7 : mayPr (gOf false f) = true := mayPr_iff.2 ⟨g1, g2, g3, g4, rfl, g6⟩
  have e : mayPrs 0 [gOf false f] = some ((0 + cntL f.body : Nat) : Int) := by
    rw [mayPrs, g7, cond_true, show (gOf false f).body = nmL 0 (onL false f.body) from rfl]
    rw [show rowL 1 0 (nmL 0 (onL false f.body)) = some ((0 + cntL f.body : Nat) : Int) from q]
    rfl
  unfold mayB
  simp only
  rw [e, h3]
  simp [h1]
theorem scopeAt_no (h : chkB p = true) (hj : p.procs[k]? = some f) : scopeAt p f = none := by
  obtain ⟨_, hs, _⟩ := chk_parts h
  exact List.findSome?_eq_none_iff.1 (scope_ok hs).2.2 f (List.mem_of_getElem? hj)
theorem g_scope (h : chkB p = true) (hj : p.procs[k]? = some f) (hn : f.name = mainS) (hp : f.params = []) : (scopeB ⟨p.globals, [gOf false f]⟩).1 = 0 := by
  obtain ⟨hm, hs, _⟩ := chk_parts h
  obtain ⟨_, hb, _⟩ := scope_ok hs
  have hgl : twiceB p.globals = false := by
    unfold mainBad at hb
    simp only [Bool.or_eq_false_iff] at hb
    exact hb.1
  have hmb : mainBad ⟨p.globals, [gOf false f]⟩ = false := by
    unfold mainBad procsN
    simp only [List.map_cons, List.map_nil]
    rw [hgl, show (gOf false f).name = mainS from hn]
    rw [show ([gOf false f].find? fun f => mainS == f.name) = some (gOf false f) by
      rw [List.find?_cons, show (mainS == (gOf false f).name) = true by rw [show (gOf false f).name = mainS from hn]; simp]]
    simp only
    rw [show (gOf false f).params = [] from hp]
    rfl
  have hat := scopeAt_no h hj
  have hat2 : scopeAt ⟨p.globals, [gOf false f]⟩ (gOf false f) = none := by
    unfold scopeAt at hat ⊢
    have e : ownL (gOf false f) = ownL f := rfl
    rw [e]
    cases hc : twiceB (ownL f) || (ownL f).any fun n => p.globals.any fun s => n == s with
    | true => rw [hc] at hat; cases hat
    | false =>
      rw [hc, cond_false] at hat
      rw [cond_false]
      rw [Option.map_eq_none_iff, List.find?_eq_none] at hat ⊢
      intro t ht
      obtain ⟨s, hs1, hs2⟩ := g_flat ht
      have h3 := hat s hs1
      simp only [Bool.not_eq_true, Bool.not_eq_false'] at h3 ⊢
      unfold knownB at h3 ⊢
      rw [Bool.and_eq_true] at h3 ⊢
      refine ⟨?_, by rw [decide_eq_true hs2.kind.1]; rfl⟩
      rw [List.all_eq_true]
      intro v hv
      exact List.all_eq_true.1 h3.1 v (g_names hs2 hv)
  unfold scopeB
  rw [g_may h hj, hmb]
  simp only [cond_true, cond_false, List.findSome?_cons, hat2, List.findSome?_nil]
theorem g_nocall {t : S} (ht : t ∈ stmts ⟨p.globals, [gOf false f]⟩) : t.kind ≠ 4 := by
  unfold stmts at ht
  simp only [List.flatMap_cons, List.flatMap_nil, List.append_nil] at ht
  obtain ⟨s, _, hs⟩ := g_flat ht
  exact hs.kind.1
theorem g_arity (h : chkB p = true) (hj : p.procs[k]? = some f) (hn : f.name = mainS) (hp : f.params = []) : (arityB ⟨p.globals, [gOf false f]⟩).1 = 0 := by
  unfold arityB
  rw [if_neg (by rw [g_scope h hj hn hp]; omega)]
  rw [List.find?_eq_none.2 (fun t ht => by rw [decide_eq_false (g_nocall ht)]; simp)]
theorem jumpR_ok {g : Pr} : ∀ (l : List Item), (∀ it ∈ l, it.s.labels = [] ∧ it.s.kind < 7) → jumpR g l [] = .ok []
  | [], _ => rfl
  | it :: r, h => by
    obtain ⟨h1, h2⟩ := h it List.mem_cons_self
    rw [jumpR, h1]
    simp only [joinO]
    have : leadsB g it = true := by
      unfold leadsB
      rw [if_neg (by omega), if_neg (by omega)]
    rw [this, cond_true]
    exact jumpR_ok r fun x hx => h x (List.mem_cons_of_mem _ hx)
theorem g_jump (h : chkB p = true) (hj : p.procs[k]? = some f) (hn : f.name = mainS) (hp : f.params = []) : (jumpB ⟨p.globals, [gOf false f]⟩).1 = 0 := by
  unfold jumpB
  rw [if_neg (by rw [g_scope h hj hn hp]; omega)]
  have e : jumpAt ⟨p.globals, [gOf false f]⟩ 0 = none := by
    unfold jumpAt
    simp only [List.getElem?_cons_zero]
    rw [jumpR_ok _ fun it hi => by
      have hm : it.s ∈ flL (gOf false f).body := by
        rw [← itL_s ((0 : Nat) : Int) 0 (-1) 0 (offN [gOf false f] 0)]
        exact List.mem_map_of_mem hi
      obtain ⟨s, _, hs⟩ := g_flat hm
      exact ⟨hs.labels, hs.kind.2⟩]
    rfl
  rw [show List.range (Pg.procs ⟨p.globals, [gOf false f]⟩).length = [0] from rfl]
  simp only [List.findSome?_cons, e, List.findSome?_nil]
theorem g_chk (h : chkB p = true) (hj : p.procs[k]? = some f) (hn : f.name = mainS) (hp : f.params = []) : chkB ⟨p.globals, [gOf false f]⟩ = true := by
  have ha : (aliasB ⟨p.globals, [gOf false f]⟩).1 = 0 := by
    unfold aliasB
    rw [if_neg (by rw [g_arity h hj hn hp]; omega)]
    rw [List.find?_eq_none.2 (fun t ht => by rw [decide_eq_false (g_nocall ht)]; simp)]
  unfold chkB allB
  rw [if_neg (by rw [g_may h hj]; simp), if_neg (by rw [g_scope h hj hn hp]; omega), if_neg (by rw [g_arity h hj hn hp]; omega), if_neg (by rw [g_jump h hj hn hp]; omega), ha]
  rfl
end
end Go.Ab
namespace Go.Ab
open Go.Proofs
/-- A row in which each one leads to the one behind it. -/
def chainE (E : Int → Int → Prop) : List Int → Prop
  | [] => True
  | [_] => True
  | a :: b :: r => E a b ∧ chainE E (b :: r)
structure DfsI (n : Nat) (E : Int → Int → Prop) (out stack : List Int) : Prop where
  nd : (out ++ stack).Nodup
  rng : ∀ x ∈ out ++ stack, 0 ≤ x ∧ x < n
  path : chainE E stack
  cl : ∀ u ∈ out, ∀ v, E u v → v ∈ out ∨ v ∈ stack
  J : ∀ u ∈ out, ∀ x, Rch E u x → x ∉ out → ∃ s ∈ stack, Rch E u s ∧ Rch E s u ∧ Rch E s x
  K : ∀ (i : Nat) (r : Int), out[i]? = some r → ∀ u, Rch E u r → Rch E r u ∨ ∃ u', Rch E u u' ∧ Rch E u' u ∧ (u' ∉ out ∨ ∃ j, i < j ∧ out[j]? = some u')
theorem DfsI.start (n : Nat) (E : Int → Int → Prop) : DfsI n E [] [] := ⟨by simp, by simp, trivial, by simp, by simp, by simp⟩
theorem DfsI.push {n : Nat} {E : Int → Int → Prop} {out stack : List Int} (h : DfsI n E out stack) {b : Int} (hb : 0 ≤ b ∧ b < n) (hn : b ∉ out ++ stack) (hp : chainE E (stack ++ [b])) : DfsI n E out (stack ++ [b]) := by
  refine ⟨?_, fun x hx => ?_, hp, fun u hu v hv => ?_, fun u hu x hx hxo => ?_, h.K⟩
  · rw [← List.append_assoc, List.nodup_append]
    refine ⟨h.nd, by simp, fun x hx y hy => ?_⟩
    rw [List.mem_singleton.1 hy]
    exact fun e => hn (e ▸ hx)
  · rw [← List.append_assoc] at hx
    rcases List.mem_append.1 hx with hx | hx
    · exact h.rng x hx
    · rw [List.mem_singleton.1 hx]; exact hb
  · rcases h.cl u hu v hv with h1 | h1
    · exact .inl h1
    · exact .inr (List.mem_append.2 (.inl h1))
  · obtain ⟨s, h1, h2⟩ := h.J u hu x hx hxo
    exact ⟨s, List.mem_append.2 (.inl h1), h2⟩
/-- What a search into the depth leaves behind. -/
structure EndsP (n : Nat) (E : Int → Int → Prop) (es : List Int) : Prop where
  nd : es.Nodup
  mem : ∀ x : Int, x ∈ es ↔ 0 ≤ x ∧ x < n
  K : ∀ (i : Nat) (r : Int), es[i]? = some r → ∀ u : Int, 0 ≤ u ∧ u < n → Rch E u r → Rch E r u ∨ ∃ u', Rch E u u' ∧ Rch E u' u ∧ ∃ j, i < j ∧ es[j]? = some u'
theorem DfsI.fin {n : Nat} {E : Int → Int → Prop} (hE : ∀ x y, E x y → 0 ≤ y ∧ y < n) {out : List Int} (h : DfsI n E out []) (hall : ∀ x : Int, 0 ≤ x ∧ x < n → x ∈ out) : EndsP n E out := by
  refine ⟨by simpa using h.nd, fun x => ⟨fun hx => h.rng x (by simpa using hx), hall x⟩, fun i r hi u hur hu => ?_⟩
  rcases h.K i r hi u hu with h1 | ⟨u', h1, h2, h3⟩
  · exact .inl h1
  · refine .inr ⟨u', h1, h2, ?_⟩
    rcases h3 with h3 | h3
    · exfalso
      apply h3
      apply hall
      cases h1 with
      | refl => exact hur
      | tail _ hr => exact hE _ _ hr
    · exact h3
/-- Of one part: ways there and back. -/
def sccP (E : Int → Int → Prop) (x y : Int) : Prop := Rch E x y ∧ Rch E y x
theorem sccP.refl {E : Int → Int → Prop} (x : Int) : sccP E x x := ⟨.refl, .refl⟩
theorem sccP.symm {E : Int → Int → Prop} {x y : Int} (h : sccP E x y) : sccP E y x := ⟨h.2, h.1⟩
theorem sccP.trans {E : Int → Int → Prop} {x y z : Int} (h : sccP E x y) (h' : sccP E y z) : sccP E x z := ⟨h.1.trans h'.1, h'.2.trans h.2⟩
/-- What is marked: the parts of all from a place on. -/
def SeenP (E : Int → Int → Prop) (es : List Int) (i : Nat) (x : Int) : Prop := ∃ (j : Nat) (y : Int), i ≤ j ∧ es[j]? = some y ∧ sccP E x y
/-- Going back from one over what is not marked gives its part. -/
theorem back_part {n : Nat} {E : Int → Int → Prop} (hE : ∀ x y, E x y → (0 ≤ x ∧ x < n) ∧ 0 ≤ y ∧ y < n) {es : List Int} (h : EndsP n E es) {i : Nat} {r : Int} (hi : es[i]? = some r) (hr : ¬ SeenP E es (i + 1) r) (x : Int) :
    Rch (fun a b => E b a ∧ ¬ SeenP E es (i + 1) b) r x ↔ sccP E r x := by
  have hrr := (h.mem r).1 (List.mem_of_getElem? hi)
  constructor
  · intro hx
    have key : (0 ≤ x ∧ x < n) ∧ ¬ SeenP E es (i + 1) x ∧ Rch E x r := hx.closed (S := fun x : Int => (0 ≤ x ∧ x < n) ∧ ¬ SeenP E es (i + 1) x ∧ Rch E x r) (fun a b ⟨h1, h2, h3⟩ ⟨h4, h5⟩ => ⟨(hE _ _ h4).1, h5, .head h4 h3⟩) ⟨hrr, hr, .refl⟩
    refine ⟨?_, key.2.2⟩
    rcases h.K i r hi x key.1 key.2.2 with h1 | ⟨u', h1, h2, j, h3, h4⟩
    · exact h1
    · exact absurd ⟨j, u', h3, h4, h1, h2⟩ key.2.1
  · rintro ⟨h1, h2⟩
    have hns : ∀ y, sccP E r y → ¬ SeenP E es (i + 1) y := fun y hy ⟨j, z, h3, h4, h5⟩ => hr ⟨j, z, h3, h4, hy.trans h5⟩
    have key : ∀ {a b : Int}, Rch E a b → Rch E r a → Rch E b r → Rch (fun a b => E b a ∧ ¬ SeenP E es (i + 1) b) b a := fun {a b} hab => by
      induction hab with
      | refl => intro _ _; exact .refl
      | @tail b c hab hbc ih =>
        intro h3 h4
        have h5 : Rch E b r := .head hbc h4
        exact .head ⟨hbc, hns b ⟨h3.trans hab, h5⟩⟩ (ih h3 h5)
    exact key h2 h1 .refl
theorem seen_next {E : Int → Int → Prop} {es : List Int} {i : Nat} {r : Int} (hi : es[i]? = some r) (x : Int) : SeenP E es i x ↔ SeenP E es (i + 1) x ∨ sccP E r x := by
  constructor
  · rintro ⟨j, y, h1, h2, h3⟩
    rcases Nat.eq_or_lt_of_le h1 with h4 | h4
    · subst h4
      rw [hi] at h2
      cases h2
      exact .inr h3.symm
    · exact .inl ⟨j, y, h4, h2, h3⟩
  · rintro (⟨j, y, h1, h2, h3⟩ | h)
    · exact ⟨j, y, by omega, h2, h3⟩
    · exact ⟨i, r, Nat.le_refl _, hi, h.symm⟩
theorem seen_all {n : Nat} {E : Int → Int → Prop} {es : List Int} (h : EndsP n E es) {x : Int} (hx : 0 ≤ x ∧ x < n) : SeenP E es 0 x := by
  obtain ⟨j, hj⟩ := List.mem_iff_getElem?.1 ((h.mem x).2 hx)
  exact ⟨j, x, Nat.zero_le _, hj, .refl x⟩
end Go.Ab
namespace Go.Ab
open Go.Proofs
/-- One place goes on to another one; both are there. -/
def rowE (rows : List (List Int)) (x y : Int) : Prop := 0 ≤ x ∧ rowR rows x y
/-- The search's own state: what is done, the stack, the marks, how far each one is. -/
structure EndI (n : Nat) (rows : List (List Int)) (out stack : List Int) (seen : List Bool) (at_ : List Int) : Prop where
  dfs : DfsI n (rowE rows) out stack
  sl : seen.length = n
  al : at_.length = n
  seen : ∀ x : Int, 0 ≤ x ∧ x < n → (seen.getD x.toNat false = true ↔ x ∈ out ++ stack)
  arng : ∀ x : Int, 0 ≤ x ∧ x < n → 0 ≤ at_.getD x.toNat 0 ∧ at_.getD x.toNat 0 ≤ (rows.getD x.toNat []).length
  cur : ∀ x : Int, 0 ≤ x ∧ x < n → ∀ (i : Nat) (y : Int), (i : Int) < at_.getD x.toNat 0 → (rows.getD x.toNat [])[i]? = some y → y ∈ out ++ stack
theorem EndI.start (n : Nat) (rows : List (List Int)) : EndI n rows [] [] (List.replicate n false) (List.replicate n 0) := by
  have h0 : ∀ x : Int, (List.replicate n (0 : Int)).getD x.toNat 0 = 0 := fun x => by
    rw [List.getD_eq_getElem?_getD, List.getElem?_replicate]; split <;> rfl
  refine ⟨DfsI.start n _, by simp, by simp, fun x hx => ?_, fun x hx => by rw [h0]; omega, fun x hx i y hi => by rw [h0] at hi; omega⟩
  rw [List.getD_eq_getElem?_getD, List.getElem?_replicate]
  split <;> simp
theorem getD_set {α : Type} {l : List α} {i j : Nat} {a d : α} (hi : i < l.length) : (l.set i a).getD j d = if i = j then a else l.getD j d := by
  simp only [List.getD_eq_getElem?_getD, List.getElem?_set]
  split
  · rename_i h
    first
      | rfl
      | (rw [if_pos hi]; rfl)
  · rfl
/-- A new one on the stack. -/
theorem EndI.push {n : Nat} {rows : List (List Int)} {out stack : List Int} {seen : List Bool} {at_ : List Int} (h : EndI n rows out stack seen at_) {b : Int} (hb : 0 ≤ b ∧ b < n) (hn : seen.getD b.toNat false = false) (hp : chainE (rowE rows) (stack ++ [b])) : EndI n rows out (stack ++ [b]) (seen.set b.toNat true) at_ := by
  have hno : b ∉ out ++ stack := fun hm => by rw [(h.seen b hb).2 hm] at hn; cases hn
  refine ⟨h.dfs.push hb hno hp, by simpa using h.sl, h.al, fun x hx => ?_, h.arng, fun x hx i y hi hy => ?_⟩
  · rw [getD_set (by rw [h.sl]; omega), ← List.append_assoc, List.mem_append, List.mem_singleton]
    split
    · have : x = b := by omega
      simp [this]
    · have : x ≠ b := by omega
      rw [h.seen x hx]
      simp [this]
  · rw [← List.append_assoc]
    exact List.mem_append.2 (.inl (h.cur x hx i y hi hy))
/-- One more edge of the last one, to one that is seen. -/
theorem EndI.step {n : Nat} {rows : List (List Int)} {out stack : List Int} {seen : List Bool} {at_ : List Int} (h : EndI n rows out stack seen at_) {a b : Int} (ha : 0 ≤ a ∧ a < n) {k : Nat} (hk : at_.getD a.toNat 0 = k) (hb : (rows.getD a.toNat [])[k]? = some b) (hs : b ∈ out ++ stack) : EndI n rows out stack seen (at_.set a.toNat ((k : Int) + 1)) := by
  have hlt : a.toNat < at_.length := by rw [h.al]; omega
  refine ⟨h.dfs, h.sl, by simpa using h.al, h.seen, fun x hx => ?_, fun x hx i y hi hy => ?_⟩
  · rw [getD_set hlt]
    split
    · rename_i he
      have := (List.getElem?_eq_some_iff.1 hb).1
      rw [← he]
      omega
    · exact h.arng x hx
  · rw [getD_set hlt] at hi
    split at hi
    · rename_i he
      rw [← he] at hy
      rcases Nat.lt_or_ge i k with hik | hik
      · exact h.cur a ha i y (by omega) hy
      · have : i = k := by omega
        subst this
        rw [hb] at hy
        cases hy
        exact hs
    · exact h.cur x hx i y hi hy
def minF (m : Int) (l : List Int) : Int := l.foldl (fun m x => if x < m then x else m) m
def minI : List Int → Int
  | [] => 0
  | a :: r => minF a r
theorem minF_spec : ∀ (l : List Int) (m : Int), minF m l ∈ m :: l ∧ ∀ x ∈ m :: l, minF m l ≤ x
  | [], m => ⟨by simp [minF], by simp [minF]⟩
  | a :: r, m => by
    obtain ⟨h1, h2⟩ := minF_spec r (if a < m then a else m)
    have e : minF m (a :: r) = minF (if a < m then a else m) r := rfl
    have h3 := h2 _ List.mem_cons_self
    rw [e]
    generalize minF (if a < m then a else m) r = z at h1 h2 h3 ⊢
    refine ⟨?_, fun x hx => ?_⟩
    · rcases List.mem_cons.1 h1 with h | h
      · rw [h]
        split <;> simp
      · exact List.mem_cons_of_mem _ (List.mem_cons_of_mem _ h)
    · rcases List.mem_cons.1 hx with rfl | hx
      · split at h3 <;> omega
      · rcases List.mem_cons.1 hx with rfl | hx
        · split at h3 <;> omega
        · exact h2 x (List.mem_cons_of_mem _ hx)
theorem minI_spec {l : List Int} (h : 0 < l.length) : minI l ∈ l ∧ ∀ x ∈ l, minI l ≤ x := by
  cases l with
  | nil => simp at h
  | cons a r => exact minF_spec r a
/-- Rows made shorter. -/
inductive CutH : Heap → Heap → Prop
  | nil : CutH [] []
  | same {c : Nat × Chunk} {H H' : Heap} (h : CutH H H') : CutH (c :: H) (c :: H')
  | cut {k : Nat} {e : TypeId} {sz : Nat} {es es' : List AV} {H H' : Heap} (hp : es' <+: es) (h : CutH H H') : CutH ((k, .own e sz es) :: H) ((k, .own e sz es') :: H')
theorem CutH.get {H H' : Heap} (h : CutH H H') : H'.map (·.1) = H.map (·.1) ∧ ∀ j c', (j, c') ∈ H' → (j, c') ∈ H ∨ ∃ e sz es es', (j, Chunk.own e sz es) ∈ H ∧ c' = .own e sz es' ∧ es' <+: es := by
  induction h with
  | nil => exact ⟨rfl, by simp⟩
  | same h ih =>
    refine ⟨by simp [ih.1], fun j c' hj => ?_⟩
    rcases List.mem_cons.1 hj with rfl | hj
    · exact .inl List.mem_cons_self
    · rcases ih.2 j c' hj with h1 | ⟨e, sz, es, es', h1, h2⟩
      · exact .inl (List.mem_cons_of_mem _ h1)
      · exact .inr ⟨e, sz, es, es', List.mem_cons_of_mem _ h1, h2⟩
  | @cut k e sz es es' H H' hp h ih =>
    refine ⟨by simp [ih.1], fun j c' hj => ?_⟩
    rcases List.mem_cons.1 hj with hj | hj
    · cases hj
      exact .inr ⟨e, sz, es, es', List.mem_cons_self, rfl, hp⟩
    · rcases ih.2 j c' hj with h1 | ⟨e, sz, es, es', h1, h2⟩
      · exact .inl (List.mem_cons_of_mem _ h1)
      · exact .inr ⟨e, sz, es, es', List.mem_cons_of_mem _ h1, h2⟩
theorem Le.cut {N : Nat} {sl : List (Nat × LV)} {H H' : Heap} (h : CutH H H') : Le N ⟨sl, H⟩ ⟨sl, H'⟩ := fun σ β a w hr => by
  obtain ⟨hk, hc⟩ := h.get
  refine ⟨σ, β, ⟨hr.size, hr.defers, hr.slots, ⟨hr.heap.mem, fun j c' hj => ?_, by show (H'.map (·.1)).Nodup; rw [hk]; exact hr.heap.nodup, fun j hj => hr.heap.apart j (by rw [← hk]; exact hj), fun j hj j' hj' => hr.heap.inj j (by rw [← hk]; exact hj) j' (by rw [← hk]; exact hj')⟩⟩, Mem.le_refl σ, Frm.refl _ w, fun b h0 h1 => absurd h0 h1, fun b ⟨j, hj, r⟩ => .inl ⟨j, by rw [← hk]; exact hj, r⟩, fun _ _ _ => rfl⟩
  rcases hc j c' hj with h1 | ⟨e, sz, es, es', h1, rfl, h2⟩
  · exact hr.heap.chunks j c' h1
  · rcases hr.heap.chunks j _ h1 with ⟨h3, h4⟩ | ⟨i, vs, h3, h4, h5, h6, h7, h8, h9⟩
    · refine .inl ⟨h3, ?_⟩
      rw [h4] at h2
      exact List.prefix_nil.1 h2
    · exact .inr ⟨i, vs, h3, h4, h5, h6, Nat.le_trans h2.length_le h7, h8, fun m x hx => h9 m x (by
        obtain ⟨t, rfl⟩ := h2
        rw [List.getElem?_append_left (List.getElem?_eq_some_iff.1 hx).1]
        exact hx)⟩
end Go.Ab
namespace Go.Ab
open Go.Proofs
/-- Rows without what is marked already. -/
def offR (pre : List Bool) (rows : List (List Int)) : List (List Int) := rows.map fun r => r.filter fun b => !pre.getD b.toNat false
theorem offR_rowR {pre : List Bool} {rows : List (List Int)} {x y : Int} : rowR (offR pre rows) x y ↔ rowR rows x y ∧ pre.getD y.toNat false = false := by
  unfold rowR offR
  simp only [List.getD_eq_getElem?_getD, List.getElem?_map]
  cases rows[x.toNat]? with
  | none => simp
  | some r => simp
theorem offR_in {n : Nat} {pre : List Bool} {rows : List (List Int)} (h : rowsIn n rows) : rowsIn n (offR pre rows) := by
  refine ⟨by simp [offR, h.1], fun r hr b hb => ?_⟩
  obtain ⟨r', hr', rfl⟩ := List.mem_map.1 hr
  exact h.2 r' hr' b (List.mem_filter.1 hb).1
structure SimW (pre : List Bool) (st st' : List Bool × List Int) : Prop where
  todo : st.2 = st'.2
  len : st.1.length = st'.1.length
  mrk : ∀ k, st.1.getD k false = (pre.getD k false || st'.1.getD k false)
theorem SimW.see {pre : List Bool} {st st' : List Bool × List Int} (h : SimW pre st st') {b : Int} (hb : b.toNat < st.1.length) (hp : pre.getD b.toNat false = false) : SimW pre (seeW st b) (seeW st' b) := by
  have hm := h.mrk b.toNat
  rw [hp, Bool.false_or] at hm
  unfold seeW
  rw [hm]
  cases st'.1.getD b.toNat false with
  | true => exact h
  | false =>
    refine ⟨by simp only [cond_false]; rw [h.todo], by simpa using h.len, fun k => ?_⟩
    simp only [cond_false]
    rw [getD_set hb, getD_set (by rw [← h.len]; exact hb)]
    split
    · simp
    · exact h.mrk k
theorem SimW.skip {pre : List Bool} {st st' : List Bool × List Int} (h : SimW pre st st') {b : Int} (hp : pre.getD b.toNat false = true) : seeW st b = st := by
  unfold seeW
  rw [h.mrk, hp]
  rfl
theorem seeW_len (st : List Bool × List Int) (b : Int) : (seeW st b).1.length = st.1.length := by
  unfold seeW
  cases st.1.getD b.toNat false <;> simp
theorem SimW.fold {n : Nat} {pre : List Bool} : ∀ (l : List Int) {st st' : List Bool × List Int}, SimW pre st st' → st.1.length = n → (∀ b ∈ l, 0 ≤ b ∧ b < n) → SimW pre (l.foldl seeW st) ((l.filter fun b => !pre.getD b.toNat false).foldl seeW st') ∧ (l.foldl seeW st).1.length = n
  | [], _, _, h, hn, _ => ⟨h, hn⟩
  | b :: r, st, st', h, hn, hl => by
    have hb := hl b List.mem_cons_self
    have hr : ∀ c ∈ r, 0 ≤ c ∧ c < n := fun c hc => hl c (List.mem_cons_of_mem _ hc)
    rw [List.foldl_cons]
    cases hp : pre.getD b.toNat false with
    | true =>
      rw [h.skip hp, List.filter_cons_of_neg (by rw [hp]; simp)]
      exact SimW.fold r h hn hr
    | false =>
      rw [List.filter_cons_of_pos (by rw [hp]; simp), List.foldl_cons]
      exact SimW.fold r (h.see (by omega) hp) (by rw [seeW_len]; exact hn) hr
theorem SimW.walk {n : Nat} {pre : List Bool} {rows : List (List Int)} (hr : rowsIn n rows) : ∀ (k i : Nat) {st st' : List Bool × List Int}, SimW pre st st' → st.1.length = n → SimW pre (walkF rows k i st) (walkF (offR pre rows) k i st')
  | 0, _, _, _, h, _ => h
  | k + 1, i, st, st', h, hn => by
    rw [walkF, walkF, ← h.todo]
    cases ha : st.2[i]? with
    | none => exact h
    | some a =>
      simp only
      have hrow : ∀ b ∈ rows.getD a.toNat [], 0 ≤ b ∧ b < n := fun b hb => row_in hr hb
      have he : (offR pre rows).getD a.toNat [] = (rows.getD a.toNat []).filter fun b => !pre.getD b.toNat false := by
        unfold offR
        simp only [List.getD_eq_getElem?_getD, List.getElem?_map]
        cases rows[a.toNat]? with
        | none => simp
        | some r => simp
      rw [he]
      obtain ⟨h1, h2⟩ := SimW.fold (n := n) _ h hn hrow
      exact SimW.walk hr k (i + 1) h1 h2
/-- Going on from one that is not marked yet, past what is marked. -/
theorem walk_past {n : Nat} {pre : List Bool} {rows : List (List Int)} (hr : rowsIn n rows) (hp : pre.length = n) {r : Int} (hrr : 0 ≤ r ∧ r < n) (hu : pre.getD r.toNat false = false) :
    (∀ x, x ∈ (walkF rows (n + 1) 0 (pre.set r.toNat true, [r])).2 ↔ Rch (fun a b => rowR rows a b ∧ pre.getD b.toNat false = false) r x) ∧
    (∀ x : Int, 0 ≤ x ∧ x < n → ((walkF rows (n + 1) 0 (pre.set r.toNat true, [r])).1.getD x.toNat false = true ↔ pre.getD x.toNat false = true ∨ x ∈ (walkF rows (n + 1) 0 (pre.set r.toNat true, [r])).2)) := by
  have e0 : seeW (List.replicate n false, []) r = ((List.replicate n false).set r.toNat true, [r]) := by
    unfold seeW
    have : (List.replicate n false).getD r.toNat false = false := by
      rw [List.getD_eq_getElem?_getD, List.getElem?_replicate]; split <;> rfl
    simp only [this, cond_false, List.nil_append]
  obtain ⟨h1, h2, _⟩ := (WkM.start n).see hrr
  rw [e0] at h1 h2
  have hsim : SimW pre (pre.set r.toNat true, [r]) ((List.replicate n false).set r.toNat true, [r]) := ⟨rfl, by simp [hp], fun k => by
    rw [getD_set (by omega), getD_set (by simp; omega)]
    split
    · simp
    · have : (List.replicate n false).getD k false = false := by
        rw [List.getD_eq_getElem?_getD, List.getElem?_replicate]; split <;> rfl
      rw [this, Bool.or_false]⟩
  have hw := SimW.walk hr (n + 1) 0 hsim (by simpa using hp)
  obtain ⟨h3, h4, h5, h6⟩ := walk_spec (offR_in (pre := pre) hr) (n + 1) 0 h1 (Nat.zero_le _) (by omega) (fun m a hm => by omega)
  refine ⟨fun x => ?_, fun x hx => ?_⟩
  · rw [hw.todo]
    constructor
    · intro hx
      exact h6 (fun x => Rch (fun a b => rowR rows a b ∧ pre.getD b.toNat false = false) r x) (fun x hx => by rw [List.mem_singleton.1 hx]; exact .refl) (fun x b h7 h8 => .tail h7 (offR_rowR.1 h8)) x hx
    · intro hx
      exact hx.closed (S := fun x => x ∈ (walkF (offR pre rows) (n + 1) 0 ((List.replicate n false).set r.toNat true, [r])).2) (fun x y h7 h8 => h5 x h7 y (offR_rowR.2 h8)) (h4 r (by simp))
  · rw [hw.mrk, hw.todo, h3.mem, Bool.or_eq_true]
    exact ⟨fun h => h.imp id fun h => ⟨hx, h⟩, fun h => h.imp id fun h => h.2⟩
theorem hasB_of {n : Nat} {a : Int} (h : 0 ≤ a ∧ a < n) : hasB n a = true := by
  unfold hasB
  simpa using h
/-- The least one of a place's part. -/
structure MinP (E : Int → Int → Prop) (x v : Int) : Prop where
  scc : sccP E x v
  le : ∀ y, sccP E x y → v ≤ y
theorem MinP.uniq {E : Int → Int → Prop} {x v w : Int} (h : MinP E x v) (h' : MinP E x w) : v = w := Int.le_antisymm (h.le w h'.scc) (h'.le v h.scc)
def partR (n : Nat) (rows : List (List Int)) : List Int := (List.range n).map fun (a : Nat) => minI ((lstI 0 (reachB rows [(a : Int)])).filter fun b => (lstI 0 (reachB rows [b])).contains (a : Int))
theorem rowE_rch {n : Nat} {rows : List (List Int)} (hr : rowsIn n rows) {x y : Int} (hx : 0 ≤ x) : Rch (rowE rows) x y ↔ Rch (rowR rows) x y := by
  refine ⟨fun h => h.mono fun _ _ h => h.2, fun h => ?_⟩
  exact (h.closed (S := fun y : Int => 0 ≤ y ∧ Rch (rowE rows) x y) (fun a b ⟨h1, h2⟩ h3 => ⟨(row_in hr h3).1, .tail h2 ⟨h1, h3⟩⟩) ⟨hx, .refl⟩).2
theorem rch_in {n : Nat} {rows : List (List Int)} (hr : rowsIn n rows) {x y : Int} (hx : 0 ≤ x ∧ x < n) (h : Rch (rowE rows) x y) : 0 ≤ y ∧ y < n :=
  h.closed (S := fun y : Int => 0 ≤ y ∧ y < n) (fun _ _ _ h => row_in hr h.2) hx
theorem lst_rch {n : Nat} {rows : List (List Int)} (hr : rowsIn n rows) {x : Int} (hx : 0 ≤ x ∧ x < n) (y : Int) : y ∈ lstI 0 (reachB rows [x]) ↔ Rch (rowE rows) x y := by
  rw [reach_iff hr, rowE_rch hr hx.1]
  constructor
  · rintro ⟨a, ha, _, h⟩
    rw [List.mem_singleton.1 ha] at h
    exact h
  · intro h
    exact ⟨x, by simp, hasB_of hx, h⟩
theorem partR_len (n : Nat) (rows : List (List Int)) : (partR n rows).length = n := by simp [partR]
theorem partR_spec {n : Nat} {rows : List (List Int)} (hr : rowsIn n rows) {x : Int} (hx : 0 ≤ x ∧ x < n) : MinP (rowE rows) x ((partR n rows).getD x.toNat 0) := by
  have e : (partR n rows).getD x.toNat 0 = minI ((lstI 0 (reachB rows [x])).filter fun b => (lstI 0 (reachB rows [b])).contains x) := by
    unfold partR
    rw [List.getD_eq_getElem?_getD, List.getElem?_map, List.getElem?_range (by omega)]
    have : ((x.toNat : Nat) : Int) = x := by omega
    simp [this]
  have hm : ∀ y, y ∈ (lstI 0 (reachB rows [x])).filter (fun b => (lstI 0 (reachB rows [b])).contains x) ↔ sccP (rowE rows) x y := fun y => by
    rw [List.mem_filter, lst_rch hr hx, List.contains_iff_mem]
    constructor
    · rintro ⟨h1, h2⟩
      exact ⟨h1, (lst_rch hr (rch_in hr hx h1) x).1 h2⟩
    · rintro ⟨h1, h2⟩
      exact ⟨h1, (lst_rch hr (rch_in hr hx h1) x).2 h2⟩
  rw [e]
  obtain ⟨h1, h2⟩ := minI_spec (l := (lstI 0 (reachB rows [x])).filter fun b => (lstI 0 (reachB rows [b])).contains x) (List.length_pos_of_mem ((hm x).2 (sccP.refl x)))
  exact ⟨(hm _).1 h1, fun y hy => h2 y ((hm y).2 hy)⟩
end Go.Ab
