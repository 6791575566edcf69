/- cfg: the procedures that can come to their end. -/
import Derived.Laws.StructEq
import Derived.ChangeKeysEq
import Derived.Test.YtabdfngdamikiaaGreatCfg7
import Derived.Test.YtabdfngdamikiaaGreatCfg10
import Derived.Test.YtabdfngdamikiaaGreatCfg13
set_option linter.unusedSimpArgs false
set_option linter.unusedVariables false
namespace Go.Ab
open Go.Proofs
def endS (p : Pg) (st : List Str × Bool) (k : Nat) : List Str × Bool := match p.procs[k]? with
  | some f => bif !(st.1.any fun s => f.name == s) && endsW (newWay p k f) f st.1 then (st.1 ++ [f.name], true) else st
  | none => st
def roundE (p : Pg) (out : List Str) : List Str × Bool := (List.range p.procs.length).foldl (endS p) (out, false)
def endsF (p : Pg) : Nat → List Str → List Str
  | 0, out => out
  | k + 1, out => bif (roundE p out).2 then endsF p k (roundE p out).1 else (roundE p out).1
/-- How many are not told yet. -/
def leftN (p : Pg) (out : List Str) : Nat := p.procs.countP fun f => !(out.any fun s => f.name == s)
theorem countP_less {α : Type} {p q : α → Bool} : ∀ {l : List α}, (∀ x ∈ l, q x = true → p x = true) → (∃ x ∈ l, p x = true ∧ q x = false) → l.countP q < l.countP p
  | [], _, h => by obtain ⟨x, hx, _⟩ := h; cases hx
  | a :: r, h1, h2 => by
    have hle : r.countP q ≤ r.countP p := List.countP_mono_left fun x hx => h1 x (List.mem_cons_of_mem _ hx)
    rw [List.countP_cons, List.countP_cons]
    have ha := h1 a List.mem_cons_self
    obtain ⟨x, hx, h3, h4⟩ := h2
    rcases List.mem_cons.1 hx with rfl | hx
    · rw [h3, h4]; simp; omega
    · have := countP_less (fun y hy => h1 y (List.mem_cons_of_mem _ hy)) ⟨x, hx, h3, h4⟩
      cases hq : q a with
      | true => rw [ha hq]; simp; omega
      | false => cases p a <;> simp <;> omega
theorem leftN_add {p : Pg} {out : List Str} {f : Pr} (hf : f ∈ p.procs) (h : (out.any fun s => f.name == s) = false) : leftN p (out ++ [f.name]) < leftN p out := by
  unfold leftN
  refine countP_less (fun g _ hg => ?_) ⟨f, hf, by rw [h]; rfl, by rw [List.any_append]; simp⟩
  rw [List.any_append] at hg
  cases hq : out.any fun s => g.name == s with
  | false => rfl
  | true => rw [hq] at hg; cases hg
def endsR (p : Pg) : List Str := bif chkB p then sortS (endsF p (p.procs.length + 1) []) else []
set_option maxHeartbeats 2000000 in
set_option maxRecDepth 100000 in
theorem cfg_Ends (p : Pg) (hf : Fit p) : SpecP Tryz.prog 31 [.agg p.cells] (fun r => r = eStrs (endsR p)) := by
  refine SpecP.body I_cfg_Ends tabOK Tryz.func31 rfl Tryz.call31 (by show 1 ≤ _; decide) ?_
  conv => whnf
  cases hc : chkB p with
  | false =>
    have e : endsR p = [] := by unfold endsR; rw [hc]; rfl
    have hA : ¬ (allB p).1 = 0 := by unfold chkB at hc; simpa using hc
    rw [e]
    repeat' (first | (refine CallK.pure (check_May p hf) (by repeat' (first | exact ArgP.nil | refine ArgP.cons ?_ ?_ | exact Sub.refl _ | exact Sub.tt rfl | exact Sub.ff rfl | exact Sub.int (by omega))) ?_; rintro _ rfl; conv => whnf) | (refine Br.dec2 (fun _ => ?_) (fun _ => ?_) <;> first | (exfalso; omega) | conv => whnf))
    all_goals first
      | exact ⟨_, .p Sub.nils, rfl⟩
      | (exfalso; exact hA (by assumption))
  | true =>
    obtain ⟨hg, hpl, hcn⟩ := chk_cnt hc
    have hA : (allB p).1 = 0 := by unfold chkB at hc; simpa using hc
    have e : endsR p = sortS (endsF p (p.procs.length + 1) []) := by unfold endsR; rw [hc]; rfl
    rw [e]
    repeat' (first | ((first | (refine CallK.pure (check_May p hf) (by repeat' (first | exact ArgP.nil | refine ArgP.cons ?_ ?_ | exact Sub.refl _ | exact Sub.tt rfl | exact Sub.ff rfl | exact Sub.int (by omega))) ?_; rintro _ rfl) | (refine CallK.pure (flat_New p (by omega) (by omega)) (.cons (Sub.refl _) .nil) ?_; rintro _ rfl)); conv => whnf) | (refine Br.dec2 (fun _ => ?_) (fun _ => ?_) <;> first | (exfalso; omega) | conv => whnf))
    have hl : (p.procs.map fun f => AV.agg f.cells).length = p.procs.length := List.length_map _
    have hl0 : leftN p [] ≤ p.procs.length := List.countP_le_length
    refine LoopK.inv tabOK (fun x : List Str × Bool => ⟨[(1, .p (.ip p.cells)), (3, .p (.ip (sheetOf p).cells)), (4, .hd 0 0 x.1.length), (5, .p (bv x.2))], [(0, .own 9 1 (x.1.map .str))]⟩)
      (fun x => x.1.length + leftN p x.1 ≤ p.procs.length ∧ (x.2 = true → ∃ k, leftN p x.1 < k ∧ endsF p k x.1 = endsF p (p.procs.length + 1) []) ∧ (x.2 = false → x.1 = endsF p (p.procs.length + 1) [])) (fun x => 2 * leftN p x.1 + x.2.toNat) ([], true)
      (Le.mk [(0, .own 9 1 [])] (by simp [Chunk.new0]; rfl) (by simp) (by simp) (.cons (.refl _) (.cons (.refl _) (.cons (.nil List.mem_cons_self) (.cons (.refl _) .nil)))) (.new List.mem_cons_self .nil))
      ⟨by simpa using hl0, fun _ => ⟨p.procs.length + 1, by show leftN p [] < _; omega, rfl⟩, by simp⟩ ?_
    rintro ⟨out, more⟩ ⟨h1, h2, h3⟩
    simp only at h1 h2 h3 ⊢
    cases more with
    | false =>
      have h3 := h3 rfl
      rw [← h3]
      conv => whnf
      repeat' (refine CallK.heap [(1000, 0)] 0 (by repeat' (first | exact ArgsH.nil | refine ArgsH.cons ?_ ?_ | exact LSub.refl _ | exact LSub.p Sub.nils | exact LSub.p (Sub.tt rfl) | exact LSub.p (Sub.ff rfl) | exact LSub.p (Sub.int (by omega)))) (by refine BlksH.cons (j := 0) rfl rfl ?_ ?_; exact CSub.refl _; exact BlksH.nil) (slices_Sort out (by omega)) rfl rfl ?_; rintro l' H' ⟨rfl, rfl⟩; conv => whnf)
      exact ⟨_, .hd rfl (by simp [sortS_len]), rfl⟩
    | true =>
      obtain ⟨k, hk1, hk2⟩ := h2 rfl
      clear h2 h3
      conv => whnf
      repeat' (intro (_ : _ ≤ 9223372036854775807); conv => whnf)
      refine LoopK.inv tabOK (fun x : Nat × List Str × Bool => ⟨[(1, .p (.ip p.cells)), (3, .p (.ip (sheetOf p).cells)), (4, .hd 0 0 x.2.1.length), (5, .p (bv x.2.2)), (15, .p (.sl (p.procs.map fun f => .agg f.cells))), (16, .p (.int .i64 (p.procs.map fun f => AV.agg f.cells).length)), (17, .p (.int .i64 x.1))], [(0, .own 9 1 (x.2.1.map .str))]⟩)
        (fun x => x.1 ≤ p.procs.length ∧ ((List.range p.procs.length).drop x.1).foldl (endS p) x.2 = roundE p out ∧ x.2.1.length + leftN p x.2.1 ≤ p.procs.length ∧ leftN p x.2.1 + x.2.2.toNat ≤ leftN p out ∧ (x.2.2 = false → x.2.1 = out)) (fun x => p.procs.length - x.1) (0, out, false) (Le.of_eq rfl) ⟨Nat.zero_le _, rfl, h1, Nat.le_refl _, fun _ => rfl⟩ ?_
      rintro ⟨m, o, b⟩ ⟨h4, h5, h6, h7, h8⟩
      simp only at h4 h5 h6 h7 h8 ⊢
      rcases Nat.lt_or_ge m p.procs.length with hm | hm
      rotate_left 1
      · rw [List.drop_eq_nil_of_le (by simpa using hm), List.foldl_nil] at h5
        obtain ⟨k', rfl⟩ : ∃ k', k = k' + 1 := ⟨k - 1, by omega⟩
        rw [endsF, ← h5] at hk2
        conv => whnf
        repeat' (refine Br.dec (fun _ => ?_) (fun _ => ?_) <;> first | (exfalso; omega) | conv => whnf)
        cases b with
        | true => exact ⟨(o, true), ⟨h6, fun _ => ⟨k', by show leftN p o < k'; simp only [Bool.toNat_true] at h7; omega, hk2⟩, by simp⟩, by simp only [Bool.toNat_true] at h7 ⊢; omega, Le.mk [] (by simp) (by simp) (by simp) (.cons (.refl _) (.cons (.refl _) (.cons (.refl _) (.cons (.refl _) .nil)))) (.cons rfl (.refl _) .nil)⟩
        | false => exact ⟨(o, false), ⟨h6, by simp, fun _ => hk2⟩, by simp only [Bool.toNat_true, Bool.toNat_false] at h7 ⊢; omega, Le.mk [] (by simp) (by simp) (by simp) (.cons (.refl _) (.cons (.refl _) (.cons (.refl _) (.cons (.refl _) .nil)))) (.cons rfl (.refl _) .nil)⟩
      have hmr : m < (List.range p.procs.length).length := by simpa using hm
      rw [List.drop_eq_getElem_cons hmr, List.foldl_cons, List.getElem_range] at h5
      have hkj : p.procs[m]? = some p.procs[m] := by simp
      obtain ⟨w1, w2, w3⟩ := chk_way hc hkj
      obtain ⟨_, _, _, hsl, hsp⟩ := sheet_spec p
      obtain ⟨_, _, hle, _⟩ := hsp m _ hkj
      have hreal : ∀ t ∈ (newWay p m p.procs[m]).real, t.src = 0 ∨ (1 ≤ t.src ∧ t.src ≤ (sheetOf p).l.length) := fun t ht => by
        have := (w2 t (normS_mem ht)).1
        omega
      have hrl : (newWay p m p.procs[m]).real.length ≤ 100000 := by
        have h9 := normS_len (stepsRaw p m p.procs[m])
        have h10 := stepsRaw_len p m p.procs[m]
        show (normS (stepsRaw p m p.procs[m])).length ≤ 100000
        omega
      have hE := way_Way_Ends (newWay p m p.procs[m]) p.procs[m] hkj hcn rfl hreal hrl o
      have hst : endS p (o, b) m = bif !(o.any fun s => p.procs[m].name == s) && endsW (newWay p m p.procs[m]) p.procs[m] o then (o ++ [p.procs[m].name], true) else (o, b) := by unfold endS; rw [hkj]
      rw [hst] at h5
      conv => whnf
      repeat' (first | ((first | (refine And.intro rfl ?_) | (refine And.intro ⟨by decide, by decide⟩ ?_) | (refine BsK.pure (fun x hx => by rcases List.mem_singleton.1 hx with rfl; rfl) rfl ?_) | (refine IdxK.map (by omega) (fun _ => rfl) ?_) | (refine Wr.i64 (by omega) (by omega) ?_) | (refine CallK.borrow (slices_Contains_string_string_ o p.procs[m].name) (.cons (.hd rfl (by simp)) (.cons (.p (Sub.refl _)) .nil)) (by rintro _ rfl; rfl) ?_; rintro _ rfl) | (refine CallK.pure (way_New p m p.procs[m] hkj (by omega) w1 w3) (.cons (Sub.refl _) (.cons (Sub.refl _) .nil)) ?_; rintro _ rfl) | (refine CallK.borrow hE (.cons (.p (Sub.refl _)) (.cons (.hd rfl (by simp)) .nil)) (by rintro _ rfl; rfl) ?_; rintro _ rfl) | (refine AppK.str1 (by simp) (by rw [List.length_map]; omega) ?_)); conv => whnf) | (refine Br.dec (fun _ => ?_) (fun _ => ?_) <;> first | (exfalso; omega) | conv => whnf) | (refine Br.n (fun _ => ?_) (fun _ => ?_) <;> conv => whnf) | (refine Br.b (fun _ => ?_) (fun _ => ?_) <;> conv => whnf))
      all_goals first
        | (have e1 : (!(o.any fun s => p.procs[m].name == s) && endsW (newWay p m p.procs[m]) p.procs[m] o) = true := by simp [*]; done
           rw [e1, cond_true] at h5
           have h9 := leftN_add (p := p) (out := o) (f := p.procs[m]) (List.getElem_mem hm) (by assumption)
           exact ⟨(m + 1, o ++ [p.procs[m].name], true), ⟨by simp only; omega, h5, by simp; omega, by show leftN p (o ++ [p.procs[m].name]) + 1 ≤ _; omega, by simp⟩, by simp only; omega, Le.of_eq (by simp only [List.length_append, List.map_append]; rfl)⟩)
        | (have e1 : (!(o.any fun s => p.procs[m].name == s) && endsW (newWay p m p.procs[m]) p.procs[m] o) = false := by simp [*]; done
           rw [e1, cond_false] at h5
           exact ⟨(m + 1, o, b), ⟨by simp only; omega, h5, h6, h7, h8⟩, by simp only; omega, Le.of_eq rfl⟩)
end Go.Ab
namespace Go.Ab
open Go.Proofs
/-- One step stands ahead of another one. -/
def ltSt (a b : Step) : Prop := rankI a.src < rankI b.src ∨ (rankI a.src = rankI b.src ∧ rankI a.dst < rankI b.dst)
def okS1 (s : Step) : Prop := okSt s ∧ s.kind = 1
theorem Step.eq_of {a b : Step} (h1 : a.src = b.src) (h2 : a.dst = b.dst) (h3 : a.kind = b.kind) : a = b := by
  cases a; cases b; simp_all
theorem stepLt_iff {a b : Step} : stepLt a b = true ↔ rankI a.src < rankI b.src ∨ (rankI a.src = rankI b.src ∧ (rankI a.dst < rankI b.dst ∨ (rankI a.dst = rankI b.dst ∧ a.kind < b.kind))) := by
  have h : stepLt a b = decide (stepC a b < 0) := rfl
  rw [h, decide_eq_true_eq]
  unfold stepC
  simp only [orI]
  split
  · rename_i h1
    rw [cmpI_zero] at h1
    split
    · rename_i h2
      rw [cmpI_zero] at h2
      split
      · rename_i h3
        rw [cmpI_zero] at h3
        omega
      · rw [cmpI_neg]; omega
    · rename_i h2
      rw [cmpI_zero] at h2
      rw [cmpI_neg]
      omega
  · rename_i h1
    rw [cmpI_zero] at h1
    rw [cmpI_neg]
    omega
theorem sortSt_sorted (l : List Step) : (sortSt l).Pairwise fun a b => stepLt b a = false := by
  have := List.pairwise_mergeSort (le := fun x y => !stepLt y x) (fun a b c h1 h2 => by
    simp only [Bool.not_eq_true'] at h1 h2 ⊢
    rw [Bool.eq_false_iff, ne_eq, stepLt_iff] at h1 h2 ⊢
    omega) (fun a b => by
    cases h1 : stepLt b a with
    | false => rfl
    | true =>
      have h2 : stepLt a b = false := by
        rw [Bool.eq_false_iff, ne_eq, stepLt_iff]
        rw [stepLt_iff] at h1
        omega
      rw [h2]
      rfl) l
  refine List.Pairwise.imp ?_ this
  intro a b h
  simpa using h
theorem sameStep_iff {a b : Step} (ha : okS1 a) (hb : okS1 b) : sameStep a b = true ↔ a = b := by
  unfold sameStep
  simp only [Bool.and_eq_true, decide_eq_true_eq]
  refine ⟨fun h => Step.eq_of h.1 h.2 (by rw [ha.2, hb.2]), fun h => by rw [h]; exact ⟨rfl, rfl⟩⟩
theorem ltSt_of {a b : Step} (ha : okS1 a) (hb : okS1 b) (h : stepLt b a = false) (hne : a ≠ b) : ltSt a b := by
  rw [Bool.eq_false_iff, ne_eq, stepLt_iff] at h
  unfold ltSt
  by_cases h1 : rankI a.src = rankI b.src
  · by_cases h2 : rankI a.dst = rankI b.dst
    · exact absurd (Step.eq_of (rankI_inj ha.1.1 hb.1.1 h1) (rankI_inj ha.1.2 hb.1.2 h2) (by rw [ha.2, hb.2])) hne
    · omega
  · omega
theorem ltSt_trans {a b c : Step} (h : ltSt a b) (h' : ltSt b c) : ltSt a c := by unfold ltSt at *; omega
theorem ltSt_irrefl {a : Step} (h : ltSt a a) : False := by unfold ltSt at h; omega
theorem compFrom_spec : ∀ (l : List Step) (a : Step), okS1 a → (∀ s ∈ l, okS1 s) → (a :: l).Pairwise (fun a b => stepLt b a = false) → (a :: compFrom a l).Pairwise ltSt ∧ ∀ s, s ∈ a :: compFrom a l ↔ s ∈ a :: l
  | [], a, _, _, _ => ⟨by simp [compFrom], by simp [compFrom]⟩
  | b :: r, a, ha, hl, h => by
    have hb := hl b List.mem_cons_self
    have hr : ∀ s ∈ r, okS1 s := fun s hs => hl s (List.mem_cons_of_mem _ hs)
    rw [List.pairwise_cons] at h
    obtain ⟨h1, h2⟩ := h
    obtain ⟨i1, i2⟩ := compFrom_spec r b hb hr h2
    rw [compFrom]
    cases hs : sameStep b a with
    | true =>
      obtain rfl := (sameStep_iff hb ha).1 hs
      rw [cond_true]
      exact ⟨i1, fun s => by rw [i2]; simp⟩
    | false =>
      rw [cond_false]
      have hne : a ≠ b := fun e => by
        rw [(sameStep_iff hb ha).2 e.symm] at hs
        cases hs
      have hlt := ltSt_of ha hb (h1 b List.mem_cons_self) hne
      refine ⟨?_, fun s => by rw [List.mem_cons, i2, ← List.mem_cons (a := s) (b := a)]⟩
      rw [List.pairwise_cons]
      refine ⟨fun s hsm => ?_, i1⟩
      rcases List.mem_cons.1 hsm with rfl | hsm
      · exact hlt
      · exact ltSt_trans hlt ((List.pairwise_cons.1 i1).1 s hsm)
theorem normS_spec {l : List Step} (hok : ∀ s ∈ l, okS1 s) : (normS l).Pairwise ltSt ∧ ∀ s, s ∈ normS l ↔ s ∈ l := by
  have hp : ∀ s, s ∈ sortSt l ↔ s ∈ l := fun s => (sortSt_perm l).mem_iff
  have hs := sortSt_sorted l
  unfold normS
  cases hq : sortSt l with
  | nil =>
    rw [hq] at hp
    exact ⟨by simp [compF], fun s => by rw [← hp]; simp [compF]⟩
  | cons a r =>
    rw [hq] at hp hs
    have hok' : ∀ s ∈ a :: r, okS1 s := fun s h => hok s ((hp s).1 h)
    obtain ⟨h1, h2⟩ := compFrom_spec r a (hok' a List.mem_cons_self) (fun s h => hok' s (List.mem_cons_of_mem _ h)) hs
    exact ⟨h1, fun s => by rw [compF, h2, hp]⟩
theorem stepsRaw_ok1 {p : Pg} (h : chkB p = true) {j : Nat} {f : Pr} (hj : p.procs[j]? = some f) : ∀ s ∈ stepsRaw p j f, okS1 s := by
  obtain ⟨_, _, h3⟩ := chk_way h hj
  intro s hs
  refine ⟨h3 s hs, ?_⟩
  unfold stepsRaw at hs
  rcases List.mem_cons.1 hs with rfl | hs
  · rfl
  · obtain ⟨it, _, hz⟩ := List.mem_flatMap.1 hs
    obtain ⟨y, _, rfl⟩ := List.mem_map.1 hz
    rfl
/-- A procedure's steps: in order, each once. -/
theorem real_spec {p : Pg} (h : chkB p = true) {j : Nat} {f : Pr} (hj : p.procs[j]? = some f) : (newWay p j f).real.Pairwise ltSt ∧ ∀ s, s ∈ (newWay p j f).real ↔ s ∈ stepsRaw p j f := normS_spec (stepsRaw_ok1 h hj)
end Go.Ab
namespace Go.Ab
open Go.Proofs
def satI (x : Int) : Int := if x > 20000 then 20001 else x
theorem satI_sat {a b : Int} (hb : 0 ≤ b) : satI (satI a + b) = satI (a + b) := by
  unfold satI
  split <;> split <;> (try split) <;> omega
theorem satI_rng {a : Int} (h : 0 ≤ a) : 0 ≤ satI a ∧ satI a ≤ 20001 := by
  unfold satI
  split <;> omega
theorem satI_id {a : Int} (h : a ≤ 20001) : satI a = a := by
  unfold satI
  split <;> omega
theorem satI_full {a b : Int} (h : a > 20000) (h1 : a ≤ 20001) (hb : 0 ≤ b) : a = satI (a + b) := by
  unfold satI
  split <;> omega
set_option maxRecDepth 100000 in
theorem whittlerref3_weighText (s : Str) (n : Int) (hn : 0 ≤ n ∧ n ≤ 20001) : SpecP Tryz.prog 63 [.str s, .int .i64 n] (fun r => r = .int .i64 (satI (n + (1 + s.length : Nat)))) := by
  refine SpecP.body I_whittlerref3_weighText tabOK Tryz.func63 rfl Tryz.call63 (by show 2 ≤ _; decide) ?_
  conv => whnf
  repeat' (first | ((first | (intro (_ : _ ≤ 9223372036854775807)) | (refine Wr.i64 (by omega) (by omega) ?_)); conv => whnf) | (refine Br.dec (fun _ => ?_) (fun _ => ?_) <;> first | (exfalso; omega) | conv => whnf))
  all_goals exact RetK.int (by unfold satI; (repeat' split) <;> omega)
set_option maxHeartbeats 1000000 in
set_option maxRecDepth 100000 in
theorem whittlerref3_weighTexts (l : List Str) (n : Int) (hn : 0 ≤ n ∧ n ≤ 20001) : SpecP Tryz.prog 62 [eStrs l, .int .i64 n] (fun r => r = .int .i64 (satI (n + wTxs l))) := by
  refine SpecP.body I_whittlerref3_weighTexts tabOK Tryz.func62 rfl Tryz.call62 (by show 2 ≤ _; decide) ?_
  conv => whnf
  skip
  have hl : (l.map AV.str).length = l.length := List.length_map _
  refine LoopK.inv tabOK (fun x : Nat × Int => ⟨[(0, .p (eStrs l)), (1, .p (.int .i64 x.2)), (5, .p (.int .i64 x.1))], []⟩) (fun x => x.1 ≤ l.length ∧ (0 ≤ x.2 ∧ x.2 ≤ 20001) ∧ satI (x.2 + wTxs (l.drop x.1)) = satI (n + wTxs l)) (fun x => l.length - x.1) (0, n) (Le.of_eq rfl) ⟨Nat.zero_le _, hn, rfl⟩ ?_
  rintro ⟨j, m⟩ ⟨h2, h3, h4⟩
  simp only at h2 h3 h4 ⊢
  rcases Nat.lt_or_ge j l.length with hj | hj
  · rw [List.drop_eq_getElem_cons hj, wTxs] at h4
    conv => whnf
    repeat' (first | ((first | (intro (_ : _ ≤ 9223372036854775807)) | (refine CallK.pure (whittlerref3_weighText _ _ h3) (by repeat' (first | exact ArgP.nil | refine ArgP.cons ?_ ?_ | exact Sub.refl _ | exact Sub.tt rfl | exact Sub.ff rfl | exact Sub.int (by omega))) ?_; rintro _ rfl) | (refine IdxK.map (by omega) (fun _ => rfl) ?_) | (refine Wr.i64 (by omega) (by omega) ?_)); conv => whnf) | (refine Br.dec (fun _ => ?_) (fun _ => ?_) <;> first | (exfalso; omega) | conv => whnf))
    · have h5 : satI (satI (m + (1 + l[j].length : Nat)) + wTxs (l.drop (j + 1))) = satI (n + wTxs l) := by
        rw [satI_sat (by omega), ← h4]
        congr 1
        omega
      exact ⟨(j + 1, satI (m + (1 + l[j].length : Nat))), ⟨by simp only; omega, satI_rng (by omega), h5⟩, by simp only; omega, Le.of_eq rfl⟩
    · exact RetK.int (by rw [← h4]; exact satI_full (by omega) h3.2 (by omega))
  · rw [List.drop_eq_nil_of_le hj, wTxs] at h4
    conv => whnf
    repeat' (first | (intro (_ : _ ≤ 9223372036854775807); conv => whnf) | (refine Br.dec (fun _ => ?_) (fun _ => ?_) <;> first | (exfalso; omega) | conv => whnf))
    exact RetK.int (by rw [← h4, satI_id (by omega)]; simp)
set_option maxHeartbeats 2000000 in
set_option maxRecDepth 100000 in
theorem whittlerref3_weighExpr : ∀ (k : Nat) (x : X) (_ : wX x < k) (n : Int) (_ : 0 ≤ n ∧ n ≤ 20001), SpecP Tryz.prog 111 [.agg x.cells, .int .i64 n] (fun r => r = .int .i64 (satI (n + wX x))) := by
  intro k
  induction k with
  | zero => intro x h; omega
  | succ k ih =>
    intro x hx n hn
    have hxe : wX x = 1 + x.name.length + wXs x.kids := by cases x; rw [wX]; rfl
    have hkl := X.avs_len x.kids
    refine SpecP.body I_whittlerref3_weighExpr tabOK Tryz.func111 rfl Tryz.call111 (by show 2 ≤ _; decide) ?_
    conv => whnf
    repeat' (refine CallK.pure (whittlerref3_weighText _ _ hn) (by repeat' (first | exact ArgP.nil | refine ArgP.cons ?_ ?_ | exact Sub.refl _ | exact Sub.tt rfl | exact Sub.ff rfl | exact Sub.int (by omega))) ?_; rintro _ rfl; conv => whnf)
    refine LoopK.inv tabOK (fun y : Nat × Int => ⟨[(1, .p (.int .i64 y.2)), (2, .p (.ip x.cells)), (5, .p (.int .i64 y.1))], []⟩) (fun y => y.1 ≤ x.kids.length ∧ (0 ≤ y.2 ∧ y.2 ≤ 20001) ∧ satI (y.2 + wXs (x.kids.drop y.1)) = satI (n + wX x)) (fun y => x.kids.length - y.1) (0, satI (n + (1 + x.name.length : Nat))) (Le.of_eq rfl) ⟨Nat.zero_le _, satI_rng (by omega), by
      show satI (satI (n + (1 + x.name.length : Nat)) + wXs x.kids) = _
      rw [satI_sat (by omega), hxe]
      congr 1
      omega⟩ ?_
    rintro ⟨j, m⟩ ⟨h2, h3, h4⟩
    simp only at h2 h3 h4 ⊢
    rcases Nat.lt_or_ge j x.kids.length with hj | hj
    · rw [List.drop_eq_getElem_cons hj, wXs] at h4
      have hkw : wX x.kids[j] < k := by
        have : ∀ (l : List X) (y : X), y ∈ l → wX y ≤ wXs l := fun l => by
          induction l with
          | nil => intro y h; cases h
          | cons a r ih =>
            intro y h
            rw [wXs]
            rcases List.mem_cons.1 h with rfl | h
            · omega
            · have := ih y h; omega
        have := this x.kids _ (List.getElem_mem hj)
        omega
      conv => whnf
      repeat' (first | ((first | (intro (_ : _ ≤ 9223372036854775807)) | (refine IdxK.xs (by omega) ?_) | (refine Wr.i64 (by omega) (by omega) ?_) | (refine CallK.pure (ih (x.kids[j]'hj) hkw m h3) (.cons (Sub.refl _) (.cons (Sub.refl _) .nil)) ?_; rintro _ rfl)); conv => whnf) | (refine Br.dec (fun _ => ?_) (fun _ => ?_) <;> first | (exfalso; omega) | conv => whnf))
      · have h5 : satI (satI (m + wX x.kids[j]) + wXs (x.kids.drop (j + 1))) = satI (n + wX x) := by
          rw [satI_sat (by omega), ← h4]
          congr 1
          omega
        exact ⟨(j + 1, satI (m + wX x.kids[j])), ⟨by simp only; omega, satI_rng (by omega), h5⟩, by simp only; omega, Le.of_eq rfl⟩
      · exact RetK.int (by rw [← h4]; exact satI_full (by omega) h3.2 (by omega))
    · rw [List.drop_eq_nil_of_le hj, wXs] at h4
      conv => whnf
      repeat' (first | (intro (_ : _ ≤ 9223372036854775807); conv => whnf) | (refine Br.dec (fun _ => ?_) (fun _ => ?_) <;> first | (exfalso; omega) | conv => whnf))
      exact RetK.int (by rw [← h4, satI_id (by omega)]; simp)
theorem wL_mem : ∀ (l : List S) (y : S), y ∈ l → wS y ≤ wL l
  | [], y, h => by cases h
  | a :: r, y, h => by
    rw [wL]
    rcases List.mem_cons.1 h with rfl | h
    · omega
    · have := wL_mem r y h; omega
set_option maxHeartbeats 4000000 in
set_option maxRecDepth 100000 in
theorem whittlerref3_weighStmts : ∀ (k : Nat) (l : List S) (_ : wL l < k) (n : Int) (_ : 0 ≤ n ∧ n ≤ 20001), SpecP Tryz.prog 64 [eSs l, .int .i64 n] (fun r => r = .int .i64 (satI (n + wL l))) := by
  intro k
  induction k with
  | zero => intro l h; omega
  | succ k ih =>
    intro l hl n hn
    have hkl := S.avs_len l
    refine SpecP.body I_whittlerref3_weighStmts tabOK Tryz.func64 rfl Tryz.call64 (by show 2 ≤ _; decide) ?_
    conv => whnf
    skip
    refine LoopK.inv tabOK (fun y : Nat × Int => ⟨[(0, .p (eSs l)), (1, .p (.int .i64 y.2)), (5, .p (.int .i64 y.1))], []⟩) (fun y => y.1 ≤ l.length ∧ (0 ≤ y.2 ∧ y.2 ≤ 20001) ∧ satI (y.2 + wL (l.drop y.1)) = satI (n + wL l)) (fun y => l.length - y.1) (0, n) (Le.of_eq rfl) ⟨Nat.zero_le _, hn, rfl⟩ ?_
    rintro ⟨j, m⟩ ⟨h2, h3, h4⟩
    simp only at h2 h3 h4 ⊢
    rcases Nat.lt_or_ge j l.length with hj | hj
    rotate_left 1
    · rw [List.drop_eq_nil_of_le hj, wL] at h4
      conv => whnf
      repeat' (first | (intro (_ : _ ≤ 9223372036854775807); conv => whnf) | (refine Br.dec (fun _ => ?_) (fun _ => ?_) <;> first | (exfalso; omega) | conv => whnf))
      exact RetK.int (by rw [← h4, satI_id (by omega)]; simp)
    rw [List.drop_eq_getElem_cons hj, wL] at h4
    have hsw := wL_mem l _ (List.getElem_mem hj)
    have hse := wS_eq l[j]
    have q1 := satI_rng (a := m + wX l[j].x) (by omega)
    have q2 := satI_rng (a := satI (m + wX l[j].x) + wTxs l[j].labels) (by omega)
    have q3 := satI_rng (a := satI (satI (m + wX l[j].x) + wTxs l[j].labels) + (1 + l[j].name.length : Nat)) (by omega)
    conv => whnf
    repeat' (first | ((first | (intro (_ : _ ≤ 9223372036854775807)) | (refine DrawK.auto tabOK mixed (by kernel_rfl) ?_) | (refine And.intro rfl ?_) | (refine IdxK.ss (by omega) ?_) | (refine CallK.pure (whittlerref3_weighExpr (wX l[j].x+1) l[j].x (by omega) m h3) (.cons (Sub.refl _) (.cons (Sub.refl _) .nil)) ?_; rintro _ rfl) | (refine CallK.pure (whittlerref3_weighTexts l[j].labels _ q1) (.cons (Sub.refl _) (.cons (Sub.refl _) .nil)) ?_; rintro _ rfl) | (refine CallK.pure (whittlerref3_weighText l[j].name _ q2) (.cons (Sub.refl _) (.cons (Sub.refl _) .nil)) ?_; rintro _ rfl) | (refine CallK.pure (whittlerref3_weighText l[j].proc _ q3) (.cons (Sub.refl _) (.cons (Sub.refl _) .nil)) ?_; rintro _ rfl)); conv => whnf) | (refine Br.dec (fun _ => ?_) (fun _ => ?_) <;> first | (exfalso; omega) | conv => whnf))
    rotate_left 1
    · exact RetK.int (by rw [← h4]; exact satI_full (by omega) h3.2 (by omega))
    have q4 := satI_rng (a := satI (satI (satI (m + wX l[j].x) + wTxs l[j].labels) + (1 + l[j].name.length : Nat)) + (1 + l[j].proc.length : Nat)) (by omega)
    have h5 : satI (satI (satI (satI (satI (m + wX l[j].x) + wTxs l[j].labels) + (1 + l[j].name.length : Nat)) + (1 + l[j].proc.length : Nat)) + (wArgs l[j].args + (wL l[j].thn + wL l[j].els + wL (l.drop (j + 1))) : Nat)) = satI (n + wL l) := by
      rw [satI_sat (by omega), Int.add_assoc, satI_sat (by omega), Int.add_assoc, satI_sat (by omega), Int.add_assoc, satI_sat (by omega), ← h4, hse]
      congr 1
      omega
    generalize satI (satI (satI (satI (m + wX l[j].x) + wTxs l[j].labels) + (1 + l[j].name.length : Nat)) + (1 + l[j].proc.length : Nat)) = m0 at q4 h5 ⊢
    have hal : (l[j].args.map fun a => AV.agg a.cells).length = l[j].args.length := List.length_map _
    refine LoopK.inv tabOK (fun y : Nat × Int => ⟨[(0, .p (eSs l)), (1, .p (.int .i64 y.2)), (5, .p (.int .i64 j)), (6, .p (.ip l[j].cells)), (7, .p (.int .i64 y.1))], []⟩) (fun y => y.1 ≤ l[j].args.length ∧ (0 ≤ y.2 ∧ y.2 ≤ 20001) ∧ satI (y.2 + (wArgs (l[j].args.drop y.1) + (wL l[j].thn + wL l[j].els + wL (l.drop (j + 1))) : Nat)) = satI (n + wL l)) (fun y => l[j].args.length - y.1) (0, m0) (Le.of_eq rfl) ⟨Nat.zero_le _, q4, h5⟩ ?_
    rintro ⟨a, m2⟩ ⟨h6, h7, h8⟩
    simp only at h6 h7 h8 ⊢
    have fin : satI (m2 + (wL l[j].thn + wL l[j].els + wL (l.drop (j + 1)) : Nat)) = satI (n + wL l) → (0 ≤ satI (satI (m2 + wL l[j].thn) + wL l[j].els) ∧ satI (satI (m2 + wL l[j].thn) + wL l[j].els) ≤ 20001) ∧ satI (satI (satI (m2 + wL l[j].thn) + wL l[j].els) + wL (l.drop (j + 1))) = satI (n + wL l) := fun h => by
      have := satI_rng (a := m2 + wL l[j].thn) (by omega)
      refine ⟨satI_rng (by omega), ?_⟩
      rw [satI_sat (by omega), Int.add_assoc, satI_sat (by omega), ← h]
      congr 1
      omega
    have r1 := satI_rng (a := m2 + wL l[j].thn) (by omega)
    have full : m2 > 20000 → satI (m2 + (wL l[j].thn + wL l[j].els + wL (l.drop (j + 1)) : Nat)) = satI (n + wL l) := fun h => by
      rw [← h8, ← satI_full h h7.2 (by omega), ← satI_full h h7.2 (by omega)]
    rcases Nat.lt_or_ge a l[j].args.length with ha | ha
    rotate_left 1
    · have h9 : satI (m2 + (wL l[j].thn + wL l[j].els + wL (l.drop (j + 1)) : Nat)) = satI (n + wL l) := by
        rw [List.drop_eq_nil_of_le ha, wArgs, Nat.zero_add] at h8
        exact h8
      obtain ⟨f1, f2⟩ := fin h9
      conv => whnf
      repeat' (first | ((first | (intro (_ : _ ≤ 9223372036854775807)) | (refine DrawK.auto tabOK mixed (by kernel_rfl) ?_) | (refine Wr.i64 (by omega) (by omega) ?_) | (refine CallK.pure (ih l[j].thn (by omega) m2 h7) (.cons (Sub.refl _) (.cons (Sub.refl _) .nil)) ?_; rintro _ rfl) | (refine CallK.pure (ih l[j].els (by omega) _ r1) (.cons (Sub.refl _) (.cons (Sub.refl _) .nil)) ?_; rintro _ rfl)); conv => whnf) | (refine Br.dec (fun _ => ?_) (fun _ => ?_) <;> first | (exfalso; omega) | conv => whnf))
      all_goals exact ⟨(j + 1, satI (satI (m2 + wL l[j].thn) + wL l[j].els)), ⟨by simp only; omega, f1, f2⟩, by simp only; omega, Le.of_eq rfl⟩
    rw [List.drop_eq_getElem_cons ha, wArgs] at h8
    have q5 := satI_rng (a := m2 + wX l[j].args[a].x) (by omega)
    conv => whnf
    repeat' (first | ((first | (intro (_ : _ ≤ 9223372036854775807)) | (refine DrawK.auto tabOK mixed (by kernel_rfl) ?_) | (refine IdxK.map (by omega) (fun _ => rfl) ?_) | (refine Wr.i64 (by omega) (by omega) ?_) | (refine CallK.pure (whittlerref3_weighExpr (wX l[j].args[a].x+1) l[j].args[a].x (by omega) m2 h7) (.cons (Sub.refl _) (.cons (Sub.refl _) .nil)) ?_; rintro _ rfl) | (refine CallK.pure (whittlerref3_weighText l[j].args[a].name _ q5) (.cons (Sub.refl _) (.cons (Sub.refl _) .nil)) ?_; rintro _ rfl) | (refine CallK.pure (ih l[j].thn (by omega) m2 h7) (.cons (Sub.refl _) (.cons (Sub.refl _) .nil)) ?_; rintro _ rfl) | (refine CallK.pure (ih l[j].els (by omega) _ r1) (.cons (Sub.refl _) (.cons (Sub.refl _) .nil)) ?_; rintro _ rfl)); conv => whnf) | (refine Br.dec (fun _ => ?_) (fun _ => ?_) <;> first | (exfalso; omega) | conv => whnf))
    · have h10 : satI (satI (satI (m2 + wX l[j].args[a].x) + (1 + l[j].args[a].name.length : Nat)) + (wArgs (l[j].args.drop (a + 1)) + (wL l[j].thn + wL l[j].els + wL (l.drop (j + 1))) : Nat)) = satI (n + wL l) := by
        rw [satI_sat (by omega), Int.add_assoc, satI_sat (by omega), ← h8]
        congr 1
        omega
      exact ⟨(a + 1, satI (satI (m2 + wX l[j].args[a].x) + (1 + l[j].args[a].name.length : Nat))), ⟨by simp only; omega, satI_rng (by omega), h10⟩, by simp only; omega, Le.of_eq rfl⟩
    · obtain ⟨f1, f2⟩ := fin (full (by omega))
      exact ⟨(j + 1, satI (satI (m2 + wL l[j].thn) + wL l[j].els)), ⟨by simp only; omega, f1, f2⟩, by simp only; omega, Le.of_eq rfl⟩
end Go.Ab
namespace Go.Ab
open Go.Proofs
def fitB (p : Pg) : Bool := decide (wPg p ≤ 20000)
set_option maxHeartbeats 4000000 in
set_option maxRecDepth 100000 in
theorem whittlerref3_Fits (p : Pg) : SpecP Tryz.prog 16 [.agg p.cells] (fun r => r = .bool (fitB p)) := by
  refine SpecP.body I_whittlerref3_Fits tabOK Tryz.func16 rfl Tryz.call16 (by show 1 ≤ _; decide) ?_
  conv => whnf
  have hl : (p.procs.map fun f => AV.agg f.cells).length = p.procs.length := List.length_map _
  have q0 := satI_rng (a := 0 + wTxs p.globals) (by omega)
  repeat' (refine CallK.pure (whittlerref3_weighTexts p.globals 0 (by omega)) (.cons (Sub.refl _) (.cons (Sub.refl _) .nil)) ?_; rintro _ rfl; conv => whnf)
  refine LoopK.inv tabOK (fun y : Nat × Int => ⟨[(1, .p (.ip p.cells)), (3, .p (.int .i64 y.2)), (4, .p (.int .i64 y.1))], []⟩) (fun y => y.1 ≤ p.procs.length ∧ (0 ≤ y.2 ∧ y.2 ≤ 20001) ∧ satI (y.2 + wPrs (p.procs.drop y.1)) = satI (wPg p : Nat)) (fun y => p.procs.length - y.1) (0, satI (0 + wTxs p.globals)) (Le.of_eq rfl) ⟨Nat.zero_le _, q0, by
    show satI (satI (0 + wTxs p.globals) + wPrs p.procs) = _
    rw [satI_sat (by omega)]
    congr 1
    unfold wPg
    omega⟩ ?_
  rintro ⟨j, m⟩ ⟨h2, h3, h4⟩
  simp only at h2 h3 h4 ⊢
  have last : ∀ {x : Int}, 0 ≤ x ∧ x ≤ 20001 → satI x = satI (wPg p : Nat) → (decide (x ≤ 20000)) = fitB p := fun {x} hx h => by
    unfold fitB
    unfold satI at h
    by_cases h1 : wPg p ≤ 20000
    · rw [decide_eq_true h1, decide_eq_true_eq]
      split at h <;> split at h <;> omega
    · rw [decide_eq_false h1, decide_eq_false_iff_not]
      split at h <;> split at h <;> omega
  rcases Nat.lt_or_ge j p.procs.length with hj | hj
  rotate_left 1
  · rw [List.drop_eq_nil_of_le hj, wPrs] at h4
    conv => whnf
    repeat' (first | (intro (_ : _ ≤ 9223372036854775807); conv => whnf) | (refine Br.dec (fun _ => ?_) (fun _ => ?_) <;> first | (exfalso; omega) | conv => whnf))
    all_goals exact RetK.bool (last h3 (by rw [← h4]; simp))
  rw [List.drop_eq_getElem_cons hj, wPrs] at h4
  have hpe : wPr p.procs[j] = 1 + p.procs[j].name.length + wTxs p.procs[j].vars + wTxs p.procs[j].fin + wPms p.procs[j].params + wL p.procs[j].body := rfl
  have q1 := satI_rng (a := m + (1 + p.procs[j].name.length : Nat)) (by omega)
  have q2 := satI_rng (a := satI (m + (1 + p.procs[j].name.length : Nat)) + wTxs p.procs[j].vars) (by omega)
  have q3 := satI_rng (a := satI (satI (m + (1 + p.procs[j].name.length : Nat)) + wTxs p.procs[j].vars) + wTxs p.procs[j].fin) (by omega)
  conv => whnf
  repeat' (first | ((first | (intro (_ : _ ≤ 9223372036854775807)) | (refine DrawK.auto tabOK mixed (by kernel_rfl) ?_) | (refine And.intro rfl ?_) | (refine IdxK.map (by omega) (fun _ => rfl) ?_) | (refine CallK.pure (whittlerref3_weighText p.procs[j].name _ h3) (.cons (Sub.refl _) (.cons (Sub.refl _) .nil)) ?_; rintro _ rfl) | (refine CallK.pure (whittlerref3_weighTexts p.procs[j].vars _ q1) (.cons (Sub.refl _) (.cons (Sub.refl _) .nil)) ?_; rintro _ rfl) | (refine CallK.pure (whittlerref3_weighTexts p.procs[j].fin _ q2) (.cons (Sub.refl _) (.cons (Sub.refl _) .nil)) ?_; rintro _ rfl)); conv => whnf) | (refine Br.dec (fun _ => ?_) (fun _ => ?_) <;> first | (exfalso; omega) | conv => whnf))
  rotate_left 1
  · exact RetK.bool (last h3 (by rw [← h4, ← satI_full (by omega) h3.2 (by omega), satI_id h3.2]))
  have h5 : satI (satI (satI (satI (m + (1 + p.procs[j].name.length : Nat)) + wTxs p.procs[j].vars) + wTxs p.procs[j].fin) + (wPms p.procs[j].params + (wL p.procs[j].body + wPrs (p.procs.drop (j + 1))) : Nat)) = satI (wPg p : Nat) := by
    rw [satI_sat (by omega), Int.add_assoc, satI_sat (by omega), Int.add_assoc, satI_sat (by omega), ← h4, hpe]
    congr 1
    omega
  generalize satI (satI (satI (m + (1 + p.procs[j].name.length : Nat)) + wTxs p.procs[j].vars) + wTxs p.procs[j].fin) = m0 at q3 h5 ⊢
  have hal : (p.procs[j].params.map fun a => AV.agg a.cells).length = p.procs[j].params.length := List.length_map _
  refine LoopK.inv tabOK (fun y : Nat × Int => ⟨[(1, .p (.ip p.cells)), (3, .p (.int .i64 y.2)), (4, .p (.int .i64 j)), (5, .p (.ip p.procs[j].cells)), (6, .p (.int .i64 y.1))], []⟩) (fun y => y.1 ≤ p.procs[j].params.length ∧ (0 ≤ y.2 ∧ y.2 ≤ 20001) ∧ satI (y.2 + (wPms (p.procs[j].params.drop y.1) + (wL p.procs[j].body + wPrs (p.procs.drop (j + 1))) : Nat)) = satI (wPg p : Nat)) (fun y => p.procs[j].params.length - y.1) (0, m0) (Le.of_eq rfl) ⟨Nat.zero_le _, q3, h5⟩ ?_
  rintro ⟨a, m2⟩ ⟨h6, h7, h8⟩
  simp only at h6 h7 h8 ⊢
  have fin : satI (m2 + (wL p.procs[j].body + wPrs (p.procs.drop (j + 1)) : Nat)) = satI (wPg p : Nat) → (0 ≤ satI (m2 + wL p.procs[j].body) ∧ satI (m2 + wL p.procs[j].body) ≤ 20001) ∧ satI (satI (m2 + wL p.procs[j].body) + wPrs (p.procs.drop (j + 1))) = satI (wPg p : Nat) := fun h => by
    refine ⟨satI_rng (by omega), ?_⟩
    rw [satI_sat (by omega), ← h]
    congr 1
    omega
  have full : m2 > 20000 → satI (m2 + (wL p.procs[j].body + wPrs (p.procs.drop (j + 1)) : Nat)) = satI (wPg p : Nat) := fun h => by
    rw [← h8, ← satI_full h h7.2 (by omega), ← satI_full h h7.2 (by omega)]
  rcases Nat.lt_or_ge a p.procs[j].params.length with ha | ha
  rotate_left 1
  · have h9 : satI (m2 + (wL p.procs[j].body + wPrs (p.procs.drop (j + 1)) : Nat)) = satI (wPg p : Nat) := by
      rw [List.drop_eq_nil_of_le ha, wPms, Nat.zero_add] at h8
      exact h8
    obtain ⟨f1, f2⟩ := fin h9
    conv => whnf
    repeat' (first | ((first | (intro (_ : _ ≤ 9223372036854775807)) | (refine Wr.i64 (by omega) (by omega) ?_) | (refine CallK.pure (whittlerref3_weighStmts (wL p.procs[j].body+1) p.procs[j].body (by omega) m2 h7) (.cons (Sub.refl _) (.cons (Sub.refl _) .nil)) ?_; rintro _ rfl)); conv => whnf) | (refine Br.dec (fun _ => ?_) (fun _ => ?_) <;> first | (exfalso; omega) | conv => whnf))
    all_goals exact ⟨(j + 1, satI (m2 + wL p.procs[j].body)), ⟨by simp only; omega, f1, f2⟩, by simp only; omega, Le.of_eq rfl⟩
  rw [List.drop_eq_getElem_cons ha, wPms] at h8
  conv => whnf
  repeat' (first | ((first | (intro (_ : _ ≤ 9223372036854775807)) | (refine IdxK.map (by omega) (fun _ => rfl) ?_) | (refine Wr.i64 (by omega) (by omega) ?_) | (refine CallK.pure (whittlerref3_weighText p.procs[j].params[a].name _ h7) (.cons (Sub.refl _) (.cons (Sub.refl _) .nil)) ?_; rintro _ rfl) | (refine CallK.pure (whittlerref3_weighStmts (wL p.procs[j].body+1) p.procs[j].body (by omega) m2 h7) (.cons (Sub.refl _) (.cons (Sub.refl _) .nil)) ?_; rintro _ rfl)); conv => whnf) | (refine Br.dec (fun _ => ?_) (fun _ => ?_) <;> first | (exfalso; omega) | conv => whnf))
  · have h10 : satI (satI (m2 + (1 + p.procs[j].params[a].name.length : Nat)) + (wPms (p.procs[j].params.drop (a + 1)) + (wL p.procs[j].body + wPrs (p.procs.drop (j + 1))) : Nat)) = satI (wPg p : Nat) := by
      rw [satI_sat (by omega), ← h8]
      congr 1
      omega
    exact ⟨(a + 1, satI (m2 + (1 + p.procs[j].params[a].name.length : Nat))), ⟨by simp only; omega, satI_rng (by omega), h10⟩, by simp only; omega, Le.of_eq rfl⟩
  · obtain ⟨f1, f2⟩ := fin (full (by omega))
    exact ⟨(j + 1, satI (m2 + wL p.procs[j].body)), ⟨by simp only; omega, f1, f2⟩, by simp only; omega, Le.of_eq rfl⟩
end Go.Ab
namespace Go.Ab
open Go.Proofs
/-- Rows whose elements say less. -/
inductive SubE : List AV → List AV → Prop
  | nil : SubE [] []
  | cons {a b : AV} {xs ys : List AV} (h : SubL a.cells b.cells) (hs : SubE xs ys) : SubE (a :: xs) (b :: ys)
theorem SubE.get {xs ys : List AV} (h : SubE xs ys) : xs.length = ys.length ∧ ∀ (i : Nat) (b : AV), ys[i]? = some b → ∃ a, xs[i]? = some a ∧ SubL a.cells b.cells := by
  induction h with
  | nil => exact ⟨rfl, by simp⟩
  | cons h hs ih =>
    refine ⟨by simp [ih.1], fun i b hb => ?_⟩
    cases i with
    | zero => simp at hb; subst hb; exact ⟨_, rfl, h⟩
    | succ i => exact ih.2 i b (by simpa using hb)
theorem Sub.sl {xs ys : List AV} (h : SubE xs ys) : Sub (.sl xs) (.sl ys) := fun σ v hr => by
  obtain ⟨hl, hg⟩ := h.get
  cases hr with
  | nilsl =>
    obtain rfl : ys = [] := by simpa using hl.symm
    exact .nilsl
  | slz b =>
    obtain rfl : ys = [] := by simpa using hl.symm
    exact .slz b
  | sl _ b off cap sz cells u hb hcap hmax hsz hc hrr =>
    rw [hl]
    refine .sl ys b off cap sz cells u hb (by omega) hmax (fun i e hi => ?_) (fun i e j c hi hj => ?_) (fun i e j c hi hj => ?_)
    · obtain ⟨a, h1, h2⟩ := hg i e hi
      rw [← hsz i a h1, h2.1]
    · obtain ⟨a, h1, h2⟩ := hg i e hi
      obtain ⟨d, h3, _⟩ := h2.get hj
      exact hc i a j d h1 h3
    · obtain ⟨a, h1, h2⟩ := hg i e hi
      obtain ⟨d, h3, h4⟩ := h2.get hj
      exact h4 _ _ (hrr i a j d h1 h3)
set_option maxRecDepth 100000 in
theorem whittlerref3_num (n : Int) : SpecP Tryz.prog 108 [.int .i64 n] (fun r => r = .agg (X.mk 1 n [] []).cells) := by
  refine SpecP.body I_whittlerref3_num tabOK Tryz.func108 rfl Tryz.call108 (by show 1 ≤ _; decide) ?_
  conv => whnf
  repeat' (refine And.intro rfl ?_; conv => whnf)
  exact ⟨_, .p (Sub.agg (by repeat' (first | exact SubL.nil | refine SubL.cons ?_ ?_ | exact Sub.refl _ | exact Sub.nils | exact Sub.ff rfl))), rfl⟩
set_option maxRecDepth 100000 in
theorem whittlerref3_name (s : Str) : SpecP Tryz.prog 109 [.str s] (fun r => r = .agg (X.mk 2 0 s []).cells) := by
  refine SpecP.body I_whittlerref3_name tabOK Tryz.func109 rfl Tryz.call109 (by show 1 ≤ _; decide) ?_
  conv => whnf
  repeat' (refine And.intro rfl ?_; conv => whnf)
  exact ⟨_, .p (Sub.agg (by repeat' (first | exact SubL.nil | refine SubL.cons ?_ ?_ | exact Sub.refl _ | exact Sub.nils | exact Sub.ff rfl))), rfl⟩
set_option maxRecDepth 100000 in
theorem whittlerref3_two (op : Int) (a b : X) : SpecP Tryz.prog 110 [.int .i64 op, .agg a.cells, .agg b.cells] (fun r => r = .agg (X.mk op 0 [] [a, b]).cells) := by
  refine SpecP.body I_whittlerref3_two tabOK Tryz.func110 rfl Tryz.call110 (by show 3 ≤ _; decide) ?_
  conv => whnf
  repeat' ((first | (refine And.intro rfl ?_) | (refine And.intro ⟨by decide, by decide⟩ ?_) | (refine BsK.pureL rfl rfl ?_)); conv => whnf)
  have e : X.avs [a, b] = [.agg a.cells, .agg b.cells] := by simp only [X.avs, X.av_eq]
  exact ⟨_, .p (Sub.agg (SubL.cons (Sub.refl _) (SubL.cons (Sub.refl _) (SubL.cons (Sub.refl _) (SubL.cons (Sub.of_eq (by show _ = AV.sl (X.avs [a, b]); rw [e]; rfl)) SubL.nil))))), rfl⟩
def bs (l : List Nat) : Str := l.map fun n => UInt8.ofNat n
def someP : Pg := ⟨[[103]], [
  ⟨[109, 97, 105, 110], [], [[118]], [
    .mk 1 1 [] [118] [] (.mk 1 2 [] []) false [] [] [],
    .mk 2 4 [] [103] [112] (.mk 0 0 [] []) false [⟨false, [], .mk 1 3 [] []⟩, ⟨true, [118], .mk 0 0 [] []⟩] [] [],
    .mk 3 3 [] [] [] (.mk 2 0 [118] []) false [] [] [],
    .mk 4 3 [] [] [] (.mk 2 0 [103] []) false [] [] []], []⟩,
  ⟨[112], [⟨[120], false⟩, ⟨[121], true⟩], [], [
    .mk 5 1 [] [121] [] (.mk 8 0 [] [.mk 2 0 [121] [], .mk 2 0 [120] []]) false [] [] [],
    .mk 6 5 [] [] [] (.mk 12 0 [] [.mk 2 0 [121] [], .mk 1 9 [] []]) false [] [.mk 7 10 [] [101] [] (.mk 0 0 [] []) false [] [] []] [],
    .mk 8 9 [] [] [] (.mk 2 0 [121] []) true [] [] []], [[101]]⟩]⟩
set_option maxHeartbeats 4000000 in
set_option maxRecDepth 100000 in
theorem whittlerref3_Some : SpecP Tryz.prog 61 [] (fun r => r = .agg someP.cells) := by
  refine SpecP.body I_whittlerref3_Some tabOK Tryz.func61 rfl Tryz.call61 (by show 0 ≤ _; decide) ?_
  conv => whnf
  repeat' ((first | (refine CallK.pure (whittlerref3_num _) (by repeat' (first | exact ArgP.nil | refine ArgP.cons ?_ ?_ | exact Sub.refl _ | exact Sub.tt rfl | exact Sub.ff rfl)) ?_; rintro _ rfl) | (refine CallK.pure (whittlerref3_name _) (by repeat' (first | exact ArgP.nil | refine ArgP.cons ?_ ?_ | exact Sub.refl _ | exact Sub.tt rfl | exact Sub.ff rfl)) ?_; rintro _ rfl) | (refine And.intro rfl ?_) | (refine And.intro ⟨by decide, by decide⟩ ?_) | (refine BsK.pure (fun x hx => by rcases List.mem_singleton.1 hx with rfl; rfl) rfl ?_) | (refine BsK.pureL rfl rfl ?_) | (refine CallK.pure (whittlerref3_two 8 (.mk 2 0 [121] []) (.mk 2 0 [120] [])) (.cons (Sub.refl _) (.cons (Sub.refl _) (.cons (Sub.refl _) .nil))) ?_; rintro _ rfl) | (refine CallK.pure (whittlerref3_two 12 (.mk 2 0 [121] []) (.mk 1 9 [] [])) (.cons (Sub.refl _) (.cons (Sub.refl _) (.cons (Sub.refl _) .nil))) ?_; rintro _ rfl)); conv => whnf)
  exact ⟨_, .p (Sub.agg (by repeat' (first | exact SubL.nil | exact SubE.nil | exact Sub.nils | exact Sub.ff rfl | exact Sub.tt rfl | refine SubL.cons ?_ ?_ | refine SubE.cons ?_ ?_ | exact Sub.refl _ | refine Sub.agg ?_ | refine Sub.sl ?_))), rfl⟩
end Go.Ab
namespace Go.Ab
open Go.Proofs
theorem some_fit : Fit someP := by unfold Fit; decide
theorem some_chk : chkB someP = true := by kernel_rfl
theorem some_first : firstR someP [112] = (5, true) := by kernel_rfl
theorem some_behind : behR someP 7 = (8, true) := by kernel_rfl
def f0 : Pr := someP.procs[0]'(by decide)
def f1 : Pr := someP.procs[1]'(by decide)
theorem norm0 : normS (stepsRaw someP 0 f0) = [⟨0, 1, 1⟩, ⟨1, 2, 1⟩, ⟨2, 3, 1⟩, ⟨3, 4, 1⟩, ⟨4, -1, 1⟩] := by
  have h1 : stepsRaw someP 0 f0 = [⟨0, 1, 1⟩, ⟨1, 2, 1⟩, ⟨2, 3, 1⟩, ⟨3, 4, 1⟩, ⟨4, -1, 1⟩] := by kernel_rfl
  unfold normS sortSt
  rw [h1, List.mergeSort_of_pairwise (by decide)]
  rfl
theorem norm1 : normS (stepsRaw someP 1 f1) = [⟨0, 5, 1⟩, ⟨5, 6, 1⟩, ⟨6, 7, 1⟩, ⟨6, 8, 1⟩, ⟨7, -1, 1⟩, ⟨8, -1, 1⟩] := by
  have h1 : stepsRaw someP 1 f1 = [⟨0, 5, 1⟩, ⟨5, 6, 1⟩, ⟨6, 7, 1⟩, ⟨6, 8, 1⟩, ⟨7, -1, 1⟩, ⟨8, -1, 1⟩] := by kernel_rfl
  unfold normS sortSt
  rw [h1, List.mergeSort_of_pairwise (by decide)]
  rfl
theorem some_way : wayO someP [112] = some (newWay someP 1 f1) := by
  unfold wayO
  rw [some_chk]
  rfl
theorem some_of : (ofR someP [112]).length = 6 := by
  unfold ofR
  rw [some_way]
  show (normS (stepsRaw someP 1 f1)).length = 6
  rw [norm1]
  rfl
theorem some_live : (liveR someP [112]).length = 4 := by
  unfold liveR
  rw [some_way]
  show (liveL (newWay someP 1 f1)).length = 4
  unfold newWay
  simp only [norm1]
  kernel_rfl
theorem e00 : endsW (newWay someP 0 f0) f0 [] = false := by
  unfold newWay
  simp only [norm0]
  kernel_rfl
theorem e10 : endsW (newWay someP 1 f1) f1 [] = true := by
  unfold newWay
  simp only [norm1]
  kernel_rfl
theorem e01 : endsW (newWay someP 0 f0) f0 [[112]] = true := by
  unfold newWay
  simp only [norm0]
  kernel_rfl
theorem some_ends : (endsR someP).length = 2 := by
  have r1 : roundE someP [] = ([[112]], true) := by
    show endS someP (endS someP ([], false) 0) 1 = _
    have h1 : endS someP ([], false) 0 = ([], false) := by
      show (bif true && endsW (newWay someP 0 f0) f0 [] then _ else _) = _
      rw [e00]
      rfl
    rw [h1]
    show (bif true && endsW (newWay someP 1 f1) f1 [] then _ else _) = _
    rw [e10]
    rfl
  have r2 : roundE someP [[112]] = ([[112], [109, 97, 105, 110]], true) := by
    show endS someP (endS someP ([[112]], false) 0) 1 = _
    have h1 : endS someP ([[112]], false) 0 = ([[112], [109, 97, 105, 110]], true) := by
      show (bif true && endsW (newWay someP 0 f0) f0 [[112]] then _ else _) = _
      rw [e01]
      rfl
    rw [h1]
    rfl
  have r3 : roundE someP [[112], [109, 97, 105, 110]] = ([[112], [109, 97, 105, 110]], false) := by
    show endS someP (endS someP ([[112], [109, 97, 105, 110]], false) 0) 1 = _
    rfl
  have h : endsF someP (someP.procs.length + 1) [] = [[112], [109, 97, 105, 110]] := by
    show endsF someP 3 [] = _
    rw [endsF, r1, cond_true, endsF, r2, cond_true, endsF, r3]
    rfl
  unfold endsR
  rw [some_chk, cond_true, h, sortS_len]
  rfl
set_option maxHeartbeats 2000000 in
set_option maxRecDepth 100000 in
theorem whittlerlaw15_flowing : SpecP Tryz.prog 15 [] (fun r => r = .tt) := by
  have hB := cfg_Behind someP some_fit 7
  rw [some_behind] at hB
  have hF := cfg_First someP some_fit [112]
  rw [some_first] at hF
  have hO := some_of
  have hL := some_live
  have hE := some_ends
  refine SpecP.body I_whittlerlaw15_flowing tabOK Tryz.func15 rfl Tryz.call15 (by show 0 ≤ _; decide) ?_
  conv => whnf
  repeat' (first | ((first | (intro (_ : _ ≤ 9223372036854775807)) | (refine And.intro rfl ?_) | (refine CallK.pure whittlerref3_Some .nil ?_; rintro _ rfl) | (refine CallK.pure hB (.cons (Sub.refl _) (.cons (Sub.refl _) .nil)) ?_; rintro _ rfl) | (refine CallK.pure hF (.cons (Sub.refl _) (.cons (Sub.refl _) .nil)) ?_; rintro _ rfl) | (refine CallK.pure (cfg_Of someP some_fit [112]) (.cons (Sub.refl _) (.cons (Sub.refl _) .nil)) ?_; rintro _ rfl) | (refine CallK.pure (cfg_Live someP some_fit [112]) (.cons (Sub.refl _) (.cons (Sub.refl _) .nil)) ?_; rintro _ rfl) | (refine CallK.pure (cfg_Ends someP some_fit) (.cons (Sub.refl _) .nil) ?_; rintro _ rfl)); conv => whnf) | (refine Br.dec (fun _ => ?_) (fun _ => ?_) <;> first | (exfalso; omega) | conv => whnf) | (refine Br.b (fun _ => ?_) (fun _ => ?_) <;> conv => whnf))
  all_goals first
    | exact ⟨_, .p (Sub.tt' (by rw [List.length_map, hE]; rfl)), rfl⟩
    | (exfalso; simp only [List.length_map] at *; omega)
    | (exfalso; simp_all; done)
end Go.Ab
namespace Go.Ab
open Go.Proofs
theorem step_rep {σ : Mem} {a : Step} {v : Value} (h : Rep σ (.agg a.cells) v) : v = .agg #[.int .i64 a.src, .int .i64 a.dst, .int .i64 a.kind] := by
  cases h with
  | agg cs vs u hn hc hr =>
    have hs : vs.size = 3 := hn
    have g : ∀ (j : Nat) (n : Int), a.cells[j]? = some (.int .i64 n) → vs[j]? = some (.int .i64 n) := fun j n hj => by
      have h1 := hc j _ hj
      have h2 := hr j _ hj
      cases hu : u j <;> rw [hu] at h2 <;> cases h2
      rw [h1, hu]
    congr 1
    apply Array.ext_getElem?
    intro i
    match i with
    | 0 => exact g 0 _ rfl
    | 1 => exact g 1 _ rfl
    | 2 => exact g 2 _ rfl
    | i + 3 => rw [Array.getElem?_eq_none (by omega), Array.getElem?_eq_none (by simp)]
theorem ValO.steps {hr : Bool} {s : St} {o : Oper} {K : LV → Prop} {x y : Operand} {u : TypeId} (hop : o.op = .binOp .eql 45 x y u) {a b : Step} (hx : evalO s.sl x = .p (.agg a.cells)) (hy : evalO s.sl y = .p (.agg b.cells))
    (hK : K (.p (.bool (decide (a = b))))) : ValO Tryz.prog hr s o K := by
  refine ⟨fun σ β ac w hs _ => ⟨_, .bool (decide (a = b)), hK, .p (.bool _), fun w' _ _ => ?_⟩⟩
  have h1 : ac.eval x = .agg #[.int .i64 a.src, .int .i64 a.dst, .int .i64 a.kind] := by
    have := evalO_rep hs x
    rw [hx] at this
    cases this with
    | p h => exact step_rep h
  have h2 : ac.eval y = .agg #[.int .i64 b.src, .int .i64 b.dst, .int .i64 b.kind] := by
    have := evalO_rep hs y
    rw [hy] at this
    cases this with
    | p h => exact step_rep h
  have hu : Tryz.prog.underlying 45 = some (.struct (Tryz.prog.fieldsOf 45)) := by kernel_rfl
  have hi : Tryz.prog.underlying 3 = some (.int .i64) := by kernel_rfl
  have hf : (Tryz.prog.fieldsOf 45).toList = (match ty45.desc with | .struct fs => fs.toList | _ => []) := by kernel_rfl
  have he : (Op.equalIn 10000 45 (.agg #[.int .i64 a.src, .int .i64 a.dst, .int .i64 a.kind]) (.agg #[.int .i64 b.src, .int .i64 b.dst, .int .i64 b.kind])).run Tryz.prog w' = .ok (decide (a = b)) w' := by
    rw [run_equalIn_struct w' 9999 _ _ _ hu (by kernel_rfl), hf]
    simp only [ty45, Op.eqFields]
    have p0 : ∀ x y z : Int, (part 3 #[.int .i64 x, .int .i64 y, .int .i64 z] 0).run Tryz.prog w' = .ok (.int .i64 x) w' := fun x y z => run_part_plain w' (by kernel_rfl) rfl
    have p1 : ∀ x y z : Int, (part 3 #[.int .i64 x, .int .i64 y, .int .i64 z] 1).run Tryz.prog w' = .ok (.int .i64 y) w' := fun x y z => run_part_plain w' (by kernel_rfl) rfl
    have p2 : ∀ x y z : Int, (part 3 #[.int .i64 x, .int .i64 y, .int .i64 z] 2).run Tryz.prog w' = .ok (.int .i64 z) w' := fun x y z => run_part_plain w' (by kernel_rfl) rfl
    have ei : ∀ x y : Int, (Op.equalIn 9999 3 (.int .i64 x) (.int .i64 y)).run Tryz.prog w' = .ok (x == y) w' := fun a b => run_equalIn_int (P := Tryz.prog) w' 9998 3 .i64 .i64 a b hi
    have e : decide (a = b) = ((a.src == b.src) && ((a.dst == b.dst) && (a.kind == b.kind))) := by
      cases a; cases b
      simp only [Step.mk.injEq, Bool.decide_and]
      rfl
    simp only [ne_eq, show ¬ ("From" = "_") by decide, show ¬ ("To" = "_") by decide, show ¬ ("Kind" = "_") by decide, not_false_eq_true, if_true, Sem.run_bind, p0, p1, p2, Result.andThen_ok, ei, Sem.run_ite, Sem.run_pure, e]
    cases (a.src == b.src) <;> cases (a.dst == b.dst) <;> cases (a.kind == b.kind) <;> simp
  simp only [execOp, hop, h1, h2, Sem.run_bind, run_eqGuard_agg _ _ _ _ _ _ _ (show Tryz.prog.eqGuardType Tryz.prog.depth 45 = false by kernel_rfl), Result.andThen_ok, run_eql_struct, he, Sem.run_pure]
end Go.Ab
namespace Go.Ab
open Go.Proofs
theorem first_none {p : Pg} {n : Str} (h : wayO p n = none) : firstR p n = (0, false) ∧ ofR p n = [] := by
  unfold firstR ofR
  rw [h]
  exact ⟨rfl, rfl⟩
theorem procR_none {p : Pg} {n : Str} (h : wayO p n = none) (hc : chkB p = true) : procR p n = (Pr0, false) := by
  unfold wayO at h
  rw [hc, cond_true] at h
  unfold procR
  cases hq : p.procs.find? (fun f => f.name == n) with
  | none => rfl
  | some f => rw [hq] at h; cases h
end Go.Ab
namespace Go.Ab
open Go.Proofs
def modI (n k : Int) : Int := if k < 1 then 0 else if n.tmod k < 0 then n.tmod k + k else n.tmod k
theorem modI_rng {n k : Int} (hk : 0 < k) : 0 ≤ modI n k ∧ modI n k < k := by
  unfold modI
  have h1 := Int.tmod_lt_of_pos n hk
  have h2 : -k < n.tmod k := by
    rcases Int.le_total 0 n with h | h
    · have := Int.tmod_nonneg k h; omega
    · have h3 := Int.tmod_lt_of_pos (-n) hk
      rw [Int.neg_tmod] at h3
      omega
  rw [if_neg (by omega)]
  split <;> omega
set_option maxRecDepth 100000 in
theorem whittlerref3_Mod (n k : Int) (hk : k ≤ 1000000) : SpecP Tryz.prog 69 [.int .i64 n, .int .i64 k] (fun r => r = .int .i64 (modI n k)) := by
  refine SpecP.body I_whittlerref3_Mod tabOK Tryz.func69 rfl Tryz.call69 (by show 2 ≤ _; decide) ?_
  conv => whnf
  have h1 := fun h : 0 < k => modI_rng (n := n) h
  repeat' (first | (refine And.intro (by omega) ?_; conv => whnf) | (refine Br.dec (fun _ => ?_) (fun _ => ?_) <;> first | (exfalso; omega) | conv => whnf))
  all_goals first
    | (refine Wr.i64 (by have := h1 (by omega); unfold modI at this; rw [if_neg (by omega), if_pos (by assumption)] at this; omega) (by have := h1 (by omega); unfold modI at this; rw [if_neg (by omega), if_pos (by assumption)] at this; omega) ?_
       conv => whnf
       exact RetK.int (by unfold modI; rw [if_neg (by assumption), if_pos (by assumption)]))
    | exact RetK.int (by unfold modI; rw [if_pos (by assumption)])
    | exact RetK.int (by unfold modI; rw [if_neg (by assumption), if_neg (by assumption)])
def hasI (l : List Int) (x : Int) : Bool := l.any fun y => decide (x = y)
set_option maxRecDepth 100000 in
theorem whittlerlaw15_has (l : List Int) (x : Int) : SpecP Tryz.prog 23 [eInts l, .int .i64 x] (fun r => r = .bool (hasI l x)) := by
  refine SpecP.body I_whittlerlaw15_has tabOK Tryz.func23 rfl Tryz.call23 (by show 2 ≤ _; decide) ?_
  conv => whnf
  repeat' (intro (_ : _ ≤ 9223372036854775807); conv => whnf)
  have hl : (l.map (AV.int .i64)).length = l.length := List.length_map _
  refine LoopK.inv tabOK (fun j : Nat => ⟨[(1, .p (.int .i64 x)), (7, .p (eInts l)), (8, .p (.int .i64 (l.map (AV.int .i64)).length)), (9, .p (.int .i64 j))], []⟩) (fun j => j ≤ l.length ∧ (l.drop j).any (fun y => decide (x = y)) = hasI l x) (fun j => l.length - j) 0 (Le.of_eq rfl) ⟨Nat.zero_le _, rfl⟩ ?_
  rintro j ⟨h2, h3⟩
  rcases Nat.lt_or_ge j l.length with hj | hj
  · conv => whnf
    repeat' (first | ((first | (refine IdxK.map (by omega) (fun _ => rfl) ?_) | (refine Wr.i64 (by omega) (by omega) ?_)); conv => whnf) | (refine Br.dec (fun _ => ?_) (fun _ => ?_) <;> first | (exfalso; omega) | conv => whnf))
    · exact RetK.tt (by rw [← h3, any_yes hj (by simpa using by assumption)])
    · exact ⟨j + 1, ⟨hj, by rw [any_no hj (by simpa using by assumption)]; exact h3⟩, by omega, Le.of_eq rfl⟩
  · conv => whnf
    repeat' (refine Br.dec (fun _ => ?_) (fun _ => ?_) <;> first | (exfalso; omega) | conv => whnf)
    exact RetK.ff (by rw [← h3, any_end hj])
set_option maxRecDepth 100000 in
theorem whittlerref14_has (l : List Int) (x : Int) : SpecP Tryz.prog 90 [eInts l, .int .i64 x] (fun r => r = .bool (hasI l x)) := by
  refine SpecP.body I_whittlerref14_has tabOK Tryz.func90 rfl Tryz.call90 (by show 2 ≤ _; decide) ?_
  conv => whnf
  repeat' (intro (_ : _ ≤ 9223372036854775807); conv => whnf)
  have hl : (l.map (AV.int .i64)).length = l.length := List.length_map _
  refine LoopK.inv tabOK (fun j : Nat => ⟨[(1, .p (.int .i64 x)), (7, .p (eInts l)), (8, .p (.int .i64 (l.map (AV.int .i64)).length)), (9, .p (.int .i64 j))], []⟩) (fun j => j ≤ l.length ∧ (l.drop j).any (fun y => decide (x = y)) = hasI l x) (fun j => l.length - j) 0 (Le.of_eq rfl) ⟨Nat.zero_le _, rfl⟩ ?_
  rintro j ⟨h2, h3⟩
  rcases Nat.lt_or_ge j l.length with hj | hj
  · conv => whnf
    repeat' (first | ((first | (refine IdxK.map (by omega) (fun _ => rfl) ?_) | (refine Wr.i64 (by omega) (by omega) ?_)); conv => whnf) | (refine Br.dec (fun _ => ?_) (fun _ => ?_) <;> first | (exfalso; omega) | conv => whnf))
    all_goals first
      | exact RetK.tt (by rw [← h3, any_yes hj (by simp_all)])
      | exact ⟨j + 1, ⟨hj, by rw [any_no hj (by simp; omega)]; exact h3⟩, by omega, Le.of_eq rfl⟩
  · conv => whnf
    repeat' (refine Br.dec (fun _ => ?_) (fun _ => ?_) <;> first | (exfalso; omega) | conv => whnf)
    exact RetK.ff (by rw [← h3, any_end hj])
def inS (l : List Str) (x : Str) : Bool := l.any fun y => y == x
set_option maxRecDepth 100000 in
theorem whittlerref6_In (l : List Str) (x : Str) : SpecP Tryz.prog 40 [eStrs l, .str x] (fun r => r = .bool (inS l x)) := by
  refine SpecP.body I_whittlerref6_In tabOK Tryz.func40 rfl Tryz.call40 (by show 2 ≤ _; decide) ?_
  conv => whnf
  repeat' (intro (_ : _ ≤ 9223372036854775807); conv => whnf)
  have hl : (l.map AV.str).length = l.length := List.length_map _
  refine LoopK.inv tabOK (fun j : Nat => ⟨[(0, .p (eStrs l)), (1, .p (.str x)), (7, .p (.int .i64 (l.map AV.str).length)), (8, .p (.int .i64 j))], []⟩) (fun j => j ≤ l.length ∧ (l.drop j).any (fun y => y == x) = inS l x) (fun j => l.length - j) 0 (Le.of_eq rfl) ⟨Nat.zero_le _, rfl⟩ ?_
  rintro j ⟨h2, h3⟩
  rcases Nat.lt_or_ge j l.length with hj | hj
  · conv => whnf
    repeat' (first | ((first | (refine IdxK.map (by omega) (fun _ => rfl) ?_) | (refine Wr.i64 (by omega) (by omega) ?_)); conv => whnf) | (refine Br.dec (fun _ => ?_) (fun _ => ?_) <;> first | (exfalso; omega) | conv => whnf) | (refine Br.b (fun _ => ?_) (fun _ => ?_) <;> conv => whnf))
    · exact RetK.tt (by rw [← h3, any_yes hj (by assumption)])
    · exact ⟨j + 1, ⟨hj, by rw [any_no hj (by assumption)]; exact h3⟩, by omega, Le.of_eq rfl⟩
  · conv => whnf
    repeat' (refine Br.dec (fun _ => ?_) (fun _ => ?_) <;> first | (exfalso; omega) | conv => whnf)
    exact RetK.ff (by rw [← h3, any_end hj])
def procAtR (p : Pg) (n : Int) : Str := match p.procs[(modI n p.procs.length).toNat]? with
  | some f => f.name
  | none => []
set_option maxRecDepth 100000 in
theorem whittlerref6_ProcAt (p : Pg) (n : Int) (hp : p.procs.length ≤ 20000) : SpecP Tryz.prog 21 [.agg p.cells, .int .i64 n] (fun r => r = .str (procAtR p n)) := by
  refine SpecP.body I_whittlerref6_ProcAt tabOK Tryz.func21 rfl Tryz.call21 (by show 2 ≤ _; decide) ?_
  conv => whnf
  have hl : (p.procs.map fun f => AV.agg f.cells).length = p.procs.length := List.length_map _
  have hr := fun h : 0 < (p.procs.length : Int) => modI_rng (n := n) h
  repeat' (first | ((first | (intro (_ : _ ≤ 9223372036854775807)) | (refine DrawK.auto tabOK mixed (by kernel_rfl) ?_) | (refine CallK.pure (whittlerref3_Mod n (p.procs.length : Int) (by omega)) (.cons (Sub.refl _) (.cons (Sub.int (by omega)) .nil)) ?_; rintro _ rfl)); conv => whnf) | (refine Br.dec (fun _ => ?_) (fun _ => ?_) <;> first | (exfalso; omega) | conv => whnf))
  · refine RetK.p ?_
    have h0 : p.procs = [] := List.length_eq_zero_iff.1 (by omega)
    unfold procAtR
    rw [h0]
    rfl
  · obtain ⟨h1, h2⟩ := hr (by omega)
    have hlt : (modI n p.procs.length).toNat < p.procs.length := by omega
    refine IdxK.at (k := (modI n p.procs.length).toNat) (e := .agg p.procs[(modI n p.procs.length).toNat].cells) (by omega) (by rw [List.getElem?_map, List.getElem?_eq_getElem hlt]; rfl) rfl ?_
    conv => whnf
    skip
    exact RetK.p (by unfold procAtR; rw [List.getElem?_eq_getElem hlt])
def ordB (a b : Int) : Bool := bif decide (a = -1) || decide (b = -1) then decide (b = -1) && !decide (a = -1) else decide (a < b)
set_option maxRecDepth 100000 in
theorem whittlerref14_Order (a b : Int) : SpecP Tryz.prog 24 [.int .i64 a, .int .i64 b] (fun r => r = .bool (ordB a b)) := by
  refine SpecP.body I_whittlerref14_Order tabOK Tryz.func24 rfl Tryz.call24 (by show 2 ≤ _; decide) ?_
  conv => whnf
  repeat' (refine Br.dec (fun _ => ?_) (fun _ => ?_) <;> first | (exfalso; omega) | conv => whnf)
  all_goals first
    | exact RetK.bool (by unfold ordB; simp_all)
    | exact RetK.ff (by unfold ordB; simp_all)
    | exact RetK.bool (by unfold ordB; simp_all; omega)
end Go.Ab
namespace Go.Ab
open Go.Proofs
theorem nodup_inj {α β : Type} {f : α → β} : ∀ {l : List α}, (l.map f).Nodup → ∀ a ∈ l, ∀ b ∈ l, f a = f b → a = b
  | [], _, a, ha, _, _, _ => by cases ha
  | c :: r, h, a, ha, b, hb, e => by
    rw [List.map_cons, List.nodup_cons] at h
    rcases List.mem_cons.1 ha with ha1 | ha1
    · rcases List.mem_cons.1 hb with hb1 | hb1
      · rw [ha1, hb1]
      · exact (h.1 (List.mem_map.2 ⟨b, hb1, by rw [← e, ha1]⟩)).elim
    · rcases List.mem_cons.1 hb with hb1 | hb1
      · exact (h.1 (List.mem_map.2 ⟨a, ha1, by rw [e, hb1]⟩)).elim
      · exact nodup_inj h.2 a ha1 b hb1 e
theorem nodup_len {α : Type} [DecidableEq α] : ∀ {l m : List α}, l.Nodup → (∀ s ∈ l, s ∈ m) → l.length ≤ m.length
  | [], m, _, _ => Nat.zero_le _
  | a :: r, m, h, hs => by
    rw [List.nodup_cons] at h
    have ha := hs a List.mem_cons_self
    have h1 := nodup_len (m := m.erase a) h.2 fun s hsr => (List.mem_erase_of_ne (fun e => h.1 (by rw [← e]; exact hsr))).2 (hs s (List.mem_cons_of_mem _ hsr))
    rw [List.length_erase_of_mem ha] at h1
    have := List.length_pos_of_mem ha
    simp only [List.length_cons]
    omega
theorem idsN_nodup (n c : Nat) : (idsN n c).Nodup := by
  unfold idsN List.Nodup
  rw [List.pairwise_map]
  exact List.Pairwise.imp (fun h e => h (by omega)) (List.nodup_range' (s := n + 1) (n := c) (step := 1))
theorem its_ids {p : Pg} (hm : mayB p = true) {j : Nat} {f : Pr} (hj : p.procs[j]? = some f) : (itsOf p j f).map (fun it => it.s.id) = idsN (offN p.procs j) (cntL f.body) := by
  rw [← may_ids hm hj, ← itL_s (j : Nat) 0 (-1) 0 (offN p.procs j) f.body, List.map_map]
  rfl
theorem it_inj {p : Pg} (hm : mayB p = true) {j : Nat} {f : Pr} (hj : p.procs[j]? = some f) {a b : Item} (ha : a ∈ itsOf p j f) (hb : b ∈ itsOf p j f) (h : a.s.id = b.s.id) : a = b :=
  nodup_inj (f := fun it : Item => it.s.id) (by rw [its_ids hm hj]; exact idsN_nodup _ _) a ha b hb h
theorem it_of {p : Pg} {j : Nat} {f : Pr} {t : S} (h : t ∈ flL f.body) : ∃ it ∈ itsOf p j f, it.s = t := by
  rw [← itL_s (j : Nat) 0 (-1) 0 (offN p.procs j) f.body] at h
  obtain ⟨it, h1, h2⟩ := List.mem_map.1 h
  exact ⟨it, h1, h2⟩
theorem goesI_cnt (sh : Sheet) (f : Pr) (it : Item) : 1 ≤ (goesI sh f it).length ∧ (goesI sh f it).length ≤ 2 ∧ ((goesI sh f it).length = 2 → it.s.kind = 5 ∨ it.s.kind = 6) := by
  unfold goesI
  split
  · rename_i h; exact ⟨by simp, by simp, fun _ => .inl h⟩
  split
  · rename_i h; exact ⟨by simp, by simp, fun _ => .inr h⟩
  split
  · simp
  split
  · simp
  split
  · simp
  split <;> simp
theorem lt_nodup {l : List Step} (h : l.Pairwise ltSt) : l.Nodup := h.imp fun h e => by subst e; exact ltSt_irrefl h
/-- How many steps begin at a statement. -/
theorem out_count {p : Pg} (h : chkB p = true) {j : Nat} {f : Pr} (hj : p.procs[j]? = some f) {t : S} (ht : t ∈ flL f.body) :
    1 ≤ (newWay p j f).real.countP (fun s => decide (s.src = t.id)) ∧ (newWay p j f).real.countP (fun s => decide (s.src = t.id)) ≤ 2 ∧ ((newWay p j f).real.countP (fun s => decide (s.src = t.id)) = 2 → t.kind = 5 ∨ t.kind = 6) := by
  obtain ⟨h1, h2⟩ := real_spec h hj
  obtain ⟨it, hit, rfl⟩ := it_of (p := p) (j := j) ht
  have hm := (chk_parts h).1
  have hid := body_id hm hj ht
  have hle : (newWay p j f).real.countP (fun s => decide (s.src = it.s.id)) ≤ (goesI (sheetOf p) f it).length := by
    have hml : ((goesI (sheetOf p) f it).map (Step.mk it.s.id · 1)).length = (goesI (sheetOf p) f it).length := List.length_map _
    rw [List.countP_eq_length_filter, ← hml]
    refine nodup_len ((lt_nodup h1).filter _) fun s hs => ?_
    obtain ⟨hs1, hs2⟩ := List.mem_filter.1 hs
    have hs2 : s.src = it.s.id := by simpa using hs2
    have hr := (h2 s).1 hs1
    unfold stepsRaw at hr
    rcases List.mem_cons.1 hr with rfl | hr
    · have hs2 : (0 : Int) = it.s.id := hs2
      omega
    · obtain ⟨it', hit', hz⟩ := List.mem_flatMap.1 hr
      obtain ⟨y, hy, rfl⟩ := List.mem_map.1 hz
      obtain rfl : it' = it := it_inj hm hj hit' hit hs2
      exact List.mem_map.2 ⟨y, hy, rfl⟩
  obtain ⟨g1, g2, g3⟩ := goesI_cnt (sheetOf p) f it
  refine ⟨?_, by omega, fun hq => g3 (by omega)⟩
  rw [Nat.succ_le_iff, List.countP_pos_iff]
  cases hg : goesI (sheetOf p) f it with
  | nil => rw [hg] at g1; simp at g1
  | cons y r =>
    refine ⟨⟨it.s.id, y, 1⟩, (h2 _).2 ?_, by simp⟩
    unfold stepsRaw
    exact List.mem_cons_of_mem _ (List.mem_flatMap.2 ⟨it, hit, List.mem_map.2 ⟨y, by rw [hg]; exact List.mem_cons_self, rfl⟩⟩)
def placesR (f : Pr) : List Int := 0 :: (flL f.body).map S.id
theorem hasI_iff {l : List Int} {x : Int} : hasI l x = true ↔ x ∈ l := by
  unfold hasI
  rw [List.any_eq_true]
  refine ⟨fun ⟨y, h1, h2⟩ => by simp at h2; exact h2 ▸ h1, fun h => ⟨x, h, by simp⟩⟩
theorem idsN_has {n c : Nat} {a : Int} (h1 : (n : Int) + 1 ≤ a) (h2 : a ≤ (n + c : Nat)) : a ∈ idsN n c := by
  unfold idsN
  refine List.mem_map.2 ⟨a.toNat, List.mem_range'.2 ⟨a.toNat - (n + 1), by omega, by omega⟩, by omega⟩
/-- Where a step begins and ends. -/
theorem step_places {p : Pg} (h : chkB p = true) {j : Nat} {f : Pr} (hj : p.procs[j]? = some f) {s : Step} (hs : s ∈ (newWay p j f).real) :
    hasI (placesR f) s.src = true ∧ s.src ≠ -1 ∧ (s.dst = -1 ∨ (hasI (placesR f) s.dst = true ∧ s.dst ≠ 0)) ∧ s.kind = 1 := by
  obtain ⟨h1, h2⟩ := real_spec h hj
  have hr := (h2 s).1 hs
  obtain ⟨_, h3, _⟩ := chk_way h hj
  obtain ⟨h4, h5⟩ := h3 s hr
  have hk := (stepsRaw_ok1 h hj s hr).2
  have hids := may_ids (chk_parts h).1 hj
  simp only [hasI_iff]
  unfold placesR
  rw [hids]
  refine ⟨?_, by omega, ?_, hk⟩
  · rcases h4 with h4 | h4
    · rw [h4]; exact List.mem_cons_self
    · exact List.mem_cons_of_mem _ (idsN_has h4.1 h4.2)
  · rcases h5 with h5 | h5
    · exact .inl h5
    · exact .inr ⟨List.mem_cons_of_mem _ (idsN_has h5.1 h5.2), by omega⟩
theorem step_order {p : Pg} (h : chkB p = true) {j : Nat} {f : Pr} (hj : p.procs[j]? = some f) {i : Nat} {a b : Step} (ha : (newWay p j f).real[i]? = some a) (hb : (newWay p j f).real[i + 1]? = some b) :
    ¬ a.src > b.src ∧ (a.src = b.src → ordB a.dst b.dst = true) := by
  obtain ⟨h1, h2⟩ := real_spec h hj
  obtain ⟨_, h3, _⟩ := chk_way h hj
  obtain ⟨_, _, _, hlen, hsp⟩ := sheet_spec p
  obtain ⟨_, _, hle, _⟩ := hsp j f hj
  obtain ⟨_, _, hcn⟩ := chk_cnt h
  obtain ⟨ha1, rfl⟩ := List.getElem?_eq_some_iff.1 ha
  obtain ⟨hb1, rfl⟩ := List.getElem?_eq_some_iff.1 hb
  have hlt := List.pairwise_iff_getElem.1 h1 i (i + 1) ha1 hb1 (by omega)
  have fa := h3 _ ((h2 _).1 (List.getElem_mem ha1))
  have fb := h3 _ ((h2 _).1 (List.getElem_mem hb1))
  generalize (newWay p j f).real[i] = a at hlt fa ⊢
  generalize (newWay p j f).real[i + 1] = b at hlt fb ⊢
  have hd : a.src = b.src → rankI a.dst < rankI b.dst := fun e => by
    rcases hlt with h | h
    · rw [e] at h; omega
    · exact h.2
  unfold okI at fa fb
  refine ⟨?_, fun e => ?_⟩
  · intro hgt
    unfold ltSt rankI at hlt
    (repeat' split at hlt) <;> omega
  · have hd := hd e
    unfold rankI at hd
    unfold ordB
    by_cases h1 : b.dst = -1
    · have h2 : a.dst ≠ -1 := fun h2 => by rw [h1, h2] at hd; simp at hd
      simp [h1, h2]
    · by_cases h2 : a.dst = -1
      · rw [if_pos h2, if_neg h1] at hd
        omega
      · rw [if_neg h2, if_neg h1] at hd
        simp [h1, h2, hd]
end Go.Ab
namespace Go.Ab
open Go.Proofs
theorem fit_procs {p : Pg} (h : chkB p = true) : p.procs.length ≤ 20000 := by have := (chk_cnt h).2.1; omega
structure KindsF (L : List Step) (F : List RI) : Prop where
  out : ∀ x ∈ F, 1 ≤ L.countP (fun s => decide (s.src = x.s.id)) ∧ L.countP (fun s => decide (s.src = x.s.id)) ≤ 2 ∧ (L.countP (fun s => decide (s.src = x.s.id)) = 2 → x.s.kind = 5 ∨ x.s.kind = 6)
  pl : ∀ s ∈ L, hasI (0 :: F.map fun x => x.s.id) s.src = true ∧ s.src ≠ -1 ∧ (s.dst = -1 ∨ (hasI (0 :: F.map fun x => x.s.id) s.dst = true ∧ s.dst ≠ 0)) ∧ s.kind = 1
  ord : ∀ (i : Nat) (a b : Step), L[i]? = some a → L[i + 1]? = some b → ¬ a.src > b.src ∧ (a.src = b.src → ordB a.dst b.dst = true)
  len : L.length ≤ 100000
theorem way_len {p : Pg} (h : chkB p = true) {j : Nat} {f : Pr} (hj : p.procs[j]? = some f) : (newWay p j f).real.length ≤ 100000 := by
  obtain ⟨h1, h2⟩ := real_spec h hj
  have h3 := nodup_len (lt_nodup h1) fun s hs => (h2 s).1 hs
  have h4 := stepsRaw_len p j f
  have h5 := cntP_mem _ _ (List.mem_of_getElem? hj)
  have := (chk_cnt h).2.2
  omega
theorem kinds_facts {p : Pg} (h : chkB p = true) {n : Str} {q : Pr} {b : Bool} (hq : procR p n = (q, b)) : KindsF (ofR p n) (flatR q) := by
  have hm := (chk_parts h).1
  cases hw : wayO p n with
  | none =>
    obtain ⟨_, e2⟩ := first_none hw
    have e3 := procR_none hw h
    obtain ⟨rfl, _⟩ := Prod.mk.inj (e3.symm.trans hq)
    rw [e2]
    have e4 : flatR Pr0 = [] := rfl
    rw [e4]
    exact ⟨by simp, by simp, by simp, by simp⟩
  | some w =>
    obtain ⟨k, f, hkj, rfl, _, _, hfind⟩ := wayO_some hw
    have e1 : procR p n = (f, true) := by unfold procR; rw [hfind]
    obtain ⟨rfl, _⟩ := Prod.mk.inj (e1.symm.trans hq)
    have e2 : ofR p n = (newWay p k f).real := by unfold ofR; rw [hw]
    have e3 : flatR f = flatU f := flatR_eq hm (List.mem_of_getElem? hkj)
    have e4 : (flatU f).map RI.s = flL f.body := fuL_s 1 0 false f.body
    have e5 : (0 :: (flatU f).map fun x => x.s.id) = placesR f := by
      unfold placesR
      rw [← e4, List.map_map]
      rfl
    rw [e2, e3]
    refine ⟨fun x hx => out_count h hkj (by rw [← e4]; exact List.mem_map.2 ⟨x, hx, rfl⟩), fun s hs => ?_, fun i a b ha hb => step_order h hkj ha hb, way_len h hkj⟩
    rw [e5]
    exact step_places h hkj hs
theorem count_take {L : List Step} {id : Int} {j : Nat} (hj : j < L.length) : (L.take (j + 1)).countP (fun s => decide (s.src = id)) = (L.take j).countP (fun s => decide (s.src = id)) + (if L[j].src = id then 1 else 0) := by
  rw [List.take_succ_eq_append_getElem hj, List.countP_append]
  by_cases h : L[j].src = id <;> simp [h]
def plR (F : List RI) (j : Nat) : List Int := 0 :: (F.take j).map fun x => x.s.id
theorem plR_len {F : List RI} {j : Nat} (h : j ≤ F.length) : (plR F j).length = j + 1 := by simp [plR]; omega
theorem plR_step {F : List RI} {j : Nat} (h : j < F.length) : plR F (j + 1) = plR F j ++ [F[j].s.id] := by
  unfold plR
  rw [take_map h]
  rfl
set_option maxHeartbeats 8000000 in
set_option maxRecDepth 100000 in
theorem whittlerlaw15_CfgKinds (p : Pg) (n : Int) : SpecP Tryz.prog 4 [.agg p.cells, .int .i64 n] (fun r => r = .tt) := by
  refine SpecP.body I_whittlerlaw15_CfgKinds tabOK Tryz.func4 rfl Tryz.call4 (by show 2 ≤ _; decide) ?_
  conv => whnf
  cases hfb : fitB p with
  | false =>
    have hno : ¬ wPg p ≤ 20000 := by unfold fitB at hfb; simpa using hfb
    repeat' (first | ((first | (refine CallK.pure (whittlerref3_Fits _) (by repeat' (first | exact ArgP.nil | refine ArgP.cons ?_ ?_ | exact Sub.refl _ | exact Sub.tt rfl | exact Sub.ff rfl)) ?_; rintro _ rfl) | (refine CallK.pure whittlerlaw15_flowing .nil ?_; rintro _ rfl)); conv => whnf) | (refine Br.dec2 (fun _ => ?_) (fun _ => ?_) <;> first | (exfalso; omega) | conv => whnf))
    all_goals first
      | exact ⟨_, .p (Sub.refl _), rfl⟩
      | (exfalso; simp_all; done)
  | true =>
    have hf : Fit p := by unfold fitB at hfb; unfold Fit; simpa using hfb
    have hfit : wPg p ≤ 20000 := hf
    have hC := check_May p hf
    cases hc : chkB p with
    | false =>
      rw [hc] at hC
      repeat' (first | ((first | (refine CallK.pure (whittlerref3_Fits _) (by repeat' (first | exact ArgP.nil | refine ArgP.cons ?_ ?_ | exact Sub.refl _ | exact Sub.tt rfl | exact Sub.ff rfl)) ?_; rintro _ rfl) | (refine CallK.pure whittlerlaw15_flowing .nil ?_; rintro _ rfl) | (refine CallK.pure hC (.cons (Sub.refl _) .nil) ?_; rintro _ rfl)); conv => whnf) | (refine Br.dec2 (fun _ => ?_) (fun _ => ?_) <;> first | (exfalso; omega) | conv => whnf) | (refine Br.n (fun _ => ?_) (fun _ => ?_) <;> conv => whnf))
      all_goals first
        | contradiction
        | exact ⟨_, .p (Sub.refl _), rfl⟩
    | true =>
      rw [hc] at hC
      have hO := cfg_Of p hf (procAtR p n)
      have hM := whittlerref6_Proc p (procAtR p n)
      have hm := (chk_parts hc).1
      repeat' (first | ((first | (intro (_ : _ ≤ 9223372036854775807)) | (refine CallK.pure (whittlerref3_Fits _) (by repeat' (first | exact ArgP.nil | refine ArgP.cons ?_ ?_ | exact Sub.refl _ | exact Sub.tt rfl | exact Sub.ff rfl)) ?_; rintro _ rfl) | (refine And.intro rfl ?_) | (refine And.intro ⟨by decide, by decide⟩ ?_) | (refine CallK.pure whittlerlaw15_flowing .nil ?_; rintro _ rfl) | (refine CallK.pure hC (.cons (Sub.refl _) .nil) ?_; rintro _ rfl) | (refine CallK.pure (whittlerref6_ProcAt p n (fit_procs hc)) (.cons (Sub.refl _) (.cons (Sub.refl _) .nil)) ?_; rintro _ rfl) | (refine CallK.pure hO (.cons (Sub.refl _) (.cons (Sub.refl _) .nil)) ?_; rintro _ rfl) | (refine CallK.pure hM (.cons (Sub.refl _) (.cons (Sub.refl _) .nil)) ?_; rintro _ ⟨q, b, rfl, hq⟩) | (refine CallK.pure (whittlerref3_Flat _) (.cons (Sub.refl _) .nil) ?_; rintro _ rfl) | (refine BsK.own (fun x hx => by rcases List.mem_singleton.1 hx with rfl; rfl) rfl ?_)); conv => whnf) | (refine Br.dec2 (fun _ => ?_) (fun _ => ?_) <;> first | (exfalso; omega) | conv => whnf) | (refine Br.n (fun _ => ?_) (fun _ => ?_) <;> conv => whnf))
      all_goals try contradiction
      have K := kinds_facts hc (hq hm)
      have hfl := flatR_len q
      generalize ofR p (procAtR p n) = L at K ⊢
      generalize flatR q = F at K hfl ⊢
      have hFl : (F.map fun i => AV.agg i.cells).length = F.length := List.length_map _
      have hLl : (L.map fun s => AV.agg s.cells).length = L.length := List.length_map _
      refine LoopK.inv tabOK (fun j : Nat => ⟨[(6, .p (eSteps L)), (7, .hd 0 0 (j + 1)), (39, .p (eRIs F)), (40, .p (.int .i64 (F.map fun i => AV.agg i.cells).length)), (41, .p (.int .i64 j))], [(0, .own 3 1 ((plR F j).map (.int .i64)))]⟩) (fun j => j ≤ F.length) (fun j => F.length - j) 0 (Le.of_eq rfl) (Nat.zero_le _) ?_
      intro j h2
      have hpl := plR_len h2
      have hpm : ((plR F j).map (AV.int .i64)).length = j + 1 := by rw [List.length_map, hpl]
      rcases Nat.lt_or_ge j F.length with hj | hj
      · have K1 := K.out _ (List.getElem_mem hj)
        conv => whnf
        repeat' (first | ((first | (intro (_ : _ ≤ 9223372036854775807)) | (refine And.intro rfl ?_) | (refine And.intro ⟨by decide, by decide⟩ ?_) | (refine BsK.pure (fun x hx => by rcases List.mem_singleton.1 hx with rfl; rfl) rfl ?_) | (refine IdxK.map (by omega) (fun _ => rfl) ?_) | (refine AppK.mk (by omega) rfl (by show (j+1+1) * 8 ≤ 140737488355328; omega) (by show j+1+1 ≤ 9223372036854775807; omega) (fun x hx => by rcases List.mem_singleton.1 hx with rfl; exact ⟨rfl, rfl⟩) ?_)); conv => whnf) | (refine Br.dec (fun _ => ?_) (fun _ => ?_) <;> first | (exfalso; omega) | conv => whnf))
        refine LoopK.inv tabOK (fun y : Nat => ⟨[(6, .p (eSteps L)), (7, .hd 0 0 (j + 1 + 1)), (11, .p (.ip F[j].cells)), (12, .p (.int .i64 ((L.take y).countP fun s => decide (s.src = F[j].s.id) : Nat))), (39, .p (eRIs F)), (40, .p (.int .i64 (F.map fun i => AV.agg i.cells).length)), (41, .p (.int .i64 j)), (51, .p (eSteps L)), (52, .p (.int .i64 (L.map fun s => AV.agg s.cells).length)), (53, .p (.int .i64 y))], [(0, .own 3 1 ((plR F (j + 1)).map (.int .i64)))]⟩) (fun y => y ≤ L.length) (fun y => L.length - y) 0 (Le.of_eq (by rw [plR_step hj, List.map_append]; rfl)) (Nat.zero_le _) ?_
        intro y h3
        rcases Nat.lt_or_ge y L.length with hy | hy
        · have hct := count_take (id := F[j].s.id) hy
          have hcl := List.countP_le_length (p := fun s : Step => decide (s.src = F[j].s.id)) (l := L.take y)
          have hll := K.len
          rw [List.length_take] at hcl
          conv => whnf
          repeat' (first | ((first | (refine And.intro rfl ?_) | (refine IdxK.map (by omega) (fun _ => rfl) ?_) | (refine Wr.i64 (by omega) (by omega) ?_)); conv => whnf) | (refine Br.dec (fun _ => ?_) (fun _ => ?_) <;> first | (exfalso; omega) | conv => whnf))
          · exact ⟨y + 1, hy, by omega, Le.of_eq (by rw [hct, if_pos (by assumption)]; rfl)⟩
          · exact ⟨y + 1, hy, by omega, Le.of_eq (by rw [hct, if_neg (by assumption)]; rfl)⟩
        · rw [List.take_of_length_le hy]
          obtain ⟨k1, k2, k3⟩ := K1
          conv => whnf
          repeat' (first | (refine Wr.i64 (by omega) (by omega) ?_; conv => whnf) | (refine Br.dec (fun _ => ?_) (fun _ => ?_) <;> first | (exfalso; omega) | conv => whnf) | (refine Br.dec2 (fun _ => ?_) (fun _ => ?_) <;> first | (exfalso; omega) | conv => whnf))
          all_goals exact ⟨j + 1, hj, by omega, Le.of_eq rfl⟩
      · have hP : plR F j = 0 :: F.map fun x => x.s.id := by unfold plR; rw [List.take_of_length_le hj]
        have hjF : j = F.length := by omega
        conv => whnf
        repeat' (first | (intro (_ : _ ≤ 9223372036854775807); conv => whnf) | (refine Br.dec (fun _ => ?_) (fun _ => ?_) <;> first | (exfalso; omega) | conv => whnf))
        rw [hP] at hpm ⊢
        have K2 := K.pl
        have K3 := K.ord
        generalize hQ : (0 :: F.map fun x => x.s.id) = Q at K2 hpm ⊢
        have hQl : Q.length = j + 1 := by rw [List.length_map] at hpm; exact hpm
        refine LoopK.inv tabOK (fun y : Nat => ⟨[(6, .p (eSteps L)), (7, .hd 0 0 (j + 1)), (89, .p (eSteps L)), (90, .p (.int .i64 (L.map fun s => AV.agg s.cells).length)), (91, .p (.int .i64 y))], [(0, .own 3 1 (Q.map (.int .i64)))]⟩) (fun y => y ≤ L.length) (fun y => L.length - y) 0 (Le.of_eq rfl) (Nat.zero_le _) ?_
        intro y h3
        rcases Nat.lt_or_ge y L.length with hy | hy
        · obtain ⟨k1, k2, k3, k4⟩ := K2 _ (List.getElem_mem hy)
          have hll := K.len
          have K4 := fun h : 0 < y => K3 (y - 1) (L[y - 1]'(by omega)) L[y] (List.getElem?_eq_getElem (by omega)) (by rw [show y - 1 + 1 = y by omega]; exact List.getElem?_eq_getElem hy)
          conv => whnf
          repeat' (first | ((first | (refine CallK.pure (whittlerref14_Order _ _) (by repeat' (first | exact ArgP.nil | refine ArgP.cons ?_ ?_ | exact Sub.refl _ | exact Sub.tt rfl | exact Sub.ff rfl)) ?_; rintro _ rfl) | (refine DrawK.auto tabOK mixed (by kernel_rfl) ?_) | (refine And.intro rfl ?_) | (refine IdxK.map (by omega) (fun _ => rfl) ?_) | (refine Wr.i64 (by omega) (by omega) ?_) | (refine IdxK.at (k := y - 1) (e := .agg (L[y - 1]'(by omega)).cells) (by omega) (by rw [List.getElem?_map, List.getElem?_eq_getElem (by omega)]; rfl) rfl ?_) | (refine CallK.borrow (whittlerlaw15_has Q L[y].src) (.cons (.hd rfl hpm.symm) (.cons (.p (Sub.refl _)) .nil)) (by rintro _ rfl; rfl) ?_; rintro _ rfl) | (refine CallK.borrow (whittlerlaw15_has Q L[y].dst) (.cons (.hd rfl hpm.symm) (.cons (.p (Sub.refl _)) .nil)) (by rintro _ rfl; rfl) ?_; rintro _ rfl)); conv => whnf) | (refine Br.dec (fun _ => ?_) (fun _ => ?_) <;> first | (exfalso; omega) | conv => whnf) | (refine Br.dec2 (fun _ => ?_) (fun _ => ?_) <;> first | (exfalso; omega) | conv => whnf) | (refine Br.n (fun _ => ?_) (fun _ => ?_) <;> conv => whnf))
          all_goals first
            | exact ⟨y + 1, hy, by omega, Le.of_eq rfl⟩
            | (exfalso; simp_all; done)
            | (exfalso; omega)
            | (exfalso
               have h9 := (K4 (by omega)).2 (by assumption)
               simp_all
               done)
            | (exfalso
               have h9 := (K4 (by omega)).1
               omega)
        · conv => whnf
          repeat' (refine Br.dec (fun _ => ?_) (fun _ => ?_) <;> first | (exfalso; omega) | conv => whnf)
          exact ⟨_, .p (Sub.refl _), rfl⟩
end Go.Ab
