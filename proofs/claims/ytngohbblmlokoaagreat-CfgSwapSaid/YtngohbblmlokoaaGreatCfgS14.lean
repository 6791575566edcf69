/- cfg: the procedures that can come to their end. -/
import Derived.Laws.StructEq
import Derived.ChangeKeysEq
import Derived.Test.YtngohbblmlokoaaGreatCfgS7
import Derived.Test.YtngohbblmlokoaaGreatCfgS9
import Derived.Test.YtngohbblmlokoaaGreatCfgS10
import Derived.Test.YtngohbblmlokoaaGreatCfgS13
set_option linter.unusedSimpArgs false
set_option linter.unusedVariables false
namespace Go.Ab
open Go.Proofs
def endS (p : Pg) (st : List Str × Bool) (k : Nat) : List Str × Bool := match p.procs[k]? with
  | some f => bif !(st.1.any fun s => f.name == s) && endsW (newWay p k f) f st.1 then (st.1 ++ [f.name], true) else st
  | none => st
def roundE (p : Pg) (out : List Str) : List Str × Bool := (List.range p.procs.length).foldl (endS p) (out, false)
def endsF (p : Pg) : Nat → List Str → List Str
  | 0, out => out
  | k + 1, out => bif (roundE p out).2 then endsF p k (roundE p out).1 else (roundE p out).1
/-- How many are not told yet. -/
def leftN (p : Pg) (out : List Str) : Nat := p.procs.countP fun f => !(out.any fun s => f.name == s)
theorem countP_less {α : Type} {p q : α → Bool} : ∀ {l : List α}, (∀ x ∈ l, q x = true → p x = true) → (∃ x ∈ l, p x = true ∧ q x = false) → l.countP q < l.countP p
  | [], _, h => by obtain ⟨x, hx, _⟩ := h; cases hx
  | a :: r, h1, h2 => by
    have hle : r.countP q ≤ r.countP p := List.countP_mono_left fun x hx => h1 x (List.mem_cons_of_mem _ hx)
    rw [List.countP_cons, List.countP_cons]
    have ha := h1 a List.mem_cons_self
    obtain ⟨x, hx, h3, h4⟩ := h2
    rcases List.mem_cons.1 hx with rfl | hx
    · rw [h3, h4]; simp; omega
    · have := countP_less (fun y hy => h1 y (List.mem_cons_of_mem _ hy)) ⟨x, hx, h3, h4⟩
      cases hq : q a with
      | true => rw [ha hq]; simp; omega
      | false => cases p a <;> simp <;> omega
theorem leftN_add {p : Pg} {out : List Str} {f : Pr} (hf : f ∈ p.procs) (h : (out.any fun s => f.name == s) = false) : leftN p (out ++ [f.name]) < leftN p out := by
  unfold leftN
  refine countP_less (fun g _ hg => ?_) ⟨f, hf, by rw [h]; rfl, by rw [List.any_append]; simp⟩
  rw [List.any_append] at hg
  cases hq : out.any fun s => g.name == s with
  | false => rfl
  | true => rw [hq] at hg; cases hg
def endsR (p : Pg) : List Str := bif chkB p then sortS (endsF p (p.procs.length + 1) []) else []
set_option maxHeartbeats 2000000 in
set_option maxRecDepth 100000 in
theorem cfg_Ends (p : Pg) (hf : Fit p) : SpecP Tryz.prog 26 [.agg p.cells] (fun r => r = eStrs (endsR p)) := by
  refine SpecP.body I_cfg_Ends tabOK Tryz.func26 rfl Tryz.call26 (by show 1 ≤ _; decide) ?_
  conv => whnf
  cases hc : chkB p with
  | false =>
    have e : endsR p = [] := by unfold endsR; rw [hc]; rfl
    have hA : ¬ (allB p).1 = 0 := by unfold chkB at hc; simpa using hc
    rw [e]
    repeat' (first | (refine CallK.pure (check_May p hf) (by repeat' (first | exact ArgP.nil | refine ArgP.cons ?_ ?_ | exact Sub.refl _ | exact Sub.tt rfl | exact Sub.ff rfl | exact Sub.int (by omega))) ?_; rintro _ rfl; conv => whnf) | (refine Br.dec2 (fun _ => ?_) (fun _ => ?_) <;> first | (exfalso; omega) | conv => whnf))
    all_goals first
      | exact ⟨_, .p Sub.nils, rfl⟩
      | (exfalso; exact hA (by assumption))
  | true =>
    obtain ⟨hg, hpl, hcn⟩ := chk_cnt hc
    have hA : (allB p).1 = 0 := by unfold chkB at hc; simpa using hc
    have e : endsR p = sortS (endsF p (p.procs.length + 1) []) := by unfold endsR; rw [hc]; rfl
    rw [e]
    repeat' (first | ((first | (refine CallK.pure (check_May p hf) (by repeat' (first | exact ArgP.nil | refine ArgP.cons ?_ ?_ | exact Sub.refl _ | exact Sub.tt rfl | exact Sub.ff rfl | exact Sub.int (by omega))) ?_; rintro _ rfl) | (refine CallK.pure (flat_New p (by omega) (by omega)) (.cons (Sub.refl _) .nil) ?_; rintro _ rfl)); conv => whnf) | (refine Br.dec2 (fun _ => ?_) (fun _ => ?_) <;> first | (exfalso; omega) | conv => whnf))
    have hl : (p.procs.map fun f => AV.agg f.cells).length = p.procs.length := List.length_map _
    have hl0 : leftN p [] ≤ p.procs.length := List.countP_le_length
    refine LoopK.inv tabOK (fun x : List Str × Bool => ⟨[(1, .p (.ip p.cells)), (3, .p (.ip (sheetOf p).cells)), (4, .hd 0 0 x.1.length), (5, .p (bv x.2))], [(0, .own 9 1 (x.1.map .str))]⟩)
      (fun x => x.1.length + leftN p x.1 ≤ p.procs.length ∧ (x.2 = true → ∃ k, leftN p x.1 < k ∧ endsF p k x.1 = endsF p (p.procs.length + 1) []) ∧ (x.2 = false → x.1 = endsF p (p.procs.length + 1) [])) (fun x => 2 * leftN p x.1 + x.2.toNat) ([], true)
      (Le.mk [(0, .own 9 1 [])] (by simp [Chunk.new0]; rfl) (by simp) (by simp) (.cons (.refl _) (.cons (.refl _) (.cons (.nil List.mem_cons_self) (.cons (.refl _) .nil)))) (.new List.mem_cons_self .nil))
      ⟨by simpa using hl0, fun _ => ⟨p.procs.length + 1, by show leftN p [] < _; omega, rfl⟩, by simp⟩ ?_
    rintro ⟨out, more⟩ ⟨h1, h2, h3⟩
    simp only at h1 h2 h3 ⊢
    cases more with
    | false =>
      have h3 := h3 rfl
      rw [← h3]
      conv => whnf
      repeat' (refine CallK.heap [(1000, 0)] 0 (by repeat' (first | exact ArgsH.nil | refine ArgsH.cons ?_ ?_ | exact LSub.refl _ | exact LSub.p Sub.nils | exact LSub.p (Sub.tt rfl) | exact LSub.p (Sub.ff rfl) | exact LSub.p (Sub.int (by omega)))) (by refine BlksH.cons (j := 0) rfl rfl ?_ ?_; exact CSub.refl _; exact BlksH.nil) (slices_Sort out (by omega)) rfl rfl ?_; rintro l' H' ⟨rfl, rfl⟩; conv => whnf)
      exact ⟨_, .hd rfl (by simp [sortS_len]), rfl⟩
    | true =>
      obtain ⟨k, hk1, hk2⟩ := h2 rfl
      clear h2 h3
      conv => whnf
      repeat' (intro (_ : _ ≤ 9223372036854775807); conv => whnf)
      refine LoopK.inv tabOK (fun x : Nat × List Str × Bool => ⟨[(1, .p (.ip p.cells)), (3, .p (.ip (sheetOf p).cells)), (4, .hd 0 0 x.2.1.length), (5, .p (bv x.2.2)), (15, .p (.sl (p.procs.map fun f => .agg f.cells))), (16, .p (.int .i64 (p.procs.map fun f => AV.agg f.cells).length)), (17, .p (.int .i64 x.1))], [(0, .own 9 1 (x.2.1.map .str))]⟩)
        (fun x => x.1 ≤ p.procs.length ∧ ((List.range p.procs.length).drop x.1).foldl (endS p) x.2 = roundE p out ∧ x.2.1.length + leftN p x.2.1 ≤ p.procs.length ∧ leftN p x.2.1 + x.2.2.toNat ≤ leftN p out ∧ (x.2.2 = false → x.2.1 = out)) (fun x => p.procs.length - x.1) (0, out, false) (Le.of_eq rfl) ⟨Nat.zero_le _, rfl, h1, Nat.le_refl _, fun _ => rfl⟩ ?_
      rintro ⟨m, o, b⟩ ⟨h4, h5, h6, h7, h8⟩
      simp only at h4 h5 h6 h7 h8 ⊢
      rcases Nat.lt_or_ge m p.procs.length with hm | hm
      rotate_left 1
      · rw [List.drop_eq_nil_of_le (by simpa using hm), List.foldl_nil] at h5
        obtain ⟨k', rfl⟩ : ∃ k', k = k' + 1 := ⟨k - 1, by omega⟩
        rw [endsF, ← h5] at hk2
        conv => whnf
        repeat' (refine Br.dec (fun _ => ?_) (fun _ => ?_) <;> first | (exfalso; omega) | conv => whnf)
        cases b with
        | true => exact ⟨(o, true), ⟨h6, fun _ => ⟨k', by show leftN p o < k'; simp only [Bool.toNat_true] at h7; omega, hk2⟩, by simp⟩, by simp only [Bool.toNat_true] at h7 ⊢; omega, Le.mk [] (by simp) (by simp) (by simp) (.cons (.refl _) (.cons (.refl _) (.cons (.refl _) (.cons (.refl _) .nil)))) (.cons rfl (.refl _) .nil)⟩
        | false => exact ⟨(o, false), ⟨h6, by simp, fun _ => hk2⟩, by simp only [Bool.toNat_true, Bool.toNat_false] at h7 ⊢; omega, Le.mk [] (by simp) (by simp) (by simp) (.cons (.refl _) (.cons (.refl _) (.cons (.refl _) (.cons (.refl _) .nil)))) (.cons rfl (.refl _) .nil)⟩
      have hmr : m < (List.range p.procs.length).length := by simpa using hm
      rw [List.drop_eq_getElem_cons hmr, List.foldl_cons, List.getElem_range] at h5
      have hkj : p.procs[m]? = some p.procs[m] := by simp
      obtain ⟨w1, w2, w3⟩ := chk_way hc hkj
      obtain ⟨_, _, _, hsl, hsp⟩ := sheet_spec p
      obtain ⟨_, _, hle, _⟩ := hsp m _ hkj
      have hreal : ∀ t ∈ (newWay p m p.procs[m]).real, t.src = 0 ∨ (1 ≤ t.src ∧ t.src ≤ (sheetOf p).l.length) := fun t ht => by
        have := (w2 t (normS_mem ht)).1
        omega
      have hrl : (newWay p m p.procs[m]).real.length ≤ 100000 := by
        have h9 := normS_len (stepsRaw p m p.procs[m])
        have h10 := stepsRaw_len p m p.procs[m]
        show (normS (stepsRaw p m p.procs[m])).length ≤ 100000
        omega
      have hE := way_Way_Ends (newWay p m p.procs[m]) p.procs[m] hkj hcn rfl hreal hrl o
      have hst : endS p (o, b) m = bif !(o.any fun s => p.procs[m].name == s) && endsW (newWay p m p.procs[m]) p.procs[m] o then (o ++ [p.procs[m].name], true) else (o, b) := by unfold endS; rw [hkj]
      rw [hst] at h5
      conv => whnf
      repeat' (first | ((first | (refine And.intro rfl ?_) | (refine And.intro ⟨by decide, by decide⟩ ?_) | (refine BsK.pure (fun x hx => by rcases List.mem_singleton.1 hx with rfl; rfl) rfl ?_) | (refine IdxK.map (by omega) (fun _ => rfl) ?_) | (refine Wr.i64 (by omega) (by omega) ?_) | (refine CallK.borrow (slices_Contains_string_string_ o p.procs[m].name) (.cons (.hd rfl (by simp)) (.cons (.p (Sub.refl _)) .nil)) (by rintro _ rfl; rfl) ?_; rintro _ rfl) | (refine CallK.pure (way_New p m p.procs[m] hkj (by omega) w1 w3) (.cons (Sub.refl _) (.cons (Sub.refl _) .nil)) ?_; rintro _ rfl) | (refine CallK.borrow hE (.cons (.p (Sub.refl _)) (.cons (.hd rfl (by simp)) .nil)) (by rintro _ rfl; rfl) ?_; rintro _ rfl) | (refine AppK.str1 (by simp) (by rw [List.length_map]; omega) ?_)); conv => whnf) | (refine Br.dec (fun _ => ?_) (fun _ => ?_) <;> first | (exfalso; omega) | conv => whnf) | (refine Br.n (fun _ => ?_) (fun _ => ?_) <;> conv => whnf) | (refine Br.b (fun _ => ?_) (fun _ => ?_) <;> conv => whnf))
      all_goals first
        | (have e1 : (!(o.any fun s => p.procs[m].name == s) && endsW (newWay p m p.procs[m]) p.procs[m] o) = true := by simp [*]; done
           rw [e1, cond_true] at h5
           have h9 := leftN_add (p := p) (out := o) (f := p.procs[m]) (List.getElem_mem hm) (by assumption)
           exact ⟨(m + 1, o ++ [p.procs[m].name], true), ⟨by simp only; omega, h5, by simp; omega, by show leftN p (o ++ [p.procs[m].name]) + 1 ≤ _; omega, by simp⟩, by simp only; omega, Le.of_eq (by simp only [List.length_append, List.map_append]; rfl)⟩)
        | (have e1 : (!(o.any fun s => p.procs[m].name == s) && endsW (newWay p m p.procs[m]) p.procs[m] o) = false := by simp [*]; done
           rw [e1, cond_false] at h5
           exact ⟨(m + 1, o, b), ⟨by simp only; omega, h5, h6, h7, h8⟩, by simp only; omega, Le.of_eq rfl⟩)
end Go.Ab
namespace Go.Ab
open Go.Proofs
end Go.Ab
namespace Go.Ab
open Go.Proofs
def fitB (p : Pg) : Bool := decide (gPg p ≤ 20000)
theorem fit_of {p : Pg} (h : fitB p = true) : Fit p := by
  have := wg_Pg p
  have h1 : gPg p ≤ 20000 := by simpa [fitB] using h
  unfold Fit
  omega
set_option maxHeartbeats 4000000 in
set_option maxRecDepth 100000 in
theorem whittlerref3_Fits (p : Pg) : SpecP Tryz.prog 16 [.agg p.cells] (fun r => r = .bool (fitB p)) := by
  refine SpecP.body I_whittlerref3_Fits tabOK Tryz.func16 rfl Tryz.call16 (by show 1 ≤ _; decide) ?_
  conv => whnf
  have hl : (p.procs.map fun f => AV.agg f.cells).length = p.procs.length := List.length_map _
  have q0 := satI_rng (a := 0 + gTxs p.globals) (by omega)
  repeat' (refine CallK.pure (whittlerref3_weighTexts p.globals 0 (by omega)) (.cons (Sub.refl _) (.cons (Sub.refl _) .nil)) ?_; rintro _ rfl; conv => whnf)
  refine LoopK.inv tabOK (fun y : Nat × Int => ⟨[(1, .p (.ip p.cells)), (3, .p (.int .i64 y.2)), (4, .p (.int .i64 y.1))], []⟩) (fun y => y.1 ≤ p.procs.length ∧ (0 ≤ y.2 ∧ y.2 ≤ 20001) ∧ satI (y.2 + gPrs (p.procs.drop y.1)) = satI (gPg p : Nat)) (fun y => p.procs.length - y.1) (0, satI (0 + gTxs p.globals)) (Le.of_eq rfl) ⟨Nat.zero_le _, q0, by
    show satI (satI (0 + gTxs p.globals) + gPrs p.procs) = _
    rw [satI_sat (by omega)]
    congr 1
    unfold gPg
    omega⟩ ?_
  rintro ⟨j, m⟩ ⟨h2, h3, h4⟩
  simp only at h2 h3 h4 ⊢
  have last : ∀ {x : Int}, 0 ≤ x ∧ x ≤ 20001 → satI x = satI (gPg p : Nat) → (decide (x ≤ 20000)) = fitB p := fun {x} hx h => by
    unfold fitB
    unfold satI at h
    by_cases h1 : gPg p ≤ 20000
    · rw [decide_eq_true h1, decide_eq_true_eq]
      split at h <;> split at h <;> omega
    · rw [decide_eq_false h1, decide_eq_false_iff_not]
      split at h <;> split at h <;> omega
  rcases Nat.lt_or_ge j p.procs.length with hj | hj
  rotate_left 1
  · rw [List.drop_eq_nil_of_le hj, gPrs] at h4
    conv => whnf
    repeat' (first | (intro (_ : _ ≤ 9223372036854775807); conv => whnf) | (refine Br.dec (fun _ => ?_) (fun _ => ?_) <;> first | (exfalso; omega) | conv => whnf))
    all_goals exact RetK.bool (last h3 (by rw [← h4]; simp))
  rw [List.drop_eq_getElem_cons hj, gPrs] at h4
  have hpe : gPr p.procs[j] = 1 + p.procs[j].name.length + gTxs p.procs[j].vars + gTxs p.procs[j].fin + gPms p.procs[j].params + gL p.procs[j].body := rfl
  have q1 := satI_rng (a := m + (1 + p.procs[j].name.length : Nat)) (by omega)
  have q2 := satI_rng (a := satI (m + (1 + p.procs[j].name.length : Nat)) + gTxs p.procs[j].vars) (by omega)
  have q3 := satI_rng (a := satI (satI (m + (1 + p.procs[j].name.length : Nat)) + gTxs p.procs[j].vars) + gTxs p.procs[j].fin) (by omega)
  conv => whnf
  repeat' (first | ((first | (intro (_ : _ ≤ 9223372036854775807)) | (refine DrawK.auto tabOK mixed (by kernel_rfl) ?_) | (refine And.intro rfl ?_) | (refine IdxK.map (by omega) (fun _ => rfl) ?_) | (refine CallK.pure (whittlerref3_weighText p.procs[j].name _ h3) (.cons (Sub.refl _) (.cons (Sub.refl _) .nil)) ?_; rintro _ rfl) | (refine CallK.pure (whittlerref3_weighTexts p.procs[j].vars _ q1) (.cons (Sub.refl _) (.cons (Sub.refl _) .nil)) ?_; rintro _ rfl) | (refine CallK.pure (whittlerref3_weighTexts p.procs[j].fin _ q2) (.cons (Sub.refl _) (.cons (Sub.refl _) .nil)) ?_; rintro _ rfl)); conv => whnf) | (refine Br.dec (fun _ => ?_) (fun _ => ?_) <;> first | (exfalso; omega) | conv => whnf))
  rotate_left 1
  · exact RetK.bool (last h3 (by rw [← h4, ← satI_full (by omega) h3.2 (by omega), satI_id h3.2]))
  have h5 : satI (satI (satI (satI (m + (1 + p.procs[j].name.length : Nat)) + gTxs p.procs[j].vars) + gTxs p.procs[j].fin) + (gPms p.procs[j].params + (gL p.procs[j].body + gPrs (p.procs.drop (j + 1))) : Nat)) = satI (gPg p : Nat) := by
    rw [satI_sat (by omega), Int.add_assoc, satI_sat (by omega), Int.add_assoc, satI_sat (by omega), ← h4, hpe]
    congr 1
    omega
  generalize satI (satI (satI (m + (1 + p.procs[j].name.length : Nat)) + gTxs p.procs[j].vars) + gTxs p.procs[j].fin) = m0 at q3 h5 ⊢
  have hal : (p.procs[j].params.map fun a => AV.agg a.cells).length = p.procs[j].params.length := List.length_map _
  refine LoopK.inv tabOK (fun y : Nat × Int => ⟨[(1, .p (.ip p.cells)), (3, .p (.int .i64 y.2)), (4, .p (.int .i64 j)), (5, .p (.ip p.procs[j].cells)), (6, .p (.int .i64 y.1))], []⟩) (fun y => y.1 ≤ p.procs[j].params.length ∧ (0 ≤ y.2 ∧ y.2 ≤ 20001) ∧ satI (y.2 + (gPms (p.procs[j].params.drop y.1) + (gL p.procs[j].body + gPrs (p.procs.drop (j + 1))) : Nat)) = satI (gPg p : Nat)) (fun y => p.procs[j].params.length - y.1) (0, m0) (Le.of_eq rfl) ⟨Nat.zero_le _, q3, h5⟩ ?_
  rintro ⟨a, m2⟩ ⟨h6, h7, h8⟩
  simp only at h6 h7 h8 ⊢
  have fin : satI (m2 + (gL p.procs[j].body + gPrs (p.procs.drop (j + 1)) : Nat)) = satI (gPg p : Nat) → (0 ≤ satI (m2 + gL p.procs[j].body) ∧ satI (m2 + gL p.procs[j].body) ≤ 20001) ∧ satI (satI (m2 + gL p.procs[j].body) + gPrs (p.procs.drop (j + 1))) = satI (gPg p : Nat) := fun h => by
    refine ⟨satI_rng (by omega), ?_⟩
    rw [satI_sat (by omega), ← h]
    congr 1
    omega
  have full : m2 > 20000 → satI (m2 + (gL p.procs[j].body + gPrs (p.procs.drop (j + 1)) : Nat)) = satI (gPg p : Nat) := fun h => by
    rw [← h8, ← satI_full h h7.2 (by omega), ← satI_full h h7.2 (by omega)]
  rcases Nat.lt_or_ge a p.procs[j].params.length with ha | ha
  rotate_left 1
  · have h9 : satI (m2 + (gL p.procs[j].body + gPrs (p.procs.drop (j + 1)) : Nat)) = satI (gPg p : Nat) := by
      rw [List.drop_eq_nil_of_le ha, gPms, Nat.zero_add] at h8
      exact h8
    obtain ⟨f1, f2⟩ := fin h9
    conv => whnf
    repeat' (first | ((first | (intro (_ : _ ≤ 9223372036854775807)) | (refine Wr.i64 (by omega) (by omega) ?_) | (refine CallK.pure (whittlerref3_weighStmts (gL p.procs[j].body+1) p.procs[j].body (by omega) m2 h7) (.cons (Sub.refl _) (.cons (Sub.refl _) .nil)) ?_; rintro _ rfl)); conv => whnf) | (refine Br.dec (fun _ => ?_) (fun _ => ?_) <;> first | (exfalso; omega) | conv => whnf))
    all_goals exact ⟨(j + 1, satI (m2 + gL p.procs[j].body)), ⟨by simp only; omega, f1, f2⟩, by simp only; omega, Le.of_eq rfl⟩
  rw [List.drop_eq_getElem_cons ha, gPms] at h8
  conv => whnf
  repeat' (first | ((first | (intro (_ : _ ≤ 9223372036854775807)) | (refine IdxK.map (by omega) (fun _ => rfl) ?_) | (refine Wr.i64 (by omega) (by omega) ?_) | (refine CallK.pure (whittlerref3_weighText p.procs[j].params[a].name _ h7) (.cons (Sub.refl _) (.cons (Sub.refl _) .nil)) ?_; rintro _ rfl) | (refine CallK.pure (whittlerref3_weighStmts (gL p.procs[j].body+1) p.procs[j].body (by omega) m2 h7) (.cons (Sub.refl _) (.cons (Sub.refl _) .nil)) ?_; rintro _ rfl)); conv => whnf) | (refine Br.dec (fun _ => ?_) (fun _ => ?_) <;> first | (exfalso; omega) | conv => whnf))
  · have h10 : satI (satI (m2 + (1 + p.procs[j].params[a].name.length : Nat)) + (gPms (p.procs[j].params.drop (a + 1)) + (gL p.procs[j].body + gPrs (p.procs.drop (j + 1))) : Nat)) = satI (gPg p : Nat) := by
      rw [satI_sat (by omega), ← h8]
      congr 1
      omega
    exact ⟨(a + 1, satI (m2 + (1 + p.procs[j].params[a].name.length : Nat))), ⟨by simp only; omega, satI_rng (by omega), h10⟩, by simp only; omega, Le.of_eq rfl⟩
  · obtain ⟨f1, f2⟩ := fin (full (by omega))
    exact ⟨(j + 1, satI (m2 + gL p.procs[j].body)), ⟨by simp only; omega, f1, f2⟩, by simp only; omega, Le.of_eq rfl⟩
end Go.Ab
namespace Go.Ab
open Go.Proofs
/-- Rows whose elements say less. -/
inductive SubE : List AV → List AV → Prop
  | nil : SubE [] []
  | cons {a b : AV} {xs ys : List AV} (h : SubL a.cells b.cells) (hs : SubE xs ys) : SubE (a :: xs) (b :: ys)
theorem SubE.get {xs ys : List AV} (h : SubE xs ys) : xs.length = ys.length ∧ ∀ (i : Nat) (b : AV), ys[i]? = some b → ∃ a, xs[i]? = some a ∧ SubL a.cells b.cells := by
  induction h with
  | nil => exact ⟨rfl, by simp⟩
  | cons h hs ih =>
    refine ⟨by simp [ih.1], fun i b hb => ?_⟩
    cases i with
    | zero => simp at hb; subst hb; exact ⟨_, rfl, h⟩
    | succ i => exact ih.2 i b (by simpa using hb)
theorem Sub.sl {xs ys : List AV} (h : SubE xs ys) : Sub (.sl xs) (.sl ys) := fun σ v hr => by
  obtain ⟨hl, hg⟩ := h.get
  cases hr with
  | nilsl =>
    obtain rfl : ys = [] := by simpa using hl.symm
    exact .nilsl
  | slz b =>
    obtain rfl : ys = [] := by simpa using hl.symm
    exact .slz b
  | sl _ b off cap sz cells u hb hcap hmax hsz hc hrr =>
    rw [hl]
    refine .sl ys b off cap sz cells u hb (by omega) hmax (fun i e hi => ?_) (fun i e j c hi hj => ?_) (fun i e j c hi hj => ?_)
    · obtain ⟨a, h1, h2⟩ := hg i e hi
      rw [← hsz i a h1, h2.1]
    · obtain ⟨a, h1, h2⟩ := hg i e hi
      obtain ⟨d, h3, _⟩ := h2.get hj
      exact hc i a j d h1 h3
    · obtain ⟨a, h1, h2⟩ := hg i e hi
      obtain ⟨d, h3, h4⟩ := h2.get hj
      exact h4 _ _ (hrr i a j d h1 h3)
set_option maxRecDepth 100000 in
theorem whittlerref3_num (n : Int) : SpecP Tryz.prog 101 [.int .i64 n] (fun r => r = .agg (X.mk 1 n [] []).cells) := by
  refine SpecP.body I_whittlerref3_num tabOK Tryz.func101 rfl Tryz.call101 (by show 1 ≤ _; decide) ?_
  conv => whnf
  repeat' (refine And.intro rfl ?_; conv => whnf)
  exact ⟨_, .p (Sub.agg (by repeat' (first | exact SubL.nil | refine SubL.cons ?_ ?_ | exact Sub.refl _ | exact Sub.nils | exact Sub.ff rfl))), rfl⟩
set_option maxRecDepth 100000 in
theorem whittlerref3_name (s : Str) : SpecP Tryz.prog 102 [.str s] (fun r => r = .agg (X.mk 2 0 s []).cells) := by
  refine SpecP.body I_whittlerref3_name tabOK Tryz.func102 rfl Tryz.call102 (by show 1 ≤ _; decide) ?_
  conv => whnf
  repeat' (refine And.intro rfl ?_; conv => whnf)
  exact ⟨_, .p (Sub.agg (by repeat' (first | exact SubL.nil | refine SubL.cons ?_ ?_ | exact Sub.refl _ | exact Sub.nils | exact Sub.ff rfl))), rfl⟩
set_option maxRecDepth 100000 in
theorem whittlerref3_two (op : Int) (a b : X) : SpecP Tryz.prog 103 [.int .i64 op, .agg a.cells, .agg b.cells] (fun r => r = .agg (X.mk op 0 [] [a, b]).cells) := by
  refine SpecP.body I_whittlerref3_two tabOK Tryz.func103 rfl Tryz.call103 (by show 3 ≤ _; decide) ?_
  conv => whnf
  repeat' ((first | (refine And.intro rfl ?_) | (refine And.intro ⟨by decide, by decide⟩ ?_) | (refine BsK.pureL rfl rfl ?_)); conv => whnf)
  have e : X.avs [a, b] = [.agg a.cells, .agg b.cells] := by simp only [X.avs, X.av_eq]
  exact ⟨_, .p (Sub.agg (SubL.cons (Sub.refl _) (SubL.cons (Sub.refl _) (SubL.cons (Sub.refl _) (SubL.cons (Sub.of_eq (by show _ = AV.sl (X.avs [a, b]); rw [e]; rfl)) SubL.nil))))), rfl⟩
def bs (l : List Nat) : Str := l.map fun n => UInt8.ofNat n
def someP : Pg := ⟨[[103]], [
  ⟨[109, 97, 105, 110], [], [[118]], [
    .mk 1 1 [] [118] [] (.mk 1 2 [] []) false [] [] [],
    .mk 2 4 [] [103] [112] (.mk 0 0 [] []) false [⟨false, [], .mk 1 3 [] []⟩, ⟨true, [118], .mk 0 0 [] []⟩] [] [],
    .mk 3 3 [] [] [] (.mk 2 0 [118] []) false [] [] [],
    .mk 4 3 [] [] [] (.mk 2 0 [103] []) false [] [] []], []⟩,
  ⟨[112], [⟨[120], false⟩, ⟨[121], true⟩], [], [
    .mk 5 1 [] [121] [] (.mk 8 0 [] [.mk 2 0 [121] [], .mk 2 0 [120] []]) false [] [] [],
    .mk 6 5 [] [] [] (.mk 12 0 [] [.mk 2 0 [121] [], .mk 1 9 [] []]) false [] [.mk 7 10 [] [101] [] (.mk 0 0 [] []) false [] [] []] [],
    .mk 8 9 [] [] [] (.mk 2 0 [121] []) true [] [] []], [[101]]⟩]⟩
set_option maxHeartbeats 4000000 in
set_option maxRecDepth 100000 in
theorem whittlerref3_Some : SpecP Tryz.prog 57 [] (fun r => r = .agg someP.cells) := by
  refine SpecP.body I_whittlerref3_Some tabOK Tryz.func57 rfl Tryz.call57 (by show 0 ≤ _; decide) ?_
  conv => whnf
  repeat' ((first | (refine CallK.pure (whittlerref3_num _) (by repeat' (first | exact ArgP.nil | refine ArgP.cons ?_ ?_ | exact Sub.refl _ | exact Sub.tt rfl | exact Sub.ff rfl)) ?_; rintro _ rfl) | (refine CallK.pure (whittlerref3_name _) (by repeat' (first | exact ArgP.nil | refine ArgP.cons ?_ ?_ | exact Sub.refl _ | exact Sub.tt rfl | exact Sub.ff rfl)) ?_; rintro _ rfl) | (refine And.intro rfl ?_) | (refine And.intro ⟨by decide, by decide⟩ ?_) | (refine BsK.pure (fun x hx => by rcases List.mem_singleton.1 hx with rfl; rfl) rfl ?_) | (refine BsK.pureL rfl rfl ?_) | (refine CallK.pure (whittlerref3_two 8 (.mk 2 0 [121] []) (.mk 2 0 [120] [])) (.cons (Sub.refl _) (.cons (Sub.refl _) (.cons (Sub.refl _) .nil))) ?_; rintro _ rfl) | (refine CallK.pure (whittlerref3_two 12 (.mk 2 0 [121] []) (.mk 1 9 [] [])) (.cons (Sub.refl _) (.cons (Sub.refl _) (.cons (Sub.refl _) .nil))) ?_; rintro _ rfl)); conv => whnf)
  exact ⟨_, .p (Sub.agg (by repeat' (first | exact SubL.nil | exact SubE.nil | exact Sub.nils | exact Sub.ff rfl | exact Sub.tt rfl | refine SubL.cons ?_ ?_ | refine SubE.cons ?_ ?_ | exact Sub.refl _ | refine Sub.agg ?_ | refine Sub.sl ?_))), rfl⟩
end Go.Ab
namespace Go.Ab
open Go.Proofs
theorem some_fit : Fit someP := by unfold Fit; decide
theorem some_chk : chkB someP = true := by kernel_rfl
theorem some_first : firstR someP [112] = (5, true) := by kernel_rfl
theorem some_behind : behR someP 7 = (8, true) := by kernel_rfl
def f0 : Pr := someP.procs[0]'(by decide)
def f1 : Pr := someP.procs[1]'(by decide)
theorem norm0 : normS (stepsRaw someP 0 f0) = [⟨0, 1, 1⟩, ⟨1, 2, 1⟩, ⟨2, 3, 1⟩, ⟨3, 4, 1⟩, ⟨4, -1, 1⟩] := by
  have h1 : stepsRaw someP 0 f0 = [⟨0, 1, 1⟩, ⟨1, 2, 1⟩, ⟨2, 3, 1⟩, ⟨3, 4, 1⟩, ⟨4, -1, 1⟩] := by kernel_rfl
  unfold normS sortSt
  rw [h1, List.mergeSort_of_pairwise (by decide)]
  rfl
theorem norm1 : normS (stepsRaw someP 1 f1) = [⟨0, 5, 1⟩, ⟨5, 6, 1⟩, ⟨6, 7, 1⟩, ⟨6, 8, 1⟩, ⟨7, -1, 1⟩, ⟨8, -1, 1⟩] := by
  have h1 : stepsRaw someP 1 f1 = [⟨0, 5, 1⟩, ⟨5, 6, 1⟩, ⟨6, 7, 1⟩, ⟨6, 8, 1⟩, ⟨7, -1, 1⟩, ⟨8, -1, 1⟩] := by kernel_rfl
  unfold normS sortSt
  rw [h1, List.mergeSort_of_pairwise (by decide)]
  rfl
theorem some_way : wayO someP [112] = some (newWay someP 1 f1) := by
  unfold wayO
  rw [some_chk]
  rfl
theorem some_of : (ofR someP [112]).length = 6 := by
  unfold ofR
  rw [some_way]
  show (normS (stepsRaw someP 1 f1)).length = 6
  rw [norm1]
  rfl
theorem some_live : (liveR someP [112]).length = 4 := by
  unfold liveR
  rw [some_way]
  show (liveL (newWay someP 1 f1)).length = 4
  unfold newWay
  simp only [norm1]
  kernel_rfl
theorem e00 : endsW (newWay someP 0 f0) f0 [] = false := by
  unfold newWay
  simp only [norm0]
  kernel_rfl
theorem e10 : endsW (newWay someP 1 f1) f1 [] = true := by
  unfold newWay
  simp only [norm1]
  kernel_rfl
theorem e01 : endsW (newWay someP 0 f0) f0 [[112]] = true := by
  unfold newWay
  simp only [norm0]
  kernel_rfl
theorem some_ends : (endsR someP).length = 2 := by
  have r1 : roundE someP [] = ([[112]], true) := by
    show endS someP (endS someP ([], false) 0) 1 = _
    have h1 : endS someP ([], false) 0 = ([], false) := by
      show (bif true && endsW (newWay someP 0 f0) f0 [] then _ else _) = _
      rw [e00]
      rfl
    rw [h1]
    show (bif true && endsW (newWay someP 1 f1) f1 [] then _ else _) = _
    rw [e10]
    rfl
  have r2 : roundE someP [[112]] = ([[112], [109, 97, 105, 110]], true) := by
    show endS someP (endS someP ([[112]], false) 0) 1 = _
    have h1 : endS someP ([[112]], false) 0 = ([[112], [109, 97, 105, 110]], true) := by
      show (bif true && endsW (newWay someP 0 f0) f0 [[112]] then _ else _) = _
      rw [e01]
      rfl
    rw [h1]
    rfl
  have r3 : roundE someP [[112], [109, 97, 105, 110]] = ([[112], [109, 97, 105, 110]], false) := by
    show endS someP (endS someP ([[112], [109, 97, 105, 110]], false) 0) 1 = _
    rfl
  have h : endsF someP (someP.procs.length + 1) [] = [[112], [109, 97, 105, 110]] := by
    show endsF someP 3 [] = _
    rw [endsF, r1, cond_true, endsF, r2, cond_true, endsF, r3]
    rfl
  unfold endsR
  rw [some_chk, cond_true, h, sortS_len]
  rfl
set_option maxHeartbeats 2000000 in
set_option maxRecDepth 100000 in
theorem whittlerlaw15_flowing : SpecP Tryz.prog 15 [] (fun r => r = .tt) := by
  have hB := cfg_Behind someP some_fit 7
  rw [some_behind] at hB
  have hF := cfg_First someP some_fit [112]
  rw [some_first] at hF
  have hO := some_of
  have hL := some_live
  have hE := some_ends
  refine SpecP.body I_whittlerlaw15_flowing tabOK Tryz.func15 rfl Tryz.call15 (by show 0 ≤ _; decide) ?_
  conv => whnf
  repeat' (first | ((first | (intro (_ : _ ≤ 9223372036854775807)) | (refine And.intro rfl ?_) | (refine CallK.pure whittlerref3_Some .nil ?_; rintro _ rfl) | (refine CallK.pure hB (.cons (Sub.refl _) (.cons (Sub.refl _) .nil)) ?_; rintro _ rfl) | (refine CallK.pure hF (.cons (Sub.refl _) (.cons (Sub.refl _) .nil)) ?_; rintro _ rfl) | (refine CallK.pure (cfg_Of someP some_fit [112]) (.cons (Sub.refl _) (.cons (Sub.refl _) .nil)) ?_; rintro _ rfl) | (refine CallK.pure (cfg_Live someP some_fit [112]) (.cons (Sub.refl _) (.cons (Sub.refl _) .nil)) ?_; rintro _ rfl) | (refine CallK.pure (cfg_Ends someP some_fit) (.cons (Sub.refl _) .nil) ?_; rintro _ rfl)); conv => whnf) | (refine Br.dec (fun _ => ?_) (fun _ => ?_) <;> first | (exfalso; omega) | conv => whnf) | (refine Br.b (fun _ => ?_) (fun _ => ?_) <;> conv => whnf))
  all_goals first
    | exact ⟨_, .p (Sub.tt' (by rw [List.length_map, hE]; rfl)), rfl⟩
    | (exfalso; simp only [List.length_map] at *; omega)
    | (exfalso; simp_all; done)
end Go.Ab
namespace Go.Ab
open Go.Proofs
theorem step_rep {σ : Mem} {a : Step} {v : Value} (h : Rep σ (.agg a.cells) v) : v = .agg #[.int .i64 a.src, .int .i64 a.dst, .int .i64 a.kind] := by
  cases h with
  | agg cs vs u hn hc hr =>
    have hs : vs.size = 3 := hn
    have g : ∀ (j : Nat) (n : Int), a.cells[j]? = some (.int .i64 n) → vs[j]? = some (.int .i64 n) := fun j n hj => by
      have h1 := hc j _ hj
      have h2 := hr j _ hj
      cases hu : u j <;> rw [hu] at h2 <;> cases h2
      rw [h1, hu]
    congr 1
    apply Array.ext_getElem?
    intro i
    match i with
    | 0 => exact g 0 _ rfl
    | 1 => exact g 1 _ rfl
    | 2 => exact g 2 _ rfl
    | i + 3 => rw [Array.getElem?_eq_none (by omega), Array.getElem?_eq_none (by simp)]
theorem ValO.steps {hr : Bool} {s : St} {o : Oper} {K : LV → Prop} {x y : Operand} {u : TypeId} (hop : o.op = .binOp .eql 49 x y u) {a b : Step} (hx : evalO s.sl x = .p (.agg a.cells)) (hy : evalO s.sl y = .p (.agg b.cells))
    (hK : K (.p (.bool (decide (a = b))))) : ValO Tryz.prog hr s o K := by
  refine ⟨fun σ β ac w hs _ => ⟨_, .bool (decide (a = b)), hK, .p (.bool _), fun w' _ _ => ?_⟩⟩
  have h1 : ac.eval x = .agg #[.int .i64 a.src, .int .i64 a.dst, .int .i64 a.kind] := by
    have := evalO_rep hs x
    rw [hx] at this
    cases this with
    | p h => exact step_rep h
  have h2 : ac.eval y = .agg #[.int .i64 b.src, .int .i64 b.dst, .int .i64 b.kind] := by
    have := evalO_rep hs y
    rw [hy] at this
    cases this with
    | p h => exact step_rep h
  have hu : Tryz.prog.underlying 49 = some (.struct (Tryz.prog.fieldsOf 49)) := by kernel_rfl
  have hi : Tryz.prog.underlying 3 = some (.int .i64) := by kernel_rfl
  have hf : (Tryz.prog.fieldsOf 49).toList = (match ty49.desc with | .struct fs => fs.toList | _ => []) := by kernel_rfl
  have he : (Op.equalIn 10000 49 (.agg #[.int .i64 a.src, .int .i64 a.dst, .int .i64 a.kind]) (.agg #[.int .i64 b.src, .int .i64 b.dst, .int .i64 b.kind])).run Tryz.prog w' = .ok (decide (a = b)) w' := by
    rw [run_equalIn_struct w' 9999 _ _ _ hu (by kernel_rfl), hf]
    simp only [ty49, Op.eqFields]
    have p0 : ∀ x y z : Int, (part 3 #[.int .i64 x, .int .i64 y, .int .i64 z] 0).run Tryz.prog w' = .ok (.int .i64 x) w' := fun x y z => run_part_plain w' (by kernel_rfl) rfl
    have p1 : ∀ x y z : Int, (part 3 #[.int .i64 x, .int .i64 y, .int .i64 z] 1).run Tryz.prog w' = .ok (.int .i64 y) w' := fun x y z => run_part_plain w' (by kernel_rfl) rfl
    have p2 : ∀ x y z : Int, (part 3 #[.int .i64 x, .int .i64 y, .int .i64 z] 2).run Tryz.prog w' = .ok (.int .i64 z) w' := fun x y z => run_part_plain w' (by kernel_rfl) rfl
    have ei : ∀ x y : Int, (Op.equalIn 9999 3 (.int .i64 x) (.int .i64 y)).run Tryz.prog w' = .ok (x == y) w' := fun a b => run_equalIn_int (P := Tryz.prog) w' 9998 3 .i64 .i64 a b hi
    have e : decide (a = b) = ((a.src == b.src) && ((a.dst == b.dst) && (a.kind == b.kind))) := by
      cases a; cases b
      simp only [Step.mk.injEq, Bool.decide_and]
      rfl
    simp only [ne_eq, show ¬ ("From" = "_") by decide, show ¬ ("To" = "_") by decide, show ¬ ("Kind" = "_") by decide, not_false_eq_true, if_true, Sem.run_bind, p0, p1, p2, Result.andThen_ok, ei, Sem.run_ite, Sem.run_pure, e]
    cases (a.src == b.src) <;> cases (a.dst == b.dst) <;> cases (a.kind == b.kind) <;> simp
  simp only [execOp, hop, h1, h2, Sem.run_bind, run_eqGuard_agg _ _ _ _ _ _ _ (show Tryz.prog.eqGuardType Tryz.prog.depth 49 = false by kernel_rfl), Result.andThen_ok, run_eql_struct, he, Sem.run_pure]
end Go.Ab
namespace Go.Ab
open Go.Proofs
end Go.Ab
namespace Go.Ab
open Go.Proofs
def modI (n k : Int) : Int := if k < 1 then 0 else if n.tmod k < 0 then n.tmod k + k else n.tmod k
theorem modI_rng {n k : Int} (hk : 0 < k) : 0 ≤ modI n k ∧ modI n k < k := by
  unfold modI
  have h1 := Int.tmod_lt_of_pos n hk
  have h2 : -k < n.tmod k := by
    rcases Int.le_total 0 n with h | h
    · have := Int.tmod_nonneg k h; omega
    · have h3 := Int.tmod_lt_of_pos (-n) hk
      rw [Int.neg_tmod] at h3
      omega
  rw [if_neg (by omega)]
  split <;> omega
set_option maxRecDepth 100000 in
theorem whittlerref3_Mod (n k : Int) (hk : k ≤ 1000000) : SpecP Tryz.prog 67 [.int .i64 n, .int .i64 k] (fun r => r = .int .i64 (modI n k)) := by
  refine SpecP.body I_whittlerref3_Mod tabOK Tryz.func67 rfl Tryz.call67 (by show 2 ≤ _; decide) ?_
  conv => whnf
  have h1 := fun h : 0 < k => modI_rng (n := n) h
  repeat' (first | (refine And.intro (by omega) ?_; conv => whnf) | (refine Br.dec (fun _ => ?_) (fun _ => ?_) <;> first | (exfalso; omega) | conv => whnf))
  all_goals first
    | (refine Wr.i64 (by have := h1 (by omega); unfold modI at this; rw [if_neg (by omega), if_pos (by assumption)] at this; omega) (by have := h1 (by omega); unfold modI at this; rw [if_neg (by omega), if_pos (by assumption)] at this; omega) ?_
       conv => whnf
       exact RetK.int (by unfold modI; rw [if_neg (by assumption), if_pos (by assumption)]))
    | exact RetK.int (by unfold modI; rw [if_pos (by assumption)])
    | exact RetK.int (by unfold modI; rw [if_neg (by assumption), if_neg (by assumption)])
def hasI (l : List Int) (x : Int) : Bool := l.any fun y => decide (x = y)
def procAtR (p : Pg) (n : Int) : Str := match p.procs[(modI n p.procs.length).toNat]? with
  | some f => f.name
  | none => []
set_option maxRecDepth 100000 in
theorem whittlerref6_ProcAt (p : Pg) (n : Int) (hp : p.procs.length ≤ 20000) : SpecP Tryz.prog 20 [.agg p.cells, .int .i64 n] (fun r => r = .str (procAtR p n)) := by
  refine SpecP.body I_whittlerref6_ProcAt tabOK Tryz.func20 rfl Tryz.call20 (by show 2 ≤ _; decide) ?_
  conv => whnf
  have hl : (p.procs.map fun f => AV.agg f.cells).length = p.procs.length := List.length_map _
  have hr := fun h : 0 < (p.procs.length : Int) => modI_rng (n := n) h
  repeat' (first | ((first | (intro (_ : _ ≤ 9223372036854775807)) | (refine DrawK.auto tabOK mixed (by kernel_rfl) ?_) | (refine CallK.pure (whittlerref3_Mod n (p.procs.length : Int) (by omega)) (.cons (Sub.refl _) (.cons (Sub.int (by omega)) .nil)) ?_; rintro _ rfl)); conv => whnf) | (refine Br.dec (fun _ => ?_) (fun _ => ?_) <;> first | (exfalso; omega) | conv => whnf))
  · refine RetK.p ?_
    have h0 : p.procs = [] := List.length_eq_zero_iff.1 (by omega)
    unfold procAtR
    rw [h0]
    rfl
  · obtain ⟨h1, h2⟩ := hr (by omega)
    have hlt : (modI n p.procs.length).toNat < p.procs.length := by omega
    refine IdxK.at (k := (modI n p.procs.length).toNat) (e := .agg p.procs[(modI n p.procs.length).toNat].cells) (by omega) (by rw [List.getElem?_map, List.getElem?_eq_getElem hlt]; rfl) rfl ?_
    conv => whnf
    skip
    exact RetK.p (by unfold procAtR; rw [List.getElem?_eq_getElem hlt])
end Go.Ab
namespace Go.Ab
open Go.Proofs
theorem nodup_len {α : Type} [DecidableEq α] : ∀ {l m : List α}, l.Nodup → (∀ s ∈ l, s ∈ m) → l.length ≤ m.length
  | [], m, _, _ => Nat.zero_le _
  | a :: r, m, h, hs => by
    rw [List.nodup_cons] at h
    have ha := hs a List.mem_cons_self
    have h1 := nodup_len (m := m.erase a) h.2 fun s hsr => (List.mem_erase_of_ne (fun e => h.1 (by rw [← e]; exact hsr))).2 (hs s (List.mem_cons_of_mem _ hsr))
    rw [List.length_erase_of_mem ha] at h1
    have := List.length_pos_of_mem ha
    simp only [List.length_cons]
    omega
theorem hasI_iff {l : List Int} {x : Int} : hasI l x = true ↔ x ∈ l := by
  unfold hasI
  rw [List.any_eq_true]
  refine ⟨fun ⟨y, h1, h2⟩ => by simp at h2; exact h2 ▸ h1, fun h => ⟨x, h, by simp⟩⟩
end Go.Ab
namespace Go.Ab
open Go.Proofs
theorem fit_procs {p : Pg} (h : chkB p = true) : p.procs.length ≤ 20000 := by have := (chk_cnt h).2.1; omega
end Go.Ab
namespace Go.Ab
open Go.Proofs
/-- A way of steps. -/
inductive Rch {α : Type} (R : α → α → Prop) (a : α) : α → Prop
  | refl : Rch R a a
  | tail {b c : α} (h : Rch R a b) (hr : R b c) : Rch R a c
theorem Rch.trans {α : Type} {R : α → α → Prop} {a b c : α} (h : Rch R a b) (h' : Rch R b c) : Rch R a c := by
  induction h' with
  | refl => exact h
  | tail _ hr ih => exact .tail ih hr
theorem Rch.mono {α : Type} {R R' : α → α → Prop} (h : ∀ x y, R x y → R' x y) {a b : α} (hr : Rch R a b) : Rch R' a b := by
  induction hr with
  | refl => exact .refl
  | tail _ hr ih => exact .tail ih (h _ _ hr)
/-- What is closed and holds the beginning holds all that ways lead to. -/
theorem Rch.closed {α : Type} {R : α → α → Prop} {S : α → Prop} (hS : ∀ x y, S x → R x y → S y) {a b : α} (ha : S a) (h : Rch R a b) : S b := by
  induction h with
  | refl => exact ha
  | tail _ hr ih => exact hS _ _ ih hr
end Go.Ab
namespace Go.Ab
open Go.Proofs
end Go.Ab
namespace Go.Ab
open Go.Proofs
end Go.Ab
namespace Go.Ab
open Go.Proofs
/-- A step that may be taken: from the beginning, or past none of some. -/
def frR (steps : List Step) (at_ : Int) (but : List Int) (a b : Int) : Prop := (a = at_ ∨ hasI but a = false) ∧ ∃ s ∈ steps, s.src = a ∧ s.dst = b
structure FrI (steps : List Step) (at_ : Int) (but : List Int) (n : Nat) (l : List Int) : Prop where
  le : n ≤ l.length
  hd : l[0]? = some at_
  nd : l.Nodup
  sub : ∀ x ∈ l, x ∈ at_ :: steps.map Step.dst
  snd : ∀ x ∈ l, Rch (frR steps at_ but) at_ x
  cl : ∀ (m : Nat) (a : Int), m < n → l[m]? = some a → ∀ b, frR steps at_ but a b → b ∈ l
theorem FrI.len {steps : List Step} {at_ : Int} {but : List Int} {n : Nat} {l : List Int} (h : FrI steps at_ but n l) : l.length ≤ steps.length + 1 := by
  have := nodup_len h.nd h.sub
  simpa using this
theorem FrI.add {steps : List Step} {at_ : Int} {but : List Int} {n : Nat} {l : List Int} (h : FrI steps at_ but n l) {a b : Int} (ha : a ∈ l) (hb : frR steps at_ but a b) (hn : hasI l b = false) : FrI steps at_ but n (l ++ [b]) := by
  have hnm : b ∉ l := fun hm => by rw [hasI_iff.2 hm] at hn; cases hn
  have h0 : 0 < l.length := (List.getElem?_eq_some_iff.1 h.hd).1
  refine ⟨by rw [List.length_append]; have := h.le; omega, by rw [List.getElem?_append_left h0]; exact h.hd, ?_, fun x hx => ?_, fun x hx => ?_, fun m c hm hc d hd => ?_⟩
  · rw [List.nodup_append]
    refine ⟨h.nd, by simp, fun x hx y hy => ?_⟩
    rw [List.mem_singleton.1 hy]
    exact fun e => hnm (e ▸ hx)
  · rcases List.mem_append.1 hx with hx | hx
    · exact h.sub x hx
    · rw [List.mem_singleton.1 hx]
      obtain ⟨_, s, hs, _, h2⟩ := hb
      exact List.mem_cons_of_mem _ (List.mem_map.2 ⟨s, hs, h2⟩)
  · rcases List.mem_append.1 hx with hx | hx
    · exact h.snd x hx
    · rw [List.mem_singleton.1 hx]
      exact .tail (h.snd a ha) hb
  · rcases Nat.lt_or_ge m l.length with hml | hml
    · rw [List.getElem?_append_left hml] at hc
      exact List.mem_append.2 (.inl (h.cl m c hm hc d hd))
    · have := h.le
      omega
theorem FrI.fin {steps : List Step} {at_ : Int} {but : List Int} {l : List Int} (h : FrI steps at_ but l.length l) (x : Int) : x ∈ l ↔ Rch (frR steps at_ but) at_ x := by
  refine ⟨h.snd x, fun hr => hr.closed (S := fun x => x ∈ l) (fun a b ha hb => ?_) (List.mem_of_getElem? h.hd)⟩
  obtain ⟨m, hm⟩ := List.mem_iff_getElem?.1 ha
  exact h.cl m a (List.getElem?_eq_some_iff.1 hm).1 hm b hb
theorem FrI.next {steps : List Step} {at_ : Int} {but : List Int} {n : Nat} {l : List Int} (h : FrI steps at_ but n l) (hn : n < l.length) (hc : ∀ b, frR steps at_ but l[n] b → b ∈ l) : FrI steps at_ but (n + 1) l := by
  refine ⟨hn, h.hd, h.nd, h.sub, h.snd, fun m a hm ha b hb => ?_⟩
  rcases Nat.lt_or_ge m n with hmn | hmn
  · exact h.cl m a hmn ha b hb
  · obtain rfl : m = n := by omega
    rw [List.getElem?_eq_getElem hn] at ha
    cases ha
    exact hc b hb
end Go.Ab
namespace Go.Ab
open Go.Proofs
theorem ValO.boolEql {P : Program} {T : Tab} {hr : Bool} {s : St} {o : Oper} {K : LV → Prop} (hT : TabOK P T) {t u : TypeId} {x y : Operand} (hop : o.op = .binOp .eql t x y u) {i : TyI} (ht : T.get t = some i) (hd : i.desc = .bool)
    {a b : Bool} (hx : asBL (evalO s.sl x) = some a) (hy : asBL (evalO s.sl y) = some b) (hK : K (.p (.bool (a == b)))) : ValO P hr s o K := by
  refine ⟨fun σ β ac w hs _ => ⟨_, .bool (a == b), hK, .p (.bool _), fun w' _ _ => ?_⟩⟩
  have h1 := asBL_rep (evalO_rep hs x) hx
  have h2 := asBL_rep (evalO_rep hs y) hy
  have hu := hT.of ht
  rw [hd] at hu
  have hg : (eqGuard .eql t x y (.bool a) (.bool b)).run P w' = .ok () w' := by unfold eqGuard; rfl
  have he : (Op.equal t (.bool a) (.bool b)).run P w' = .ok (a == b) w' := by
    have e : Op.equal t (.bool a) (.bool b) = Op.equalIn (9999 + 1) t (.bool a) (.bool b) := rfl
    rw [e, Op.equalIn, Sem.run_bind, run_underlying hu, Result.andThen_ok]
    rfl
  simp only [execOp, hop, h1, h2, Sem.run_bind, hg, Result.andThen_ok, binOp]
  simp [he]
theorem DrawK.frz {P : Program} {T : Tab} {N : Nat} {ops : Array Oper} {info : Info} {id : Nat} {K : St → Prop} {s : St} (gs : List (List Nat)) (h : frzK gs s fun s' => DrawK P T N info id ops K s') : DrawK P T N info id ops K s := by
  obtain ⟨s', h1, h2⟩ := frzK_spec (N := N) h
  exact DrawK.le h2 h1
end Go.Ab
namespace Go.Ab
open Go.Proofs
theorem mem_compact {l : List Str} {s : Str} (h : s ∈ l) : s ∈ Go.Lib.compact l := by
  have key : ∀ (j : Nat) (hj : j < l.length), l[j] ∈ Go.Lib.compact l := fun j => by
    induction j with
    | zero =>
      intro hj
      refine List.mem_map.2 ⟨0, List.mem_filter.2 ⟨by simpa using hj, by simp [Go.Lib.keeps]⟩, ?_⟩
      simp [hj]
    | succ j ih =>
      intro hj
      cases hk : Go.Lib.keeps l.toArray (j + 1) with
      | true =>
        refine List.mem_map.2 ⟨j + 1, List.mem_filter.2 ⟨by simpa using hj, hk⟩, ?_⟩
        simp [hj]
      | false =>
        have hj' : j < l.length := by omega
        have : l[j + 1] = l[j] := by
          unfold Go.Lib.keeps at hk
          simp [hj, hj'] at hk
          exact hk
        rw [this]
        exact ih hj'
  obtain ⟨j, hj, rfl⟩ := List.mem_iff_getElem.1 h
  exact key j hj
theorem mem_compact_iff {l : List Str} {s : Str} : s ∈ Go.Lib.compact l ↔ s ∈ l := ⟨compact_mem, mem_compact⟩
theorem callsL_mem {f : Pr} {s : Str} : s ∈ callsL f ↔ ∃ t ∈ flL f.body, t.kind = 4 ∧ t.proc = s := by
  unfold callsL callsRaw
  rw [mem_compact_iff, sortS_mem, List.mem_map]
  simp only [List.mem_filter, decide_eq_true_eq, and_assoc]
theorem addAll_mem {s : Str} : ∀ (l out : List Str), s ∈ addAll out l ↔ s ∈ out ∨ s ∈ l
  | [], out => by rw [addAll]; simp
  | n :: r, out => by
    rw [addAll, addAll_mem r]
    split
    · rename_i h
      obtain ⟨m, hm, he⟩ := List.any_eq_true.1 h
      have : n = m := by simpa using he
      subst this
      constructor
      · rintro (h | h)
        · exact .inl h
        · exact .inr (List.mem_cons_of_mem _ h)
      · rintro (h | h)
        · exact .inl h
        · rcases List.mem_cons.1 h with rfl | h
          · exact .inl hm
          · exact .inr h
    · simp only [List.mem_append, List.mem_cons, List.not_mem_nil, or_assoc, false_or]
theorem addAll_pre : ∀ (l out : List Str), ∃ r, addAll out l = out ++ r
  | [], out => ⟨[], by rw [addAll]; simp⟩
  | n :: r, out => by
    rw [addAll]
    split
    · exact addAll_pre r out
    · obtain ⟨r', h⟩ := addAll_pre r (out ++ [n])
      exact ⟨n :: r', by rw [h]; simp⟩
theorem reachN_spec {p : Pg} (hs : (scopeB p).1 = 0) (n : Str) : ∀ (fuel i : Nat) (out : List Str), out.Nodup → (∀ s ∈ out, s ∈ procsN p) → (∀ s ∈ out, Rch (fun x y => y ∈ callsN p x) n s) → n ∈ out → i ≤ out.length → (∀ (j : Nat) (m : Str), j < i → out[j]? = some m → ∀ y ∈ callsN p m, y ∈ out) → p.procs.length + 1 ≤ fuel + i →
    (∀ s ∈ reachN p fuel i out, Rch (fun x y => y ∈ callsN p x) n s) ∧ n ∈ reachN p fuel i out ∧ ∀ m ∈ reachN p fuel i out, ∀ y ∈ callsN p m, y ∈ reachN p fuel i out
  | 0, i, out, h1, h2, h3, h4, h5, h6, h7 => by
    have := sub_len h1 h2
    have hl : (procsN p).length = p.procs.length := List.length_map _
    omega
  | fuel + 1, i, out, h1, h2, h3, h4, h5, h6, h7 => by
    rw [reachN]
    cases ho : out[i]? with
    | none =>
      have hi : out.length ≤ i := List.getElem?_eq_none_iff.1 ho
      refine ⟨h3, h4, fun m hm y hy => ?_⟩
      have hm : m ∈ out := hm
      show y ∈ out
      obtain ⟨j, hj, rfl⟩ := List.mem_iff_getElem.1 hm
      exact h6 j _ (by omega) (List.getElem?_eq_getElem hj) y hy
    | some m =>
      have hi := (List.getElem?_eq_some_iff.1 ho).1
      have hm : m ∈ out := List.mem_of_getElem? ho
      obtain ⟨g1, g2, _⟩ := addAll_inv (callsN p m) h1 h2 fun s h => callsN_known hs h
      obtain ⟨r, hr⟩ := addAll_pre (callsN p m) out
      refine reachN_spec hs n fuel (i + 1) (addAll out (callsN p m)) g1 g2 (fun s h => ?_) ((addAll_mem _ _).2 (.inl h4)) (by rw [hr, List.length_append]; omega) (fun j m' hj hm' y hy => ?_) (by omega)
      · rcases (addAll_mem _ _).1 h with h | h
        · exact h3 s h
        · exact .tail (h3 m hm) h
      · rw [hr, List.getElem?_append_left (by omega)] at hm'
        rcases Nat.lt_or_ge j i with h | h
        · exact (addAll_mem _ _).2 (.inl (h6 j m' h hm' y hy))
        · have : j = i := by omega
          subst this
          rw [ho] at hm'
          cases hm'
          exact (addAll_mem _ _).2 (.inr hy)
theorem allN_mem {p : Pg} (hs : (scopeB p).1 = 0) {n s : Str} (hn : n ∈ procsN p) : s ∈ allN p n ↔ Rch (fun x y => y ∈ callsN p x) n s := by
  obtain ⟨h1, h2, h3⟩ := reachN_spec hs n (p.procs.length + 1) 0 [n] (by simp) (by simpa using hn) (fun s h => by rcases List.mem_singleton.1 h with rfl; exact .refl) (by simp) (Nat.zero_le _) (fun j m h => absurd h (by omega)) (by omega)
  unfold allN
  rw [sortS_mem]
  exact ⟨h1 s, fun h => Rch.closed (fun x y hx hy => h3 x hx y hy) h2 h⟩
theorem globL_mem {p : Pg} (hs : (scopeB p).1 = 0) {n v : Str} (hn : n ∈ procsN p) : v ∈ globL p n ↔ ∃ m, Rch (fun x y => y ∈ callsN p x) n m ∧ v ∈ globN p m := by
  unfold globL globRaw
  rw [mem_compact_iff, sortS_mem, List.mem_flatMap]
  simp only [allN_mem hs hn]
theorem callsN_sw (a b : Str) (p : Pg) (x z : Str) : z ∈ callsN (swPg a b p) (otherS a b x) ↔ ∃ y ∈ callsN p x, z = otherS a b y := by
  unfold callsN
  rw [find_proc_sw]
  cases p.procs.find? fun f => f.name == x with
  | none => simp
  | some f =>
    simp only [Option.map_some, callsL_mem, show (swPr a b f).body = swL a b f.body from rfl, flL_sw, List.mem_map]
    constructor
    · rintro ⟨_, ⟨t, h1, rfl⟩, h2, rfl⟩
      exact ⟨t.proc, ⟨t, h1, by rw [← h2, swS_kind], rfl⟩, swS_proc a b t⟩
    · rintro ⟨_, ⟨t, h1, h2, rfl⟩, rfl⟩
      exact ⟨_, ⟨t, h1, rfl⟩, by rw [swS_kind, h2], swS_proc a b t⟩
theorem rchC_sw (a b : Str) (p : Pg) (n z : Str) : Rch (fun x y => y ∈ callsN (swPg a b p) x) (otherS a b n) z ↔ ∃ y, Rch (fun x y => y ∈ callsN p x) n y ∧ z = otherS a b y := by
  constructor
  · intro h
    induction h with
    | refl => exact ⟨n, .refl, rfl⟩
    | tail _ hr ih =>
      obtain ⟨y, h1, rfl⟩ := ih
      obtain ⟨w, h2, rfl⟩ := (callsN_sw a b p y _).1 hr
      exact ⟨w, .tail h1 h2, rfl⟩
  · rintro ⟨y, h, rfl⟩
    induction h with
    | refl => exact .refl
    | tail _ hr ih => exact .tail ih ((callsN_sw a b p _ _).2 ⟨_, hr, rfl⟩)
theorem globN_sw {a b : Str} (h : Ren a b) (p : Pg) (m : Str) : globN (swPg a b p) (otherS a b m) = (globN p m).map (otherS a b) := by
  unfold globN
  rw [find_proc_sw]
  cases p.procs.find? fun f => f.name == m with
  | none => rfl
  | some f =>
    simp only [Option.map_some, show (swPr a b f).body = swL a b f.body from rfl, flL_sw, List.flatMap_map, List.map_flatMap]
    congr 1
    funext t
    unfold globT
    rw [namesT_sw h, List.filter_map]
    congr 1
    apply List.filter_congr
    intro v _
    exact any_sw a b v p.globals
theorem mem_any {l : List Str} {v : Str} : (l.any fun s => v == s) = true ↔ v ∈ l := by
  rw [List.any_eq_true]
  constructor
  · rintro ⟨s, h1, h2⟩
    rwa [show v = s by simpa using h2]
  · exact fun h => ⟨v, h, by simp⟩
theorem known_sw {a b : Str} {p : Pg} {n : Str} (hn : n ∈ procsN p) : otherS a b n ∈ procsN (swPg a b p) := by
  rw [procsN_sw]
  exact List.mem_map_of_mem hn
theorem globL_sw {a b : Str} (h : Ren a b) {p : Pg} (hs : (scopeB p).1 = 0) {n : Str} (hn : n ∈ procsN p) (v : Str) : ((globL (swPg a b p) (otherS a b n)).any fun s => otherS a b v == s) = (globL p n).any fun s => v == s := by
  rw [Bool.eq_iff_iff, mem_any, mem_any, globL_mem (by rw [scopeB_sw h]; exact hs) (known_sw hn), globL_mem hs hn]
  constructor
  · rintro ⟨m, h1, h2⟩
    obtain ⟨y, h3, rfl⟩ := (rchC_sw a b p n m).1 h1
    rw [globN_sw h] at h2
    obtain ⟨w, h4, h5⟩ := List.mem_map.1 h2
    exact ⟨y, h3, by rwa [← other_inj h5]⟩
  · rintro ⟨m, h1, h2⟩
    exact ⟨_, (rchC_sw a b p n _).2 ⟨m, h1, rfl⟩, by rw [globN_sw h]; exact List.mem_map_of_mem h2⟩
theorem singleR_sw (a b nm : Str) {T T' : List Str} (hT : ∀ v, (T'.any fun s => otherS a b v == s) = T.any fun s => v == s) : ∀ (l : List Arg) (seen : List Str), singleR (otherS a b nm) T' (l.map (swA a b)) (seen.map (otherS a b)) = singleR nm T l seen
  | [], seen => rfl
  | x :: r, seen => by
    rw [List.map_cons, singleR, singleR, show (swA a b x).ref = x.ref from rfl, show (swA a b x).name = otherS a b x.name from rfl, any_sw, other_beq, hT, singleR_sw a b nm hT r]
    have := singleR_sw a b nm hT r (seen ++ [x.name])
    rw [List.map_append] at this
    rw [show [otherS a b x.name] = [x.name].map (otherS a b) from rfl, this]
theorem find_congr' {α : Type} {p q : α → Bool} : ∀ {l : List α}, (∀ x ∈ l, p x = q x) → l.find? p = l.find? q
  | [], _ => rfl
  | x :: r, h => by
    rw [List.find?_cons, List.find?_cons, h x List.mem_cons_self, find_congr' fun y hy => h y (List.mem_cons_of_mem _ hy)]
theorem aliasB_sw {a b : Str} (h : Ren a b) (p : Pg) : aliasB (swPg a b p) = aliasB p := by
  unfold aliasB
  rw [arityB_sw h]
  by_cases ha : (arityB p).1 = 0
  · rw [if_neg (by omega), if_neg (by omega)]
    have hs := (arity_ok ha).1
    rw [stmts_sw, List.find?_map]
    have e : (stmts p).find? ((fun t : S => decide (t.kind = 4) && !singleR t.name (globL (swPg a b p) t.proc) t.args []) ∘ swS a b) = (stmts p).find? fun t => decide (t.kind = 4) && !singleR t.name (globL p t.proc) t.args [] := by
      refine find_congr' fun t ht => ?_
      show (decide ((swS a b t).kind = 4) && !singleR (swS a b t).name (globL (swPg a b p) (swS a b t).proc) (swS a b t).args []) = _
      rw [swS_kind, swS_name, swS_proc, swS_args]
      by_cases hk : t.kind = 4
      · obtain ⟨f, hf, htf⟩ := List.mem_flatMap.1 ht
        have := singleR_sw a b t.name (globL_sw h hs (scope_call hs hf htf hk).1) t.args []
        rw [← this]
        rfl
      · rw [decide_eq_false hk]
        rfl
    rw [e]
    cases (stmts p).find? fun t => decide (t.kind = 4) && !singleR t.name (globL p t.proc) t.args [] with
    | none => rfl
    | some t =>
      show ((8 : Int), (swS a b t).id) = _
      rw [swS_id]
  · rw [if_pos ha, if_pos ha]
theorem chkB_sw {a b : Str} (h : Ren a b) (p : Pg) : chkB (swPg a b p) = chkB p := by
  unfold chkB allB
  rw [mayB_sw h, scopeB_sw h, arityB_sw h, jumpB_sw h, aliasB_sw h]
theorem newL_sw (a b : Str) : ∀ (l : List Pr) (i : Nat) (acc : List Item) (lo hi : List Int), (newL i (acc.map (swI a b)) lo hi (l.map (swPr a b))).1 = (newL i acc lo hi l).1.map (swI a b)
  | [], i, acc, lo, hi => rfl
  | f :: r, i, acc, lo, hi => by
    have e : rowsF i 0 (-1) 0 (acc.map (swI a b)) (swPr a b f).body = (rowsF i 0 (-1) 0 acc f.body).map (swI a b) := by
      rw [rowsF_it, rowsF_it, show (swPr a b f).body = swL a b f.body from rfl, itL_sw, List.map_append, List.length_map]
    rw [List.map_cons, newL, newL, e, newL_sw a b r, List.length_map, List.length_map]
theorem sheet_sw (a b : Str) (p : Pg) : (sheetOf (swPg a b p)).l = (sheetOf p).l.map (swI a b) := newL_sw a b p.procs 0 [] [] []
theorem headI_sw (a b : Str) (l : List S) (o : Int) : headI (swL a b l) o = headI l o := by
  cases l with
  | nil => rw [swL]
  | cons t r => rw [swL]; exact swS_id a b t
theorem goesI_sw (a b : Str) (p : Pg) (f : Pr) (it : Item) : goesI (sheetOf (swPg a b p)) (swPr a b f) (swI a b it) = goesI (sheetOf p) f it := by
  unfold goesI
  have e : ((sheetOf (swPg a b p)).l[((swI a b it).loop - 1).toNat]?).map Item.next = ((sheetOf p).l[(it.loop - 1).toNat]?).map Item.next := by
    rw [sheet_sw, List.getElem?_map, Option.map_map]
    rfl
  rw [e]
  unfold swI
  simp only [swS_kind, swS_thn, swS_els, swS_id, swS_name, headI_sw, atB_sw]
theorem stepsRaw_sw (a b : Str) (p : Pg) (j : Nat) (f : Pr) : stepsRaw (swPg a b p) j (swPr a b f) = stepsRaw p j f := by
  unfold stepsRaw
  rw [show (swPg a b p).procs = p.procs.map (swPr a b) from rfl, offN_sw, show (swPr a b f).body = swL a b f.body from rfl, cntL_sw, itL_sw, List.flatMap_map]
  congr 2
  funext it
  rw [goesI_sw, show (swI a b it).s.id = it.s.id from swS_id a b it.s]
theorem loI_sw (a b : Str) (p : Pg) (j : Nat) : loI (swPg a b p) j = loI p j := by
  unfold loI
  rw [show (swPg a b p).procs = p.procs.map (swPr a b) from rfl, offN_sw]
theorem hiI_sw (a b : Str) (p : Pg) (j : Nat) (f : Pr) : hiI (swPg a b p) j (swPr a b f) = hiI p j f := by
  unfold hiI
  rw [show (swPg a b p).procs = p.procs.map (swPr a b) from rfl, offN_sw, show (swPr a b f).body = swL a b f.body from rfl, cntL_sw]
theorem ixP_sw (a b : Str) (p : Pg) (j : Nat) (f : Pr) (n : Int) : ixP (swPg a b p) j (swPr a b f) n = ixP p j f n := by
  funext s
  unfold ixP
  rw [loI_sw, hiI_sw]
def swW (a b : Str) (w : Way) : Way := ⟨swPg a b w.p, w.j, w.n, w.real, w.live⟩
theorem newWay_sw (a b : Str) (p : Pg) (j : Nat) (f : Pr) : newWay (swPg a b p) j (swPr a b f) = swW a b (newWay p j f) := by
  unfold newWay swW
  simp only
  rw [stepsRaw_sw, ixP_sw, show (swPr a b f).body = swL a b f.body from rfl, cntL_sw]
theorem wayO_sw {a b : Str} (h : Ren a b) (p : Pg) (n : Str) : wayO (swPg a b p) (otherS a b n) = (wayO p n).map (swW a b) := by
  unfold wayO
  rw [chkB_sw h, find_proc_sw]
  have e : (swPg a b p).procs.findIdx (fun f => f.name == otherS a b n) = p.procs.findIdx fun f => f.name == n := by
    show (p.procs.map (swPr a b)).findIdx _ = _
    rw [List.findIdx_map]
    congr 1
    funext f
    exact other_beq a b f.name n
  rw [e]
  cases chkB p with
  | false => rfl
  | true =>
    cases p.procs.find? fun f => f.name == n with
    | none => rfl
    | some f =>
      show some (newWay (swPg a b p) _ (swPr a b f)) = _
      rw [newWay_sw]
      rfl
theorem ofR_sw {a b : Str} (h : Ren a b) (p : Pg) (n : Str) : ofR (swPg a b p) (otherS a b n) = ofR p n := by
  unfold ofR
  rw [wayO_sw h]
  cases wayO p n <;> rfl
theorem liveR_sw {a b : Str} (h : Ren a b) (p : Pg) (n : Str) : liveR (swPg a b p) (otherS a b n) = liveR p n := by
  unfold liveR
  rw [wayO_sw h]
  cases wayO p n with
  | none => rfl
  | some w =>
    show liveL (swW a b w) = liveL w
    unfold liveL
    have e : placeI (swW a b w).p (swW a b w).j (swW a b w).n = placeI w.p w.j w.n := by
      funext i
      unfold placeI
      rw [show loI (swW a b w).p (swW a b w).j = loI w.p w.j from loI_sw a b w.p w.j]
      rfl
    rw [e]
    rfl
theorem behR_sw {a b : Str} (h : Ren a b) (p : Pg) (id : Int) : behR (swPg a b p) id = behR p id := by
  unfold behR
  rw [chkB_sw h, sheet_sw, List.length_map, List.getElem?_map, Option.map_map]
  rfl
theorem stAt_sw (a b : Str) (p : Pg) (id : Int) : stAt (swPg a b p) id = (stAt p id).map (swS a b) := by
  unfold stAt
  rw [sheet_sw, List.getElem?_map, Option.map_map, Option.map_map]
  rfl
theorem keepE_sw (a b : Str) (p : Pg) (E : List Str) (t : Step) : keepE (swPg a b p) (E.map (otherS a b)) t = keepE p E t := by
  unfold keepE
  rw [stAt_sw]
  cases stAt p t.src with
  | none => rfl
  | some s =>
    show (decide (t.src = 0) || !(decide ((swS a b s).kind = 4) && !((E.map (otherS a b)).any fun x => (swS a b s).proc == x))) = _
    rw [swS_kind, swS_proc, any_sw]
theorem endsW_sw (a b : Str) (w : Way) (f : Pr) (E : List Str) : endsW (swW a b w) (swPr a b f) (E.map (otherS a b)) = endsW w f E := by
  unfold endsW
  rw [show (swPr a b f).body = swL a b f.body from rfl, cntL_sw, show (swW a b w).p = swPg a b w.p from rfl, show (swW a b w).j = w.j from rfl, show (swW a b w).n = w.n from rfl, show (swW a b w).real = w.real from rfl, ixP_sw, show keepE (swPg a b w.p) (E.map (otherS a b)) = keepE w.p E from funext (keepE_sw a b w.p E)]
theorem endS_sw (a b : Str) (p : Pg) (out : List Str) (m : Bool) (k : Nat) : endS (swPg a b p) (out.map (otherS a b), m) k = ((endS p (out, m) k).1.map (otherS a b), (endS p (out, m) k).2) := by
  unfold endS
  rw [show (swPg a b p).procs = p.procs.map (swPr a b) from rfl, List.getElem?_map]
  cases p.procs[k]? with
  | none => rfl
  | some f =>
    simp only [Option.map_some]
    rw [show (swPr a b f).name = otherS a b f.name from rfl, any_sw, newWay_sw, endsW_sw]
    cases !(out.any fun s => f.name == s) && endsW (newWay p k f) f out with
    | true => simp
    | false => rfl
theorem foldE_sw (a b : Str) (p : Pg) : ∀ (l : List Nat) (out : List Str) (m : Bool), l.foldl (endS (swPg a b p)) (out.map (otherS a b), m) = ((l.foldl (endS p) (out, m)).1.map (otherS a b), (l.foldl (endS p) (out, m)).2)
  | [], out, m => rfl
  | k :: r, out, m => by
    rw [List.foldl_cons, List.foldl_cons, endS_sw]
    exact foldE_sw a b p r (endS p (out, m) k).1 (endS p (out, m) k).2
theorem roundE_sw (a b : Str) (p : Pg) (out : List Str) : roundE (swPg a b p) (out.map (otherS a b)) = ((roundE p out).1.map (otherS a b), (roundE p out).2) := by
  unfold roundE
  rw [show (swPg a b p).procs.length = p.procs.length from List.length_map _]
  exact foldE_sw a b p _ out false
theorem endsF_sw (a b : Str) (p : Pg) : ∀ (k : Nat) (out : List Str), endsF (swPg a b p) k (out.map (otherS a b)) = (endsF p k out).map (otherS a b)
  | 0, out => rfl
  | k + 1, out => by
    rw [endsF, endsF, roundE_sw]
    cases (roundE p out).2 with
    | true => exact endsF_sw a b p k (roundE p out).1
    | false => rfl
theorem endsR_sw {a b : Str} (h : Ren a b) (p : Pg) : (endsR (swPg a b p)).length = (endsR p).length := by
  unfold endsR
  rw [chkB_sw h, show (swPg a b p).procs.length = p.procs.length from List.length_map _]
  cases chkB p with
  | false => rfl
  | true =>
    simp only [cond_true]
    rw [sortS_len, sortS_len, show endsF (swPg a b p) (p.procs.length + 1) [] = _ from endsF_sw a b p (p.procs.length + 1) [], List.length_map]
theorem procAt_sw {a b : Str} (h : Ren a b) (p : Pg) (n : Int) : procAtR (swPg a b p) n = otherS a b (procAtR p n) := by
  unfold procAtR
  rw [show (swPg a b p).procs = p.procs.map (swPr a b) from rfl, List.length_map, List.getElem?_map]
  cases p.procs[(modI n p.procs.length).toNat]? with
  | none => exact h.nil.symm
  | some f => rfl

-- How much a program with other names is.
theorem wTxs_sw (a b : Str) : ∀ l : List Str, wTxs (l.map (otherS a b)) = wTxs l
  | [] => rfl
  | s :: r => by rw [List.map_cons, wTxs, wTxs, wTxs_sw a b r]
mutual
theorem wX_sw (a b : Str) : ∀ x : X, wX (swX a b x) = wX x
  | .mk _ _ name kids => by rw [swX, wX, wX, wXs_sw a b kids]
theorem wXs_sw (a b : Str) : ∀ l : List X, wXs (swXs a b l) = wXs l
  | [] => by rw [swXs]
  | x :: r => by rw [swXs, wXs, wXs, wX_sw a b x, wXs_sw a b r]
end
theorem wArgs_sw (a b : Str) : ∀ l : List Arg, wArgs (l.map (swA a b)) = wArgs l
  | [] => rfl
  | x :: r => by rw [List.map_cons, wArgs, wArgs, wArgs_sw a b r, show (swA a b x).x = swX a b x.x from rfl, wX_sw]
mutual
theorem wS_sw (a b : Str) : ∀ s : S, wS (swS a b s) = wS s
  | .mk id kind labels name proc x has args thn els => by rw [swS, wS, wS, wX_sw, wTxs_sw, wArgs_sw, wL_sw a b thn, wL_sw a b els]
theorem wL_sw (a b : Str) : ∀ l : List S, wL (swL a b l) = wL l
  | [] => by rw [swL]
  | t :: r => by rw [swL, wL, wL, wS_sw a b t, wL_sw a b r]
end
theorem wPms_sw (a b : Str) : ∀ l : List Param, wPms (l.map (swPm a b)) = wPms l
  | [] => rfl
  | x :: r => by rw [List.map_cons, wPms, wPms, wPms_sw a b r]
theorem wPrs_sw (a b : Str) : ∀ l : List Pr, wPrs (l.map (swPr a b)) = wPrs l
  | [] => rfl
  | f :: r => by
    rw [List.map_cons, wPrs, wPrs, wPrs_sw a b r]
    unfold wPr swPr
    simp only
    rw [wTxs_sw, wTxs_sw, wPms_sw, wL_sw]
theorem fit_sw {a b : Str} {p : Pg} (h : Fit p) : Fit (swPg a b p) := by
  unfold Fit wPg swPg at *
  simp only
  rw [wTxs_sw, wPrs_sw]
  exact h
end Go.Ab
namespace Go.Ab
open Go.Proofs
theorem ValO.stepsNe {hr : Bool} {s : St} {o : Oper} {K : LV → Prop} {x y : Operand} {u : TypeId} (hop : o.op = .binOp .neq 49 x y u) {a b : Step} (hx : evalO s.sl x = .p (.agg a.cells)) (hy : evalO s.sl y = .p (.agg b.cells))
    (hK : K (.p (.bool (!decide (a = b))))) : ValO Tryz.prog hr s o K := by
  refine ⟨fun σ β ac w hs _ => ⟨_, .bool (!decide (a = b)), hK, .p (.bool _), fun w' _ _ => ?_⟩⟩
  have h1 : ac.eval x = .agg #[.int .i64 a.src, .int .i64 a.dst, .int .i64 a.kind] := by
    have := evalO_rep hs x
    rw [hx] at this
    cases this with
    | p h => exact step_rep h
  have h2 : ac.eval y = .agg #[.int .i64 b.src, .int .i64 b.dst, .int .i64 b.kind] := by
    have := evalO_rep hs y
    rw [hy] at this
    cases this with
    | p h => exact step_rep h
  have hu : Tryz.prog.underlying 49 = some (.struct (Tryz.prog.fieldsOf 49)) := by kernel_rfl
  have hi : Tryz.prog.underlying 3 = some (.int .i64) := by kernel_rfl
  have hf : (Tryz.prog.fieldsOf 49).toList = (match ty49.desc with | .struct fs => fs.toList | _ => []) := by kernel_rfl
  have he : (Op.equalIn 10000 49 (.agg #[.int .i64 a.src, .int .i64 a.dst, .int .i64 a.kind]) (.agg #[.int .i64 b.src, .int .i64 b.dst, .int .i64 b.kind])).run Tryz.prog w' = .ok (decide (a = b)) w' := by
    rw [run_equalIn_struct w' 9999 _ _ _ hu (by kernel_rfl), hf]
    simp only [ty49, Op.eqFields]
    have p0 : ∀ x y z : Int, (part 3 #[.int .i64 x, .int .i64 y, .int .i64 z] 0).run Tryz.prog w' = .ok (.int .i64 x) w' := fun x y z => run_part_plain w' (by kernel_rfl) rfl
    have p1 : ∀ x y z : Int, (part 3 #[.int .i64 x, .int .i64 y, .int .i64 z] 1).run Tryz.prog w' = .ok (.int .i64 y) w' := fun x y z => run_part_plain w' (by kernel_rfl) rfl
    have p2 : ∀ x y z : Int, (part 3 #[.int .i64 x, .int .i64 y, .int .i64 z] 2).run Tryz.prog w' = .ok (.int .i64 z) w' := fun x y z => run_part_plain w' (by kernel_rfl) rfl
    have ei : ∀ x y : Int, (Op.equalIn 9999 3 (.int .i64 x) (.int .i64 y)).run Tryz.prog w' = .ok (x == y) w' := fun a b => run_equalIn_int (P := Tryz.prog) w' 9998 3 .i64 .i64 a b hi
    have e : decide (a = b) = ((a.src == b.src) && ((a.dst == b.dst) && (a.kind == b.kind))) := by
      cases a; cases b
      simp only [Step.mk.injEq, Bool.decide_and]
      rfl
    simp only [ne_eq, show ¬ ("From" = "_") by decide, show ¬ ("To" = "_") by decide, show ¬ ("Kind" = "_") by decide, not_false_eq_true, if_true, Sem.run_bind, p0, p1, p2, Result.andThen_ok, ei, Sem.run_ite, Sem.run_pure, e]
    cases (a.src == b.src) <;> cases (a.dst == b.dst) <;> cases (a.kind == b.kind) <;> simp
  simp only [execOp, hop, h1, h2, Sem.run_bind, run_eqGuard_agg _ _ _ _ _ _ _ (show Tryz.prog.eqGuardType Tryz.prog.depth 49 = false by kernel_rfl), Result.andThen_ok, run_neq_struct, he, Sem.run_pure]
theorem take_same {α : Type} {l m : List α} {j : Nat} (h : l.take j = m.take j) (hl : j < l.length) (hm : j < m.length) (he : l[j] = m[j]) : l.take (j + 1) = m.take (j + 1) := by
  rw [List.take_succ_eq_append_getElem hl, List.take_succ_eq_append_getElem hm, h, he]
theorem all_same {α : Type} {l m : List α} {j : Nat} (h : l.take j = m.take j) (hl : l.length ≤ j) (hm : m.length ≤ j) : l = m := by
  rwa [List.take_of_length_le hl, List.take_of_length_le hm] at h
set_option maxRecDepth 100000 in
theorem whittlerref14_EqSteps (l m : List Step) : SpecP Tryz.prog 22 [eSteps l, eSteps m] (fun r => r = .bool (decide (l = m))) := by
  refine SpecP.body I_whittlerref14_EqSteps tabOK Tryz.func22 rfl Tryz.call22 (by show 2 ≤ _; decide) ?_
  conv => whnf
  have h1 : (l.map fun s => AV.agg s.cells).length = l.length := List.length_map _
  have h2 : (m.map fun s => AV.agg s.cells).length = m.length := List.length_map _
  repeat' (first | (intro (_ : _ ≤ 9223372036854775807); conv => whnf) | (refine Br.dec2 (fun _ => ?_) (fun _ => ?_) <;> first | (exfalso; omega) | conv => whnf))
  all_goals first
    | exact RetK.ff (decide_eq_false fun h => by subst h; omega)
    | skip
  have hlen : l.length = m.length := by omega
  refine LoopK.inv tabOK (fun j : Nat => ⟨[(0, .p (eSteps l)), (1, .p (eSteps m)), (12, .p (.int .i64 (l.map fun s => AV.agg s.cells).length)), (13, .p (.int .i64 j))], []⟩) (fun j => j ≤ l.length ∧ l.take j = m.take j) (fun j => l.length - j) 0 (Le.of_eq rfl) ⟨Nat.zero_le _, rfl⟩ ?_
  rintro j ⟨h3, h4⟩
  rcases Nat.lt_or_ge j l.length with hj | hj
  · conv => whnf
    repeat' (first | ((first | (refine DrawK.auto tabOK mixed (by kernel_rfl) ?_) | (refine IdxK.map (by omega) (fun _ => rfl) ?_) | (refine Wr.i64 (by omega) (by omega) ?_) | (refine ValO.stepsNe rfl rfl rfl ?_)); conv => whnf) | (refine Br.dec (fun _ => ?_) (fun _ => ?_) <;> first | (exfalso; omega) | conv => whnf) | (refine Br.dec2 (fun _ => ?_) (fun _ => ?_) <;> first | (exfalso; omega) | conv => whnf))
    all_goals first
      | exact RetK.ff (decide_eq_false fun h => by subst h; simp_all)
      | exact ⟨j + 1, ⟨by omega, take_same h4 hj (by omega) (by simp_all)⟩, by omega, Le.of_eq rfl⟩
  · conv => whnf
    repeat' (refine Br.dec (fun _ => ?_) (fun _ => ?_) <;> first | (exfalso; omega) | conv => whnf)
    exact RetK.tt (decide_eq_true (all_same h4 hj (by omega)))
set_option maxRecDepth 100000 in
theorem whittlerref12_EqInts (l m : List Int) : SpecP Tryz.prog 24 [eInts l, eInts m] (fun r => r = .bool (decide (l = m))) := by
  refine SpecP.body I_whittlerref12_EqInts tabOK Tryz.func24 rfl Tryz.call24 (by show 2 ≤ _; decide) ?_
  conv => whnf
  have h1 : (l.map (AV.int .i64)).length = l.length := List.length_map _
  have h2 : (m.map (AV.int .i64)).length = m.length := List.length_map _
  repeat' (first | (intro (_ : _ ≤ 9223372036854775807); conv => whnf) | (refine Br.dec2 (fun _ => ?_) (fun _ => ?_) <;> first | (exfalso; omega) | conv => whnf))
  all_goals first
    | exact RetK.ff (decide_eq_false fun h => by subst h; omega)
    | skip
  have hlen : l.length = m.length := by omega
  refine LoopK.inv tabOK (fun j : Nat => ⟨[(0, .p (eInts l)), (1, .p (eInts m)), (12, .p (.int .i64 (l.map (AV.int .i64)).length)), (13, .p (.int .i64 j))], []⟩) (fun j => j ≤ l.length ∧ l.take j = m.take j) (fun j => l.length - j) 0 (Le.of_eq rfl) ⟨Nat.zero_le _, rfl⟩ ?_
  rintro j ⟨h3, h4⟩
  rcases Nat.lt_or_ge j l.length with hj | hj
  · conv => whnf
    repeat' (first | ((first | (refine DrawK.auto tabOK mixed (by kernel_rfl) ?_) | (refine IdxK.map (by omega) (fun _ => rfl) ?_) | (refine Wr.i64 (by omega) (by omega) ?_)); conv => whnf) | (refine Br.dec (fun _ => ?_) (fun _ => ?_) <;> first | (exfalso; omega) | conv => whnf) | (refine Br.dec2 (fun _ => ?_) (fun _ => ?_) <;> first | (exfalso; omega) | conv => whnf))
    all_goals first
      | exact RetK.ff (decide_eq_false fun h => by subst h; simp_all)
      | exact ⟨j + 1, ⟨by omega, take_same h4 hj (by omega) (by simp_all)⟩, by omega, Le.of_eq rfl⟩
  · conv => whnf
    repeat' (refine Br.dec (fun _ => ?_) (fun _ => ?_) <;> first | (exfalso; omega) | conv => whnf)
    exact RetK.tt (decide_eq_true (all_same h4 hj (by omega)))
end Go.Ab
namespace Go.Ab
open Go.Proofs
/-- Slots: what is killed; one of them an aggregate, all of it pure. -/
def aggSK (k t : Nat) (cs : List AV) : List (Nat × LV) → (List (Nat × LV) → Prop) → Prop
  | [], K => K []
  | (j, l) :: r, K => bif Nat.beq j t then aggSK k t cs r fun r => K ((j, .p (.agg cs)) :: r) else forceLV (l.kill k) fun l => aggSK k t cs r fun r => K ((j, l) :: r)
theorem aggSK_spec {k t : Nat} {cs : List AV} : ∀ {sl : List (Nat × LV)} {K : List (Nat × LV) → Prop}, aggSK k t cs sl K → ∃ sl', K sl' ∧ ∀ i, getS sl' i = (getS sl i).kill k ∨ (i = t ∧ getS sl' i = .p (.agg cs))
  | [], _, h => ⟨[], h, fun _ => .inl rfl⟩
  | (j, l) :: r, K, h => by
    unfold aggSK at h
    cases hb : Nat.beq j t with
    | true =>
      rw [hb, cond_true] at h
      have hj : j = t := Nat.eq_of_beq_eq_true hb
      obtain ⟨sl', hK, hs⟩ := aggSK_spec h
      refine ⟨_, hK, fun i => ?_⟩
      simp only [getS]
      cases hi : j == i with
      | true => exact .inr ⟨by rw [← hj]; exact (by simpa using hi : j = i).symm, rfl⟩
      | false => exact hs i
    | false =>
      rw [hb, cond_false, forceLV_eq] at h
      obtain ⟨sl', hK, hs⟩ := aggSK_spec h
      refine ⟨_, hK, fun i => ?_⟩
      simp only [getS]
      cases hi : j == i with
      | true => exact .inl rfl
      | false => exact hs i
/-- A row laid by within an aggregate. -/
theorem Le.rowAgg {N : Nat} {s : St} {k : Nat} {e : TypeId} {sz : Nat} {es : List AV} {t : Nat} {ls : List LV} {cs : List AV} (hg : getH s.H k = some (.own e sz es)) (ht : getS s.sl t = .agg ls) (hln : ls.length = cs.length)
    (hcs : ∀ (j : Nat) (l : LV) (c : AV), ls[j]? = some l → cs[j]? = some c → (∃ a, l = .p a ∧ Sub a c) ∨ (∃ n, l = .hd k 0 n ∧ n = es.length ∧ c = .sl es)) {K : St → Prop} (h : aggSK k t cs s.sl fun sl => rowHK k s.H fun H => K ⟨sl, H⟩) : ∃ s', K s' ∧ Le N s s' := by
  obtain ⟨sl, h, hsl⟩ := aggSK_spec h
  obtain ⟨H, h, hsub, hH⟩ := rowHK_spec h
  have agg : ∀ {σ τ : Mem} {β : Lab} {v : Value}, σ.le τ → RepL σ β (.agg ls) v → (∀ v, RepL σ β (.hd k 0 es.length) v → Rep τ (.sl es) v) → Rep τ (.agg cs) v := fun {σ τ β v} hle hv hrow => by
    cases hv with
    | agg _ vs u hn hc hrr =>
      refine Rep.agg cs vs u (by rw [hn, hln]) (fun j c hj => ?_) fun j c hj => ?_
      · have hlt : j < ls.length := by rw [hln]; exact (List.getElem?_eq_some_iff.1 hj).1
        exact hc j _ (List.getElem?_eq_getElem hlt)
      · have hlt : j < ls.length := by rw [hln]; exact (List.getElem?_eq_some_iff.1 hj).1
        have h1 := hrr j _ (List.getElem?_eq_getElem hlt)
        rcases hcs j _ c (List.getElem?_eq_getElem hlt) hj with ⟨a, h2, h3⟩ | ⟨n, h2, rfl, rfl⟩
        · rw [h2] at h1
          cases h1 with
          | p hp => exact h3 _ _ (hp.mono hle)
        · rw [h2] at h1
          exact hrow _ h1
  refine ⟨_, h, fun σ β a w hr => ?_⟩
  rcases own_holds.1 (hr.heap.chunks k _ (getH_mem hg)) with ⟨hb0, rfl⟩ | ⟨i, vs, hi, hisz, hh, hn, hle', hmax, hE⟩
  · refine ⟨σ, β, ⟨hr.size, hr.defers, fun j => ?_, ⟨hr.heap.mem, fun j c' hj => ?_, hsub.nodup hr.heap.nodup, fun j hj => hr.heap.apart j (hsub.subset hj), fun j hj j' hj' => hr.heap.inj j (hsub.subset hj) j' (hsub.subset hj')⟩⟩, Mem.le_refl σ, Frm.refl _ _, fun _ h0 h1 => absurd h0 h1, fun b ⟨j, hj, r⟩ => .inl ⟨j, hsub.subset hj, r⟩, fun _ _ _ => rfl⟩
    · show RepL σ β (getS sl j) _
      have hv := hr.slots j
      rcases hsl j with he | ⟨rfl, h2⟩
      · rw [he]; exact hv.kill k
      · rw [h2]
        rw [ht] at hv
        refine .p (agg (Mem.le_refl σ) hv fun v hv => ?_)
        rcases hv.hdI with ⟨_, _, _, he⟩ | ⟨i, _, hk, _⟩
        · rw [he]; exact .nilsl
        · rw [hb0] at hk; cases hk
    · obtain ⟨_, c, h2, rfl⟩ := hH j c' hj
      exact (hr.heap.chunks j c h2).kill k
  · refine hr.lay hi (getH_label hg) hh (fun τ hle hτ j v hv => ?_) (fun τ hle hτ j c' hj => ?_) (hsub.nodup hr.heap.nodup)
    · show RepL τ β (getS sl j) v
      rcases hsl j with he | ⟨rfl, h2⟩
      · rw [he]; exact (hv.kill k).mono hle
      · rw [h2]
        rw [ht] at hv
        refine .p (agg hle hv fun v hv => ?_)
        rcases hv.hdI with ⟨hk, _⟩ | ⟨i', oo, hk, hl, ho, rfl⟩
        · rw [hi] at hk; cases hk
        · rw [hi] at hk; cases hk
          have hoo : oo = 0 := by
            rcases ho with ho | ho
            · simpa using ho
            · omega
          subst hoo
          obtain ⟨u, hu⟩ : ∃ u : Nat → Nat → Value, ∀ (m : Nat) (x : AV) (j : Nat) (c : AV), es[m]? = some x → x.cells[j]? = some c → vs[m * sz + j]? = some (u m j) ∧ Rep σ c (u m j) := by
            refine ⟨fun m j => (vs[m * sz + j]?).getD undef, fun m x j c hx hj => ?_⟩
            obtain ⟨v, h1, h2⟩ := hE.rep m x j c hx hj
            rw [List.getElem?_take] at h1
            split at h1
            · have h1' : vs[m * sz + j]? = some v := by simpa using h1
              exact ⟨by simp [h1'], by simpa [h1'] using h2⟩
            · cases h1
          exact .sl es i.blk 0 _ sz vs u hτ (by omega) (by omega) hE.size (fun m x j c hx hj => by simpa using (hu m x j c hx hj).1) fun m x j c hx hj => (hu m x j c hx hj).2.mono hle
    · obtain ⟨h1, c, h2, rfl⟩ := hH j c' hj
      exact ⟨h1, c, h2, fun hold => (hold.kill k).mono hle fun _ _ _ _ => rfl⟩
theorem OpK.layAgg {P : Program} {T : Tab} {N : Nat} {o : Oper} {K : St → Prop} {s : St} (hT : TabOK P T) {k : Nat} {e : TypeId} {sz : Nat} {es : List AV} (t : Nat) {ls : List LV} (cs : List AV) (hg : getH s.H k = some (.own e sz es)) (ht : getS s.sl t = .agg ls) (hln : ls.length = cs.length)
    (hcs : ∀ (j : Nat) (l : LV) (c : AV), ls[j]? = some l → cs[j]? = some c → (∃ a, l = .p a ∧ Sub a c) ∨ (∃ n, l = .hd k 0 n ∧ n = es.length ∧ c = .sl es)) (h : aggSK k t cs s.sl fun sl => rowHK k s.H fun H => opW P T N ⟨sl, H⟩ o K) : OpK P N s o K := ⟨fun σ β a w hr Q => by
  obtain ⟨s1, h1, hle⟩ := Le.rowAgg (N := N) hg ht hln hcs (K := fun s' => opW P T N s' o K) h
  obtain ⟨σ1, β1, hr1, hl1⟩ := hle σ β a w hr
  exact Oper.wp_mono (fun a' w' ⟨σ', β', s2, hK, hr', hl⟩ => ⟨σ', β', s2, hK, hr', hl1.trans hl⟩) (opW_sound hT h1 hr1 Q)⟩
end Go.Ab
namespace Go.Ab
open Go.Proofs
end Go.Ab
namespace Go.Ab
open Go.Proofs
end Go.Ab
namespace Go.Ab
open Go.Proofs
theorem cntL_len : ∀ l : List S, l.length ≤ cntL l
  | [] => by simp
  | t :: r => by
    rw [cntL, List.length_cons]
    have := cntL_len r
    have : 1 ≤ cntS t := by cases t; rw [cntS]; omega
    omega
/-- What is asked of statements that are copied. -/
def okC (t : S) : Prop := wX t.x ≤ 20000 ∧ t.labels.length ≤ 1000000 ∧ t.args.length ≤ 1000000 ∧ ∀ a ∈ t.args, wX a.x ≤ 20000
theorem cntL_mem : ∀ {l : List S} {t : S}, t ∈ l → cntS t ≤ cntL l
  | a :: r, t, h => by
    rw [cntL]
    rcases List.mem_cons.1 h with rfl | h
    · omega
    · have := cntL_mem h
      omega
end Go.Ab
namespace Go.Ab
open Go.Proofs
theorem okC_sub {l : List S} {j : Nat} (hj : j < l.length) {P : S → Prop} (hok : ∀ t ∈ flL l, P t) : P l[j] ∧ (∀ t ∈ flL l[j].thn, P t) ∧ ∀ t ∈ flL l[j].els, P t := by
  have key : ∀ (m : List S) (i : Nat) (h : i < m.length) (t : S), t ∈ flS m[i] → t ∈ flL m := fun m => by
    induction m with
    | nil => intro i h; simp at h
    | cons a r ih =>
      intro i h t ht
      rw [flL]
      cases i with
      | zero => exact List.mem_append.2 (.inl ht)
      | succ i => exact List.mem_append.2 (.inr (ih i (by simpa using h) t ht))
  have hs : ∀ t, t ∈ flS l[j] → P t := fun t ht => hok t (key l j hj t ht)
  refine ⟨hs _ (by rw [flS_eq]; exact List.mem_cons_self), fun t ht => hs t ?_, fun t ht => hs t ?_⟩
  · rw [flS_eq]
    exact List.mem_cons_of_mem _ (List.mem_append.2 (.inl ht))
  · rw [flS_eq]
    exact List.mem_cons_of_mem _ (List.mem_append.2 (.inr ht))
def swS' (a b : Str) (s : S) : S := .mk s.id s.kind (s.labels.map (otherS a b)) (otherS a b s.name) (otherS a b s.proc) (swX a b s.x) s.has (s.args.map (swA a b)) (swL a b s.thn) (swL a b s.els)
set_option maxHeartbeats 8000000 in
set_option maxRecDepth 100000 in
theorem whittlerref3_SwapStmts (a b : Str) : ∀ (k : Nat) (l : List S) (_ : cntL l < k) (_ : cntL l ≤ 1000000) (_ : ∀ t ∈ flL l, okC t), SpecP Tryz.prog 66 [eSs l, .str a, .str b] (fun r => r = eSs (swL a b l)) := by
  intro k
  induction k with
  | zero => intro l h; omega
  | succ k ih =>
    intro l hk hn hok
    have hsl : (S.avs l).length = l.length := by rw [S.avs_eq, List.length_map]
    have hcl := cntL_len l
    refine SpecP.body I_whittlerref3_SwapStmts tabOK Tryz.func66 rfl Tryz.call66 (by show 3 ≤ _; decide) ?_
    conv => whnf
    repeat' (intro (_ : _ ≤ 9223372036854775807); conv => whnf)
    refine LoopK.inv tabOK (fun j : Nat => ⟨[(1, .p (.str a)), (2, .p (.str b)), (7, .hd 0 0 j), (13, .p (eSs l)), (14, .p (.int .i64 (S.avs l).length)), (15, .p (.int .i64 j))], [(0, .own 60 13 (S.avs ((swL a b l).take j)))]⟩) (fun j => j ≤ l.length) (fun j => l.length - j) 0
      (Le.mk [(0, .own 60 13 [])] (by simp [Chunk.new0]; rfl) (by simp) (by simp) (.cons (.refl _) (.cons (.refl _) (.cons (.nil List.mem_cons_self) (.cons (.refl _) (.cons (.refl _) (.cons (.refl _) .nil)))))) (.new List.mem_cons_self .nil)) (Nat.zero_le _) ?_
    intro j h2
    rcases Nat.lt_or_ge j l.length with hj | hj
    · have htm := cntL_mem (List.getElem_mem hj)
      have hcs := cntS_eq l[j]
      obtain ⟨hself, hsub1, hsub2⟩ := okC_sub hj hok
      have h5 := whittlerref3_SwapTexts l[j].labels a b hself.2.1
      have hC := whittlerref3_SwapExpr a b 20001 l[j].x (by have := hself.1; omega) (by omega)
      have h6 := ih l[j].thn (by omega) (by omega) hsub1
      have h7 := ih l[j].els (by omega) (by omega) hsub2
      have hargl : (l[j].args.map fun x => AV.agg x.cells).length = l[j].args.length := List.length_map _
      have hacl : j = (S.avs ((swL a b l).take j)).length := by rw [S.avs_eq, List.length_map, List.length_take, swL_len]; omega
      have hav : S.avs ((swL a b l).take (j + 1)) = S.avs ((swL a b l).take j) ++ [.agg (swS' a b l[j]).cells] := by
        rw [S.avs_eq, S.avs_eq, swL_map, List.take_add_one, List.getElem?_map, List.getElem?_eq_getElem hj, List.map_append]
        show _ ++ [AV.agg (swS a b l[j]).cells] = _
        rw [show swS a b l[j] = swS' a b l[j] from swS_eq a b l[j]]
      generalize S.avs ((swL a b l).take j) = acc at hacl hav ⊢
      have hal := hself.2.2.1
      have hax := hself.2.2.2
      conv => whnf
      repeat' (first | ((first | (intro (_ : _ ≤ 9223372036854775807)) | (refine CallK.pure (whittlerref3_other _ _ _) (by repeat' (first | exact ArgP.nil | refine ArgP.cons ?_ ?_ | exact Sub.refl _ | exact Sub.tt rfl | exact Sub.ff rfl)) ?_; rintro _ rfl) | (refine DrawK.auto tabOK mixed (by kernel_rfl) ?_) | (refine And.intro rfl ?_) | (refine IdxK.ss (by omega) ?_) | (refine CallK.pure h5 (.cons (Sub.refl _) (.cons (Sub.refl _) (.cons (Sub.refl _) .nil))) ?_; rintro _ rfl) | (refine CallK.pure hC (.cons (Sub.refl _) (.cons (Sub.refl _) (.cons (Sub.refl _) .nil))) ?_; rintro _ rfl)); conv => whnf) | (refine Br.dec (fun _ => ?_) (fun _ => ?_) <;> first | (exfalso; omega) | conv => whnf) | (refine And.intro ?_ ?_ <;> conv => whnf))
      all_goals
        refine LoopK.inv tabOK (fun i : Nat => ⟨[(1, .p (.str a)), (2, .p (.str b)), (7, .hd 0 0 j), (9, .p (.ip l[j].cells)), (10, .ptr 1 0), (13, .p (eSs l)), (14, .p (.int .i64 (S.avs l).length)), (15, .p (.int .i64 j)), (47, .p (eArgs l[j].args)), (48, .p (.int .i64 (l[j].args.map fun x => AV.agg x.cells).length)), (49, .p (.int .i64 i))], [(1, .obj 60 [.p (.int .i64 l[j].id), .p (.int .i64 l[j].kind), .p (eStrs (l[j].labels.map (otherS a b))), .p (.str (otherS a b l[j].name)), .p (.str (otherS a b l[j].proc)), .p (.int .i64 (swX a b l[j].x).op), .p (.int .i64 (swX a b l[j].x).n), .p (.str (swX a b l[j].x).name), .p (.sl (X.avs (swX a b l[j].x).kids)), .p (.bool l[j].has), .hd 2 0 i, .p .nils, .p .nils]), (0, .own 60 13 acc), (2, .own 137 6 ((l[j].args.take i).map fun x => .agg (swA a b x).cells))]⟩) (fun i => i ≤ l[j].args.length) (fun i => l[j].args.length - i) 0
          (Le.mk [(2, .own 137 6 [])] (by simp [Chunk.new0]; rfl) (by simp) (by simp) (.cons (.refl _) (.cons (.refl _) (.cons (.refl _) (.cons (.refl _) (.cons (.refl _) (.cons (.refl _) (.cons (.refl _) (.cons (.refl _) (.cons (.refl _) (.cons (.refl _) (.cons (.refl _) (.nil)))))))))))) (.cons rfl (.obj (.cons (.refl _) (.cons (.refl _) (.cons (.refl _) (.cons (.refl _) (.cons (.refl _) (.cons (.refl _) (.cons (.refl _) (.cons (.refl _) (.cons (.refl _) (.cons (.refl _) (.cons (.nil List.mem_cons_self) (.cons (.refl _) (.cons (.refl _) .nil)))))))))))))) (.cons rfl (.refl _) (.new List.mem_cons_self .nil)))) (Nat.zero_le _) ?_
        intro i h3
        rcases Nat.lt_or_ge i l[j].args.length with hi | hi
        · have hax1 := hax _ (List.getElem_mem hi)
          have hD := whittlerref3_SwapExpr a b 20001 l[j].args[i].x (by omega) (by omega)
          have htk : ((l[j].args.take (i + 1)).map fun x => AV.agg (swA a b x).cells) = ((l[j].args.take i).map fun x => AV.agg (swA a b x).cells) ++ [.agg (swA a b l[j].args[i]).cells] := by
            rw [List.take_succ_eq_append_getElem hi, List.map_append]
            rfl
          have hcl : ((l[j].args.take i).map fun x => AV.agg (swA a b x).cells).length = i := by rw [List.length_map, List.length_take]; omega
          generalize ((l[j].args.take i).map fun x => AV.agg (swA a b x).cells) = accA at htk hcl ⊢
          conv => whnf
          repeat' (first | ((first | (refine CallK.pure (whittlerref3_other _ _ _) (by repeat' (first | exact ArgP.nil | refine ArgP.cons ?_ ?_ | exact Sub.refl _ | exact Sub.tt rfl | exact Sub.ff rfl)) ?_; rintro _ rfl) | (refine DrawK.auto tabOK mixed (by kernel_rfl) ?_) | (refine And.intro rfl ?_) | (refine And.intro ⟨by decide, by decide⟩ ?_) | (refine BsK.pure (fun x hx => by rcases List.mem_singleton.1 hx with rfl; rfl) rfl ?_) | (refine IdxK.map (by omega) (fun _ => rfl) ?_) | (refine Wr.i64 (by omega) (by omega) ?_) | (refine CallK.pure hD (.cons (Sub.refl _) (.cons (Sub.refl _) (.cons (Sub.refl _) .nil))) ?_; rintro _ rfl) | (refine AppK.mk hcl.symm rfl (by show (i+1) * 80 ≤ 140737488355328; omega) (by show i+1 ≤ 9223372036854775807; omega) (fun x hx => by rcases List.mem_singleton.1 hx with rfl; exact ⟨rfl, rfl⟩) ?_)); conv => whnf) | (refine Br.dec (fun _ => ?_) (fun _ => ?_) <;> first | (exfalso; omega) | conv => whnf) | (refine And.intro ?_ ?_ <;> conv => whnf))
          all_goals exact ⟨i + 1, hi, by omega, Le.of_eq (by rw [htk]; rfl)⟩
        · have hA : ((l[j].args.take i).map fun x => AV.agg (swA a b x).cells) = ((swS' a b l[j]).args.map fun x => .agg x.cells) := by
            rw [List.take_of_length_le hi]
            show _ = (l[j].args.map (swA a b)).map _
            rw [List.map_map]
            rfl
          have hcl : i = ((l[j].args.take i).map fun x => AV.agg (swA a b x).cells).length := by rw [List.length_map, List.length_take]; omega
          generalize ((l[j].args.take i).map fun x => AV.agg (swA a b x).cells) = accA at hA hcl ⊢
          conv => whnf
          repeat' (first | ((first | (refine DrawK.auto tabOK mixed (by kernel_rfl) ?_) | (refine And.intro rfl ?_) | (refine CallK.pure h6 (.cons (Sub.refl _) (.cons (Sub.refl _) (.cons (Sub.refl _) .nil))) ?_; rintro _ rfl) | (refine CallK.pure h7 (.cons (Sub.refl _) (.cons (Sub.refl _) (.cons (Sub.refl _) .nil))) ?_; rintro _ rfl)); conv => whnf) | (refine Br.dec (fun _ => ?_) (fun _ => ?_) <;> first | (exfalso; omega) | conv => whnf))
          all_goals
            refine OpK.layAgg tabOK (k := 2) 85 (swS' a b l[j]).cells rfl rfl rfl (fun q u c h1 h2 => ?_) ?_
            · match q, h1, h2 with
              | 0, h1, h2 => cases h1; cases h2; exact .inl ⟨_, rfl, Sub.refl _⟩
              | 1, h1, h2 => cases h1; cases h2; exact .inl ⟨_, rfl, Sub.refl _⟩
              | 2, h1, h2 => cases h1; cases h2; exact .inl ⟨_, rfl, Sub.refl _⟩
              | 3, h1, h2 => cases h1; cases h2; exact .inl ⟨_, rfl, Sub.refl _⟩
              | 4, h1, h2 => cases h1; cases h2; exact .inl ⟨_, rfl, Sub.refl _⟩
              | 5, h1, h2 => cases h1; cases h2; exact .inl ⟨_, rfl, Sub.refl _⟩
              | 6, h1, h2 => cases h1; cases h2; exact .inl ⟨_, rfl, Sub.refl _⟩
              | 7, h1, h2 => cases h1; cases h2; exact .inl ⟨_, rfl, Sub.refl _⟩
              | 8, h1, h2 => cases h1; cases h2; exact .inl ⟨_, rfl, Sub.refl _⟩
              | 9, h1, h2 => cases h1; cases h2; exact .inl ⟨_, rfl, Sub.refl _⟩
              | 10, h1, h2 => cases h1; cases h2; exact .inr ⟨_, rfl, hcl, by rw [hA]⟩
              | 11, h1, h2 => cases h1; cases h2; exact .inl ⟨_, rfl, Sub.refl _⟩
              | 12, h1, h2 => cases h1; cases h2; exact .inl ⟨_, rfl, Sub.refl _⟩
              | q + 13, h1, h2 => simp at h1
            conv => whnf
            repeat' ((first | (refine And.intro rfl ?_) | (refine And.intro ⟨by decide, by decide⟩ ?_) | (refine BsK.pure (fun x hx => by rcases List.mem_singleton.1 hx with rfl; rfl) rfl ?_) | (refine Wr.i64 (by omega) (by omega) ?_) | (refine AppK.mk hacl rfl (by show (j+1) * 208 ≤ 140737488355328; omega) (by show j+1 ≤ 9223372036854775807; omega) (fun x hx => by rcases List.mem_singleton.1 hx with rfl; exact ⟨rfl, rfl⟩) ?_)); conv => whnf)
            exact ⟨j + 1, hj, by omega, Le.of_eq (by rw [hav]; rfl)⟩
    · have hall : (swL a b l).take j = swL a b l := List.take_of_length_le (by rw [swL_len]; exact hj)
      have hjl : j = (S.avs (swL a b l)).length := by rw [S.avs_eq, List.length_map, swL_len]; omega
      rw [hall]
      conv => whnf
      repeat' (refine Br.dec (fun _ => ?_) (fun _ => ?_) <;> first | (exfalso; omega) | conv => whnf)
      exact ⟨_, .hd rfl hjl, rfl⟩
end Go.Ab
