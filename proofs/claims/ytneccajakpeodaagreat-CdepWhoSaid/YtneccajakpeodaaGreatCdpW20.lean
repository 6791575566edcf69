/- law18: what decides, in the reference's small program. -/
import Derived.Test.YtneccajakpeodaaGreatCdpW10
import Derived.Test.YtneccajakpeodaaGreatCdpW17
import Derived.Test.YtneccajakpeodaaGreatCdpW18
import Derived.Test.YtneccajakpeodaaGreatCdpW19
set_option linter.unusedSimpArgs false
set_option linter.unusedVariables false
set_option maxRecDepth 100000
set_option maxHeartbeats 16000000
namespace Go.Ab
open Go.Proofs
def avF (nx : List (List Int)) (n b : Nat) : Nat → Nat → Bool
 | 0, _ => false
 | k + 1, a => (decide (a = n - 1) && decide (b ≠ n - 1)) || (decide (a ≠ b) && (nx.getD a []).any fun t => decide (0 ≤ t) && avF nx n b k t.toNat)
theorem avF_avd {nx : List (List Int)} {n b : Nat} : ∀ (k a : Nat), avF nx n b k a = true → Avd nx n b a
 | 0, _, h => by cases h
 | k + 1, a, h => by
   rw [avF, Bool.or_eq_true, Bool.and_eq_true, Bool.and_eq_true, decide_eq_true_eq, decide_eq_true_eq, decide_eq_true_eq, List.any_eq_true] at h
   rcases h with ⟨rfl, h⟩ | ⟨h1, t, ht, h2⟩
   ·exact .exit h
   ·rw [Bool.and_eq_true, decide_eq_true_eq] at h2
    exact .step h1 (by rw [Int.toNat_of_nonneg h2.1]; exact ht) (avF_avd k _ h2.2)
theorem follow_of {n : Nat} {nx : List (List Int)} {G : List (List Bool)} (hl : G.length = n) (hr : ∀ r ∈ G, r.length = n) (hlast : G.getD (n - 1) [] = filRow n (n - 1))
  (hfix : ((List.range (n - 1)).all fun a => decide (G.getD a [] = rowF n nx G a)) = true) (hmin : ((List.range n).all fun a => (List.range n).all fun b => bitF G a b || avF nx n b n a) = true) : FollowP n nx G := by
 have hf : ∀ a, a < n - 1 → G.getD a [] = rowF n nx G a := fun a ha => of_decide_eq_true (List.all_eq_true.1 hfix a (List.mem_range.2 ha))
 refine ⟨⟨hl, hr, hlast, fun a b ha hb h => ?_, fun a b ha hb h => ?_⟩, hf⟩
 ·unfold bitF
  rw [hf a ha]
  exact h
 ·have h1 := List.all_eq_true.1 (List.all_eq_true.1 hmin a (List.mem_range.2 ha)) b (List.mem_range.2 hb)
  rw [h, Bool.false_or] at h1
  exact avF_avd _ _ h1
theorem prsA1 : prsA (newWay someP 1 f1) f1 = [(0, 1), (0, 5), (1, 2), (2, 3), (2, 4), (3, 4), (3, 5), (4, 5)] := by
 unfold prsA
 rw [aug1]
 kernel_rfl
theorem prsA0 : prsA (newWay someP 0 f0) f0 = [(0, 1), (0, 5), (1, 2), (2, 3), (3, 4), (4, 5)] := by
 unfold prsA
 rw [aug0]
 kernel_rfl
def fol1 : List (List Bool) := [[true, false, false, false, false, true], [false, true, true, false, false, true], [false, false, true, false, false, true], [false, false, false, true, false, true], [false, false, false, false, true, true], [false, false, false, false, false, true]]
def fol0 : List (List Bool) := [[true, false, false, false, false, true], [false, true, true, true, true, true], [false, false, true, true, true, true], [false, false, false, true, true, true], [false, false, false, false, true, true], [false, false, false, false, false, true]]
theorem foll1 : folM 6 (nextR 6 [(0, 1), (0, 5), (1, 2), (2, 3), (2, 4), (3, 4), (3, 5), (4, 5)]) = fol1 := (follow_of (by kernel_rfl) (by decide) (by kernel_rfl) (by kernel_rfl) (by kernel_rfl)).eq.symm
theorem foll0 : folM 6 (nextR 6 [(0, 1), (0, 5), (1, 2), (2, 3), (3, 4), (4, 5)]) = fol0 := (follow_of (by kernel_rfl) (by decide) (by kernel_rfl) (by kernel_rfl) (by kernel_rfl)).eq.symm
theorem decL1 : decO someP [112] = [(0, 5), (0, 6), (6, 7), (6, 8), (7, 8)] := by
 rw [decO_some (f := f1) some_way rfl]
 show decL (newWay someP 1 f1) f1 6 = _
 unfold decL
 rw [prsA1, foll1]
 kernel_rfl
theorem decL0 : decO someP [109, 97, 105, 110] = [(0, 1), (0, 2), (0, 3), (0, 4)] := by
 rw [decO_some (f := f0) some_way0 rfl]
 show decL (newWay someP 0 f0) f0 6 = _
 unfold decL
 rw [prsA0, foll0]
 kernel_rfl
theorem by8 : byR someP [112] 8 = [6, 7] := by
 unfold byR
 rw [decL1]
 kernel_rfl
theorem in7 : inR someP 7 = [6] := by
 unfold inR
 rw [some_chk]
 kernel_rfl
theorem whittlerlaw18_deciding : SpecP Tryz.prog 39 [] (fun r => r = .tt) := by
 have hB := cdep_By someP some_fit [112] 8
 rw [by8] at hB
 have hI := cdep_In someP some_fit 7
 rw [in7] at hI
 have hO := cdep_Of someP some_fit [109, 97, 105, 110]
 rw [decL0] at hO
 refine SpecP.body I_whittlerlaw18_deciding tabOK Tryz.func39 rfl Tryz.call39 (by show 0 ≤ _; decide) ?_
 conv => whnf
 repeat' (first | ((first | (intro (_ : _ ≤ 9223372036854775807)) | (refine And.intro rfl ?_) | (refine CallK.pure whittlerref3_Some .nil ?_; rintro _ rfl) | (refine CallK.pure hB (.cons (Sub.refl _) (.cons (Sub.refl _) (.cons (Sub.refl _) .nil))) ?_; rintro _ rfl) | (refine CallK.pure hI (.cons (Sub.refl _) (.cons (Sub.refl _) .nil)) ?_; rintro _ rfl) | (refine CallK.pure hO (.cons (Sub.refl _) (.cons (Sub.refl _) .nil)) ?_; rintro _ rfl) | (refine IdxK.at (k := 0) (e := .int .i64 6) rfl rfl rfl ?_) | (refine IdxK.at (k := 1) (e := .int .i64 7) rfl rfl rfl ?_)); conv => whnf) | (refine Br.dec (fun _ => ?_) (fun _ => ?_) <;> first | (exfalso; omega) | conv => whnf))
 all_goals first
  | exact RetK.tt rfl
  | exact ⟨_, .p (Sub.tt' rfl), rfl⟩
  | exact ⟨_, .p (Sub.tt rfl), rfl⟩
  | (rename_i h; exact absurd rfl h)
  | skip
open Go.Proofs
inductive TrD (p : Pg) (n : Str) (b : Int) : Int → Prop
 | base {a : Int} (h : a ∈ byR p n b) : TrD p n b a
 | step {x a : Int} (hx : TrD p n b x) (h0 : x ≠ 0) (h : a ∈ byR p n x) : TrD p n b a
theorem TrD.trans {p : Pg} {n : Str} {b x a : Int} (h : TrD p n b x) (h0 : x ≠ 0) (h' : TrD p n x a) : TrD p n b a := by
 induction h' with
 | base h1 => exact .step h h0 h1
 | step _ h1 h2 ih => exact .step ih h1 h2
section
variable {p : Pg} {j : Nat} {f : Pr} {n : Str}
end
open Go.Proofs
open Go.Proofs
open Go.Proofs
structure FreeF (p q : Pg) (g : Pr) : Prop where
 only : onlyPg false p = q
 chk : chkB q = true
 fit : Fit q
 at0 : q.procs[0]? = some g
 way : wayO q mainS = some (newWay q 0 g)
 kind : ∀ u ∈ flL g.body, u.kind < 7
 cnt : cntP q.procs = cntL g.body
 ends : endsR q = [mainS]
 copy : CopyF p
 raw : CopyF (onlyRaw false p) ∧ cntP (onlyRaw false p).procs ≤ 100000
 pos : 0 < p.procs.length
theorem FreeF.live {p q : Pg} {g : Pr} (h : FreeF p q g) : (liveR q mainS).length = cntP q.procs := by
 unfold liveR
 rw [h.way]
 show (liveL (newWay q 0 g)).length = _
 rw [live_len h.chk h.at0 h.kind, h.cnt]
open Go.Proofs
open Go.Proofs
theorem FreeF.steps {p q : Pg} {g : Pr} (h : FreeF p q g) : ∃ (d : Int) (r : List Step), ofR q mainS = ⟨0, d, 1⟩ :: r ∧ augO q mainS = wantR (⟨0, d, 1⟩ :: r) ∧ dataO q mainS = ⟨0, d, 1⟩ :: r ∧ trapsO q mainS = [] := by
 obtain ⟨r, hr, _⟩ := real_head h.chk h.at0
 refine ⟨fstI q 0 g, r, ?_, ?_, ?_, ?_⟩
 ·unfold ofR
  rw [h.way]
  exact hr
 ·rw [augO_some h.way h.at0, free_aug h.chk h.at0 h.kind, hr]
 ·rw [dataO_some h.way h.at0, free_data h.chk h.at0 h.kind, hr]
 ·rw [trapsO_some h.way h.at0, free_traps h.chk h.at0 h.kind]
open Go.Proofs
def onlyI (sh : Sheet) (f : Pr) (R : Int → Int → Prop) (l : List Item) : Prop := ∀ it ∈ l, it.s.kind < 7 ∧ ∀ y, R it.s.id y → y ∈ goesI sh f it
theorem onlyI.sub {sh : Sheet} {f : Pr} {R : Int → Int → Prop} {l m : List Item} (h : onlyI sh f R l) (hs : ∀ x ∈ m, x ∈ l) : onlyI sh f R m := fun it hi => h it (hs it hi)
theorem goes_free {sh : Sheet} {f : Pr} {it : Item} (hk : it.s.kind < 7) : goesI sh f it = if it.s.kind = 5 then [headI it.s.thn it.next, headI it.s.els it.next] else if it.s.kind = 6 then [headI it.s.thn it.s.id, it.next] else [it.next] := by
 unfold goesI
 split
 ·rfl
 ·split
  ·rfl
  ·rw [if_neg (by omega), if_neg (by omega), if_neg (by omega), if_neg (by omega)]
open Go.Proofs
theorem small_chk {p : Pg} {m : Int} (h : smallB p m = true) : chkB p = true := by
 unfold smallB at h
 rw [Bool.and_eq_true] at h
 exact h.1
open Go.Proofs
section
variable {p : Pg} {j : Nat} {f : Pr} {n : Str}
end
open Go.Proofs
theorem one_next {R : Int → Int → Prop} {a nx : Int} (h1 : ∀ t, R a t → t = nx) (ha : a ≠ -1) {x : Int} (h : ToX R x) : AvdP R a nx ∨ AvdP R a x := by
 induction h with
 | exit => exact .inr (.exit ha)
 | @step x t hs _ ih =>
   by_cases he : x = a
   ·subst he
    rw [h1 t hs] at ih
    exact .inl (ih.elim id id)
   ·exact ih.imp id fun h => .step (fun e => he e) hs h
theorem avd_step {R : Int → Int → Prop} {b a : Int} (h : AvdP R b a) (ha : a ≠ -1) : ∃ t, R a t ∧ AvdP R b t := by
 cases h with
 | exit _ => exact absurd rfl ha
 | step _ hs h => exact ⟨_, hs, h⟩
section
variable {p : Pg} {j : Nat} {f : Pr}
theorem plain_next (h : chkB p = true) (hj : p.procs[j]? = some f) {it : Item} (hi : it ∈ itsOf p j f) (hk : it.s.kind < 5) : ∀ t, aR p j f it.s.id t → t = it.next := fun y hy => by
 have hb := body_id (chk_parts h).1 hj (its_s hi)
 rcases (aR_iff h hj).1 hy with ⟨s, hs, h1, h2⟩ | ⟨h1, _⟩ | ⟨l, _, t, ht, _, h10, h1, _⟩ | ⟨it', hi', h7, h1, h2⟩
 ·have h3 := ((real_spec h hj).2 s).1 hs
  unfold stepsRaw at h3
  rcases List.mem_cons.1 h3 with rfl | h3
  ·have h1 : (0 : Int) = it.s.id := h1
   omega
  ·obtain ⟨it', hi', h4⟩ := List.mem_flatMap.1 h3
   obtain ⟨z, hz, rfl⟩ := List.mem_map.1 h4
   have he : it' = it := it_inj (chk_parts h).1 hj hi' hi h1
   subst he
   have h2 : z = y := h2
   rw [goes_free (by omega), if_neg (by omega), if_neg (by omega)] at hz
   rw [← h2]
   exact List.mem_singleton.1 hz
 ·omega
 ·obtain ⟨it', hi', rfl⟩ := it_of (p := p) (j := j) ht
  have := it_inj (chk_parts h).1 hj hi hi' h1
  subst this
  omega
 ·have := it_inj (chk_parts h).1 hj hi hi' h1
  exact h2.trans (by rw [this])
structure WhoF (p : Pg) (A : List Step) (dm : Int → List Int) (a b : Int) : Prop where
 kind : a = 0 ∨ 5 ≤ (stmtR p a).kind
 yes : ∃ s ∈ A, s.src = a ∧ hasI (dm s.dst) b = true
 no : a = b ∨ ∃ s ∈ A, s.src = a ∧ hasI (dm s.dst) b = false
theorem dom_has (h : chkB p = true) (hj : p.procs[j]? = some f) {n : Str} (hw : wayO p n = some (newWay p j f)) {t b : Int} (ht : plP p j f t) (hb : plP p j f b) : hasI (domO p n t) b = true ↔ folP p j f t b := by
 rw [hasI_iff, domO_some hw hj, if_pos (ix_rng ht).1, (folR_row h hj ht).mem]
 exact ⟨fun h => h.2, fun h => ⟨hb, h⟩⟩
theorem who_facts (h : chkB p = true) (hj : p.procs[j]? = some f) {n : Str} (hw : wayO p n = some (newWay p j f)) {a b : Int} (hd : (a, b) ∈ decO p n) : WhoF p (augO p n) (domO p n) a b := by
 rw [decO_some hw hj, dec_iff h hj] at hd
 obtain ⟨ha, hb, hb0, t, hR, hF, hor⟩ := hd
 rw [augO_some hw hj]
 have step : ∀ t, aR p j f a t → ∃ s ∈ augW (newWay p j f) f, s.src = a ∧ s.dst = t := fun t ⟨s, h1, h2, h3⟩ => ⟨s, h1, h2, h3⟩
 have hpl := fun t hR => (aR_pl h hj (a := a) (b := t) hR).2.1
 refine ⟨?_, ?_, ?_⟩
 ·rcases ha with ha | ha | ha
  ·exact .inl ha
  ·exact absurd ha (aR_pl h hj hR).2.2.1
  ·right
   obtain ⟨m, hr⟩ := may_row (chk_parts h).1 hj
   obtain ⟨it, hi, rfl⟩ := ids_it (proc := (j : Nat)) (up := 0) (nx := -1) (lp := 0) hr ha.1 (by omega)
   have hi : it ∈ itsOf p j f := hi
   rw [stmt_own h hj (its_s hi)]
   refine Classical.byContradiction fun hk => ?_
   have h1 := plain_next h hj hi (by omega)
   have e := h1 t hR
   subst e
   rcases hor with he | he
   ·rw [← he] at hF
    exact hF ((one_next h1 (by omega) (aug_exit h hj (hpl _ hR))).elim id id)
   ·obtain ⟨t', hs, h2⟩ := avd_step (Classical.not_not.1 he) (aR_pl h hj hR).2.2.1
    rw [h1 _ hs] at h2
    exact hF h2
 ·obtain ⟨s, h1, h2, h3⟩ := step t hR
  exact ⟨s, h1, h2, by rw [h3]; exact (dom_has h hj hw (hpl t hR) hb).2 hF⟩
 ·rcases hor with he | he
  ·exact .inl he
  ·right
   have h4 : AvdP (aR p j f) b a := Classical.not_not.1 he
   have hax := (aR_pl h hj hR).2.2.1
   obtain ⟨t', hs, h5⟩ := avd_step h4 hax
   obtain ⟨s, h1, h2, h3⟩ := step t' hs
   refine ⟨s, h1, h2, ?_⟩
   rw [h3]
   cases hq : hasI (domO p n t') b with
   | false => rfl
   | true => exact absurd h5 ((dom_has h hj hw (hpl t' hs) hb).1 hq)
end
theorem any_take {α : Type} {g : α → Bool} {l : List α} {i : Nat} (hi : i < l.length) : (l.take (i + 1)).any g = ((l.take i).any g || g l[i]) := by
 rw [List.take_succ_eq_append_getElem hi, List.any_append]
 simp
theorem whittlerlaw18_CdepWho (p : Pg) (n : Int) : SpecP Tryz.prog 13 [.agg p.cells, .int .i64 n] (fun r => r = .tt) := by
 refine SpecP.body I_whittlerlaw18_CdepWho tabOK Tryz.func13 rfl Tryz.call13 (by show 2 ≤ _; decide) ?_
 conv => whnf
 cases hfb : fitB p with
 | false =>
   have hno : ¬ gPg p ≤ 20000 := by unfold fitB at hfb; simpa using hfb
   repeat' (first | ((first | (refine CallK.pure (whittlerref3_Fits _) (by repeat' (first | exact ArgP.nil | refine ArgP.cons ?_ ?_ | exact Sub.refl _ | exact Sub.tt rfl | exact Sub.ff rfl)) ?_; rintro _ rfl) | (refine CallK.pure whittlerlaw18_deciding .nil ?_; rintro _ rfl)); conv => whnf) | (refine Br.dec2 (fun _ => ?_) (fun _ => ?_) <;> first | (exfalso; omega) | conv => whnf))
   all_goals first
    | exact ⟨_, .p (Sub.refl _), rfl⟩
    | (exfalso; simp_all; done)
 | true =>
   have hf : Fit p := fit_of hfb
   have hfit : gPg p ≤ 20000 := by unfold fitB at hfb; simpa using hfb
   have hS := whittlerlaw18_small p hf 40
   cases hs : smallB p 40 with
   | false =>
     rw [hs] at hS
     repeat' (first | ((first | (refine CallK.pure (whittlerref3_Fits _) (by repeat' (first | exact ArgP.nil | refine ArgP.cons ?_ ?_ | exact Sub.refl _ | exact Sub.tt rfl | exact Sub.ff rfl)) ?_; rintro _ rfl) | (refine CallK.pure whittlerlaw18_deciding .nil ?_; rintro _ rfl) | (refine CallK.pure hS (.cons (Sub.refl _) (.cons (Sub.refl _) .nil)) ?_; rintro _ rfl)); conv => whnf) | (refine Br.dec2 (fun _ => ?_) (fun _ => ?_) <;> first | (exfalso; omega) | conv => whnf) | (refine Br.n (fun _ => ?_) (fun _ => ?_) <;> conv => whnf))
     all_goals first
      | contradiction
      | exact ⟨_, .p (Sub.refl _), rfl⟩
   | true =>
     rw [hs] at hS
     have hc := small_chk hs
     obtain ⟨k, f, hkj, hw, _⟩ := procAt_way hc n
     have hPA := whittlerref6_ProcAt p n (by have := (chk_cnt hc).2.1; omega)
     have hWho := fun a b hd => who_facts hc hkj hw (a := a) (b := b) hd
     have hAl := aug_len hc hkj
     rw [← augO_some hw hkj] at hAl
     generalize procAtR p n = nm at hPA hw hWho hAl
     have hA := aug_Of p hf nm
     have hD := cdep_Of p hf nm
     have hDo := fun x => dom_Of p hf nm x
     have hDl := decO_len p nm
     generalize augO p nm = A at hA hWho hAl
     generalize decO p nm = D at hD hWho hDl
     generalize domO p nm = dm at hDo hWho
     have hAm : (A.map fun s => AV.agg s.cells).length = A.length := List.length_map _
     have hDm : (avP D).length = D.length := by unfold avP; rw [List.length_map]
     repeat' (first | ((first | (intro (_ : _ ≤ 9223372036854775807)) | (refine CallK.pure (whittlerref3_Fits _) (by repeat' (first | exact ArgP.nil | refine ArgP.cons ?_ ?_ | exact Sub.refl _ | exact Sub.tt rfl | exact Sub.ff rfl)) ?_; rintro _ rfl) | (refine CallK.pure whittlerlaw18_deciding .nil ?_; rintro _ rfl) | (refine CallK.pure hS (.cons (Sub.refl _) (.cons (Sub.refl _) .nil)) ?_; rintro _ rfl) | (refine CallK.pure hPA (.cons (Sub.refl _) (.cons (Sub.refl _) .nil)) ?_; rintro _ rfl) | (refine CallK.pure hA (.cons (Sub.refl _) (.cons (Sub.refl _) .nil)) ?_; rintro _ rfl) | (refine CallK.pure hD (.cons (Sub.refl _) (.cons (Sub.refl _) .nil)) ?_; rintro _ rfl)); conv => whnf) | (refine Br.dec2 (fun _ => ?_) (fun _ => ?_) <;> first | (exfalso; omega) | conv => whnf) | (refine Br.n (fun _ => ?_) (fun _ => ?_) <;> conv => whnf))
     all_goals first
      | contradiction
      | skip
     refine LoopK.inv tabOK (fun i : Nat => ⟨[(2, .p (.ip p.cells)), (5, .p (.str nm)), (6, .p (eSteps A)), (31, .p (.sl (avP D))), (32, .p (.int .i64 (avP D).length)), (33, .p (.int .i64 i))], []⟩) (fun i => i ≤ D.length) (fun i => D.length - i) 0 (Le.of_eq rfl) (Nat.zero_le _) ?_
     intro i hi
     rcases Nat.lt_or_ge i D.length with hi2 | hi2
     rotate_left 1
     ·conv => whnf
      repeat' (refine Br.dec (fun _ => ?_) (fun _ => ?_) <;> first | (exfalso; omega) | conv => whnf)
      all_goals first
       | (exfalso; omega)
       | exact ⟨_, .p (Sub.refl _), rfl⟩
     have hme : (avP D)[i]? = some (.agg [.int .i64 D[i].1, .int .i64 D[i].2]) := by simp [avP, hi2]
     have hF := hWho D[i].1 D[i].2 (List.getElem_mem hi2)
     generalize D[i].1 = a at hme hF
     generalize D[i].2 = b at hme hF
     have hSt := whittlerref6_Stmt p a
     have hkd := hF.kind
     generalize stmtR p a = st at hSt hkd
     conv => whnf
     repeat' (first | ((first | (intro (_ : _ ≤ 9223372036854775807)) | (refine And.intro rfl ?_) | (refine IdxK.at (k := i) rfl hme rfl ?_) | (refine IdxL.mk 0 rfl (by decide) ?_) | (refine CallK.pure hSt (.cons (Sub.refl _) (.cons (Sub.refl _) .nil)) ?_; rintro _ rfl)); conv => whnf) | (refine Br.dec (fun _ => ?_) (fun _ => ?_) <;> first | (exfalso; omega) | conv => whnf) | (refine Br.dec2 (fun _ => ?_) (fun _ => ?_) <;> first | (exfalso; omega) | conv => whnf))
     all_goals first
      | (exfalso; omega)
      | skip
     all_goals
      refine LoopK.inv tabOK (fun x : Nat × Bool × Bool => ⟨[(2, .p (.ip p.cells)), (5, .p (.str nm)), (6, .p (eSteps A)), (8, .p (.ip [.int .i64 a, .int .i64 b])), (10, .p (.bool x.2.1)), (11, .p (.bool x.2.2)), (31, .p (.sl (avP D))), (32, .p (.int .i64 (avP D).length)), (33, .p (.int .i64 i)), (49, .p (eSteps A)), (50, .p (.int .i64 (A.map fun s => AV.agg s.cells).length)), (51, .p (.int .i64 x.1))], []⟩)
       (fun x => x.1 ≤ A.length ∧ x.2.1 = ((A.take x.1).any fun s => decide (s.src = a) && hasI (dm s.dst) b) ∧ x.2.2 = ((A.take x.1).any fun s => decide (s.src = a) && !hasI (dm s.dst) b)) (fun x => A.length - x.1) (0, false, false)
       (Le.mk [] (by simp) (by simp) (by simp) (.cons (.refl _) (.cons (.refl _) (.cons (.refl _) (.cons (.refl _) (.cons (.p (Sub.ff rfl)) (.cons (.p (Sub.ff rfl)) (.cons (.refl _) (.cons (.refl _) (.cons (.refl _) (.cons (.refl _) (.cons (.refl _) (.cons (.refl _) .nil)))))))))))) .nil) ⟨Nat.zero_le _, rfl, rfl⟩ ?_
      rintro ⟨q, y, z⟩ ⟨h1, h2, h3⟩
      simp only at h1 h2 h3 ⊢
      rcases Nat.lt_or_ge q A.length with hq | hq
      ·have hH := whittlerref14_Has (dm A[q].dst) b
       have hDq := hDo A[q].dst
       have hy := any_take (g := fun s : Step => decide (s.src = a) && hasI (dm s.dst) b) hq
       have hz := any_take (g := fun s : Step => decide (s.src = a) && !hasI (dm s.dst) b) hq
       rw [← h2] at hy
       rw [← h3] at hz
       by_cases hsrc : A[q].src = a
       ·rw [decide_eq_true hsrc, Bool.true_and] at hy hz
        generalize hasI (dm A[q].dst) b = v at hH hy hz
        have fin : ∃ x : Nat × Bool × Bool, (x.1 ≤ A.length ∧ x.2.1 = ((A.take x.1).any fun s => decide (s.src = a) && hasI (dm s.dst) b) ∧ x.2.2 = ((A.take x.1).any fun s => decide (s.src = a) && !hasI (dm s.dst) b)) ∧ A.length - x.1 < A.length - q ∧ x = (q + 1, (y || v), (z || !v)) := ⟨(q + 1, (y || v), (z || !v)), ⟨by simp only; omega, hy.symm, hz.symm⟩, by simp only; omega, rfl⟩
        obtain ⟨x, hx1, hx2, hx3⟩ := fin
        clear hy hz h2 h3
        cases v <;> cases y <;> cases z <;>
        conv => whnf
        repeat' (first | ((first | (refine DrawK.auto tabOK mixed (by kernel_rfl) ?_) | (refine And.intro rfl ?_) | (refine IdxK.map (by omega) (fun _ => rfl) ?_) | (refine Wr.i64 (by omega) (by omega) ?_) | (refine CallK.pure hDq (.cons (Sub.refl _) (.cons (Sub.refl _) (.cons (Sub.refl _) .nil))) ?_; rintro _ rfl) | (refine CallK.pure hH (.cons (Sub.refl _) (.cons (Sub.refl _) .nil)) ?_; rintro _ rfl) | (refine IdxL.mk 0 rfl (by decide) ?_) | (refine IdxL.mk 1 rfl (by decide) ?_)); conv => whnf) | (refine Br.dec (fun _ => ?_) (fun _ => ?_) <;> first | (exfalso; omega) | conv => whnf) | (refine Br.b (fun _ => ?_) (fun _ => ?_) <;> conv => whnf))
        all_goals first
         | contradiction
         | (exfalso; omega)
         | exact ⟨x, hx1, hx2, Le.of_eq (by rw [hx3]; rfl)⟩
         | exact ⟨x, hx1, hx2, by rw [hx3]; exact Le.mk [] (by simp) (by simp) (by simp) (by repeat' (first | exact .nil | refine .cons ?_ ?_ | exact .refl _ | exact .p (Sub.tt rfl) | exact .p (Sub.ff rfl) | exact .p (Sub.tt' rfl))) .nil⟩
         | skip
       ·rw [decide_eq_false hsrc, Bool.false_and, Bool.or_false] at hy hz
        conv => whnf
        repeat' (first | ((first | (refine And.intro rfl ?_) | (refine IdxK.map (by omega) (fun _ => rfl) ?_) | (refine Wr.i64 (by omega) (by omega) ?_) | (refine IdxL.mk 0 rfl (by decide) ?_)); conv => whnf) | (refine Br.dec (fun _ => ?_) (fun _ => ?_) <;> first | (exfalso; omega) | conv => whnf))
        all_goals first
         | (exfalso; omega)
         | exact ⟨(q + 1, y, z), ⟨by simp only; omega, hy.symm, hz.symm⟩, by simp only; omega, Le.of_eq rfl⟩
         | skip
      ·rw [List.take_of_length_le hq] at h2 h3
       have hyt : y = true := by
        obtain ⟨s, s1, s2, s3⟩ := hF.yes
        rw [h2, List.any_eq_true]
        exact ⟨s, s1, by rw [decide_eq_true s2, s3]; rfl⟩
       have hzt : a = b ∨ z = true := by
        rcases hF.no with he | ⟨s, s1, s2, s3⟩
        ·exact .inl he
        ·right
         rw [h3, List.any_eq_true]
         exact ⟨s, s1, by rw [decide_eq_true s2, s3]; rfl⟩
       subst hyt
       clear h2 h3
       cases z <;>
       conv => whnf
       repeat' (first | ((first | (refine Wr.i64 (by omega) (by omega) ?_) | (refine IdxL.mk 0 rfl (by decide) ?_) | (refine IdxL.mk 1 rfl (by decide) ?_)); conv => whnf) | (refine Br.dec (fun _ => ?_) (fun _ => ?_) <;> first | (exfalso; omega) | conv => whnf) | (refine Br.dec2 (fun _ => ?_) (fun _ => ?_) <;> first | (exfalso; omega) | conv => whnf) | (refine Br.n (fun _ => ?_) (fun _ => ?_) <;> conv => whnf))
       all_goals first
        | contradiction
        | (exfalso; simp at hzt; omega)
        | (exfalso; omega)
        | exact ⟨i + 1, by omega, by omega, Le.of_eq rfl⟩
        | skip
end Go.Ab
