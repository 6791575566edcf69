/- flat.Sort of steps of all kinds: what comes out. -/
import Derived.Test.YtabdfngdamikiaaGreatAugE15
set_option linter.unusedSimpArgs false
set_option linter.unusedVariables false
namespace Go.Ab
open Go.Proofs
instance (a b : Step) : Decidable (ltSt a b) := inferInstanceAs (Decidable (_ ∨ _))
instance : DecidableEq Step := fun a b => decidable_of_iff (a.src = b.src ∧ a.dst = b.dst ∧ a.kind = b.kind) ⟨fun h => Step.eq_of h.1 h.2.1 h.2.2, fun h => by rw [h]; exact ⟨rfl, rfl, rfl⟩⟩
theorem same_of {a b : Step} (ha : okSt a) (hb : okSt b) (h : stepLt b a = false) : (a.src = b.src ∧ a.dst = b.dst ∧ a.kind ≤ b.kind) ∨ ltSt a b := by
  rw [Bool.eq_false_iff, ne_eq, stepLt_iff] at h
  unfold ltSt
  by_cases h1 : rankI a.src = rankI b.src
  · by_cases h2 : rankI a.dst = rankI b.dst
    · exact .inl ⟨rankI_inj ha.1 hb.1 h1, rankI_inj ha.2 hb.2 h2, by omega⟩
    · exact .inr (by omega)
  · exact .inr (by omega)
theorem compFrom_gen : ∀ (l : List Step) (a : Step), okSt a → (∀ s ∈ l, okSt s) → (a :: l).Pairwise (fun a b => stepLt b a = false) →
    (∀ s ∈ compFrom a l, ltSt a s) ∧ (compFrom a l).Pairwise ltSt ∧ (∀ s ∈ compFrom a l, s ∈ l) ∧ ∀ s ∈ l, (s.src = a.src ∧ s.dst = a.dst ∧ a.kind ≤ s.kind) ∨ ∃ s' ∈ compFrom a l, s'.src = s.src ∧ s'.dst = s.dst ∧ s'.kind ≤ s.kind
  | [], a, _, _, _ => by simp [compFrom]
  | b :: r, a, ha, hl, h => by
    have hb := hl b List.mem_cons_self
    have hr : ∀ s ∈ r, okSt s := fun s hs => hl s (List.mem_cons_of_mem _ hs)
    rw [List.pairwise_cons] at h
    obtain ⟨h1, h2⟩ := h
    obtain ⟨i1, i2, i3, i4⟩ := compFrom_gen r b hb hr h2
    have hab := same_of ha hb (h1 b List.mem_cons_self)
    rw [compFrom]
    cases hs : sameStep b a with
    | true =>
      unfold sameStep at hs
      simp only [Bool.and_eq_true, decide_eq_true_eq] at hs
      have hk : a.kind ≤ b.kind := by
        rcases hab with h3 | h3
        · exact h3.2.2
        · unfold ltSt at h3
          rw [hs.1, hs.2] at h3
          omega
      rw [cond_true]
      refine ⟨fun s hs' => ?_, i2, fun s hs' => List.mem_cons_of_mem _ (i3 s hs'), fun s hs' => ?_⟩
      · have := i1 s hs'
        unfold ltSt at this ⊢
        rwa [← hs.1, ← hs.2]
      · rcases List.mem_cons.1 hs' with rfl | hs'
        · exact .inl ⟨hs.1, hs.2, hk⟩
        · rcases i4 s hs' with ⟨h3, h4, h5⟩ | h3
          · exact .inl ⟨by rw [h3, hs.1], by rw [h4, hs.2], by omega⟩
          · exact .inr h3
    | false =>
      have hlt : ltSt a b := by
        rcases hab with h3 | h3
        · unfold sameStep at hs
          simp [h3.1, h3.2.1] at hs
        · exact h3
      rw [cond_false]
      refine ⟨fun s hs' => ?_, List.pairwise_cons.2 ⟨i1, i2⟩, fun s hs' => ?_, fun s hs' => ?_⟩
      · rcases List.mem_cons.1 hs' with rfl | hs'
        · exact hlt
        · exact ltSt_trans hlt (i1 s hs')
      · rcases List.mem_cons.1 hs' with rfl | hs'
        · exact List.mem_cons_self
        · exact List.mem_cons_of_mem _ (i3 s hs')
      · rcases List.mem_cons.1 hs' with rfl | hs'
        · exact .inr ⟨s, List.mem_cons_self, rfl, rfl, Int.le_refl _⟩
        · rcases i4 s hs' with ⟨h3, h4, h5⟩ | ⟨s', h3, h4⟩
          · exact .inr ⟨b, List.mem_cons_self, h3.symm, h4.symm, h5⟩
          · exact .inr ⟨s', List.mem_cons_of_mem _ h3, h4⟩
theorem normS_gen {l : List Step} (hok : ∀ s ∈ l, okSt s) : (normS l).Pairwise ltSt ∧ (∀ s ∈ normS l, s ∈ l) ∧ ∀ s ∈ l, ∃ s' ∈ normS l, s'.src = s.src ∧ s'.dst = s.dst ∧ s'.kind ≤ s.kind := by
  have hp : ∀ s, s ∈ sortSt l ↔ s ∈ l := fun s => (sortSt_perm l).mem_iff
  have hs := sortSt_sorted l
  unfold normS
  cases hq : sortSt l with
  | nil =>
    rw [hq] at hp
    refine ⟨by simp [compF], by simp [compF], fun s hs => ?_⟩
    have := (hp s).2 hs
    cases this
  | cons a r =>
    rw [hq] at hp hs
    have hok' : ∀ s ∈ a :: r, okSt s := fun s h => hok s ((hp s).1 h)
    obtain ⟨h1, h2, h3, h4⟩ := compFrom_gen r a (hok' a List.mem_cons_self) (fun s h => hok' s (List.mem_cons_of_mem _ h)) hs
    rw [compF]
    refine ⟨List.pairwise_cons.2 ⟨h1, h2⟩, fun s hs' => ?_, fun s hs' => ?_⟩
    · rcases List.mem_cons.1 hs' with rfl | hs'
      · exact (hp s).1 List.mem_cons_self
      · exact (hp s).1 (List.mem_cons_of_mem _ (h3 s hs'))
    · rcases List.mem_cons.1 ((hp s).2 hs') with rfl | hs'
      · exact ⟨s, List.mem_cons_self, rfl, rfl, Int.le_refl _⟩
      · rcases h4 s hs' with ⟨h5, h6, h7⟩ | ⟨s', h5, h6⟩
        · exact ⟨a, List.mem_cons_self, h5.symm, h6.symm, h7⟩
        · exact ⟨s', List.mem_cons_of_mem _ h5, h6⟩
theorem lt_uniq {l : List Step} (h : l.Pairwise ltSt) {a b : Step} (ha : a ∈ l) (hb : b ∈ l) (h1 : a.src = b.src) (h2 : a.dst = b.dst) : a = b := by
  have hn : ∀ {x y : Step}, x.src = y.src → x.dst = y.dst → ¬ ltSt x y := fun {x y} e1 e2 hlt => by
    unfold ltSt at hlt
    rw [e1, e2] at hlt
    omega
  induction h with
  | nil => cases ha
  | @cons c r hc hr ih =>
    rcases List.mem_cons.1 ha with e1 | ha'
    · rcases List.mem_cons.1 hb with e2 | hb'
      · rw [e1, e2]
      · exact absurd (hc b hb') (by rw [← e1]; exact hn h1 h2)
    · rcases List.mem_cons.1 hb with e2 | hb'
      · exact absurd (hc a ha') (by rw [← e2]; exact hn h1.symm h2.symm)
      · exact ih ha' hb'
theorem normS_eq {l m : List Step} (hok : ∀ s ∈ l, okSt s) (h1 : m.Pairwise ltSt) (h2 : ∀ s ∈ m, s ∈ l) (h3 : ∀ s ∈ l, ∃ s' ∈ m, s'.src = s.src ∧ s'.dst = s.dst ∧ s'.kind ≤ s.kind) : normS l = m := by
  obtain ⟨g1, g2, g3⟩ := normS_gen hok
  refine sorted_ext g1 h1 fun s => ⟨fun hs => ?_, fun hs => ?_⟩
  · obtain ⟨a, ha, h4, h5, h6⟩ := h3 s (g2 s hs)
    obtain ⟨b, hb, h7, h8, h9⟩ := g3 a (h2 a ha)
    have := lt_uniq g1 hb hs (h7.trans h4) (h8.trans h5)
    subst this
    have : a = b := Step.eq_of h4 h5 (by omega)
    rw [← this]
    exact ha
  · obtain ⟨a, ha, h4, h5, h6⟩ := g3 s (h2 s hs)
    obtain ⟨b, hb, h7, h8, h9⟩ := h3 a (g2 a ha)
    have := lt_uniq h1 hb hs (h7.trans h4) (h8.trans h5)
    subst this
    have : a = b := Step.eq_of h4 h5 (by omega)
    rw [← this]
    exact ha
end Go.Ab
namespace Go.Ab
open Go.Proofs
theorem real1 : (newWay someP 1 f1).real = [⟨0, 5, 1⟩, ⟨5, 6, 1⟩, ⟨6, 7, 1⟩, ⟨6, 8, 1⟩, ⟨7, -1, 1⟩, ⟨8, -1, 1⟩] := norm1
theorem real0 : (newWay someP 0 f0).real = [⟨0, 1, 1⟩, ⟨1, 2, 1⟩, ⟨2, 3, 1⟩, ⟨3, 4, 1⟩, ⟨4, -1, 1⟩] := norm0
theorem prs1 : prsW (newWay someP 1 f1) f1 = [(0, 1), (1, 2), (2, 3), (2, 4), (3, 5), (4, 5)] := by
  unfold prsW
  rw [real1]
  kernel_rfl
theorem prs0 : prsW (newWay someP 0 f0) f0 = [(0, 1), (1, 2), (2, 3), (3, 4), (4, 5)] := by
  unfold prsW
  rw [real0]
  kernel_rfl
theorem traps1 : trapsW (newWay someP 1 f1) f1 = [] := by
  unfold trapsW partW
  rw [prs1]
  kernel_rfl
theorem traps0 : trapsW (newWay someP 0 f0) f0 = [] := by
  unfold trapsW partW
  rw [prs0]
  kernel_rfl
theorem aug1 : augW (newWay someP 1 f1) f1 = [⟨0, 5, 1⟩, ⟨0, -1, 2⟩, ⟨5, 6, 1⟩, ⟨6, 7, 1⟩, ⟨6, 8, 1⟩, ⟨7, 8, 2⟩, ⟨7, -1, 1⟩, ⟨8, -1, 1⟩] := by
  have h1 : augRaw (newWay someP 1 f1) f1 = [⟨0, 5, 1⟩, ⟨5, 6, 1⟩, ⟨6, 7, 1⟩, ⟨6, 8, 1⟩, ⟨7, -1, 1⟩, ⟨8, -1, 1⟩, ⟨0, -1, 2⟩, ⟨7, 8, 2⟩, ⟨8, -1, 2⟩] := by
    unfold augRaw virtW
    rw [traps1, real1]
    kernel_rfl
  unfold augW
  rw [h1]
  exact normS_eq (by unfold okSt; decide) (by decide) (by decide) (by decide)
theorem aug0 : augW (newWay someP 0 f0) f0 = [⟨0, 1, 1⟩, ⟨0, -1, 2⟩, ⟨1, 2, 1⟩, ⟨2, 3, 1⟩, ⟨3, 4, 1⟩, ⟨4, -1, 1⟩] := by
  have h1 : augRaw (newWay someP 0 f0) f0 = [⟨0, 1, 1⟩, ⟨1, 2, 1⟩, ⟨2, 3, 1⟩, ⟨3, 4, 1⟩, ⟨4, -1, 1⟩, ⟨0, -1, 2⟩] := by
    unfold augRaw virtW
    rw [traps0, real0]
    kernel_rfl
  unfold augW
  rw [h1]
  exact normS_eq (by unfold okSt; decide) (by decide) (by decide) (by decide)
theorem data1 : dataW (newWay someP 1 f1) f1 = [⟨0, 5, 1⟩, ⟨5, 6, 1⟩, ⟨6, 7, 1⟩, ⟨6, 8, 1⟩, ⟨7, -1, 1⟩, ⟨8, -1, 1⟩] := by
  unfold dataW virtW
  rw [traps1, real1]
  exact normS_eq (by unfold okSt; decide) (by decide) (by decide) (by decide)
theorem some_way0 : wayO someP [109, 97, 105, 110] = some (newWay someP 0 f0) := by
  unfold wayO
  rw [some_chk]
  rfl
set_option maxHeartbeats 2000000 in
set_option maxRecDepth 100000 in
theorem whittlerlaw16_more : SpecP Tryz.prog 42 [] (fun r => r = .tt) := by
  have hA := aug_Of someP some_fit [112]
  rw [augO_some (f := f1) some_way rfl, aug1] at hA
  have hM := aug_Of someP some_fit [109, 97, 105, 110]
  rw [augO_some (f := f0) some_way0 rfl, aug0] at hM
  have hD := aug_Data someP some_fit [112]
  rw [dataO_some (f := f1) some_way rfl, data1] at hD
  refine SpecP.body I_whittlerlaw16_more tabOK Tryz.func42 rfl Tryz.call42 (by show 0 ≤ _; decide) ?_
  conv => whnf
  repeat' (first | ((first | (intro (_ : _ ≤ 9223372036854775807)) | (refine And.intro rfl ?_) | (refine CallK.pure whittlerref3_Some .nil ?_; rintro _ rfl) | (refine CallK.pure hA (.cons (Sub.refl _) (.cons (Sub.refl _) .nil)) ?_; rintro _ rfl) | (refine CallK.pure hM (.cons (Sub.refl _) (.cons (Sub.refl _) .nil)) ?_; rintro _ rfl) | (refine CallK.pure hD (.cons (Sub.refl _) (.cons (Sub.refl _) .nil)) ?_; rintro _ rfl)); conv => whnf) | (refine Br.dec (fun _ => ?_) (fun _ => ?_) <;> first | (exfalso; omega) | conv => whnf))
  · refine IdxK.at (k := 1) (e := .agg (Step.mk 0 (-1) 2).cells) rfl rfl rfl ?_
    conv => whnf
    skip
    all_goals first
      | exact RetK.tt rfl
      | exact ⟨_, .p (Sub.tt' rfl), rfl⟩
      | (rename_i h; exact absurd rfl h)
      | trace_state
  all_goals
    rename_i h
    exact absurd rfl h
end Go.Ab
namespace Go.Ab
open Go.Proofs
/-- From each place ways lead to one that leads back to it from wherever it leads to. -/
theorem sink {R : Int → Int → Prop} {PL : List Int} (hPL : ∀ x y, x ∈ PL → R x y → y ∈ PL) : ∀ (k : Nat) {x : Int}, x ∈ PL → (∀ c : Int → Nat, (∀ y, c y = 0 ∨ c y = 1) → (∀ y, c y = 1 → Rch R x y) → (PL.map c).sum < k) → ∃ y, Rch R x y ∧ ∀ z, Rch R y z → Rch R z y
  | 0, x, _, hk => absurd (hk (fun _ => 0) (fun _ => .inl rfl) (fun _ h => by cases h)) (Nat.not_lt_zero _)
  | k + 1, x, hx, hk => by
    by_cases h : ∀ z, Rch R x z → Rch R z x
    · exact ⟨x, .refl, h⟩
    · obtain ⟨z, hz⟩ := Classical.not_forall.1 h
      obtain ⟨h1, h2⟩ := Classical.not_imp.1 hz
      have hzp : z ∈ PL := h1.closed (S := fun y => y ∈ PL) hPL hx
      obtain ⟨y, h3, h4⟩ := sink hPL k hzp fun c hc hr => by
        have hcx : c x = 0 := by
          rcases hc x with h5 | h5
          · exact h5
          · exact absurd (hr x h5) h2
        have h6 : (PL.map c).sum < (PL.map fun y => if y = x then 1 else c y).sum := sum_lt (fun y _ => by
          split
          · rename_i e
            rw [e, hcx]
            exact Nat.zero_le _
          · exact Nat.le_refl _) ⟨x, hx, by simp [hcx]⟩
        have h7 := hk (fun y => if y = x then 1 else c y) (fun y => by
          split
          · exact .inr rfl
          · exact hc y) (fun y hy => by
          split at hy
          · rename_i e
            rw [e]
            exact .refl
          · exact h1.trans (hr y hy))
        omega
      exact ⟨y, h1.trans h3, h4⟩
theorem sum_one {c : Int → Nat} (h : ∀ y, c y = 0 ∨ c y = 1) : ∀ l : List Int, (l.map c).sum ≤ l.length
  | [] => by simp
  | a :: r => by
    have h1 := sum_one h r
    have h2 := h a
    simp only [List.map_cons, List.sum_cons, List.length_cons]
    omega
def plL (p : Pg) (j : Nat) (f : Pr) : List Int := 0 :: (-1) :: idsN (offN p.procs j) (cntL f.body)
theorem plL_mem {p : Pg} {j : Nat} {f : Pr} {x : Int} : x ∈ plL p j f ↔ plP p j f x := by
  unfold plL plP
  simp only [List.mem_cons]
  refine or_congr Iff.rfl (or_congr Iff.rfl ⟨fun h => ?_, fun h => idsN_has h.1 h.2⟩)
  have := idsN_mem h
  omega
theorem to_sink {p : Pg} (h : chkB p = true) {j : Nat} {f : Pr} (hj : p.procs[j]? = some f) {x : Int} (hx : plP p j f x) : ∃ y, Rch (wR p j f) x y ∧ ∀ z, Rch (wR p j f) y z → Rch (wR p j f) z y :=
  sink (PL := plL p j f) (fun a b _ hab => plL_mem.2 (R_pl h hj hab).2) ((plL p j f).length + 1) (plL_mem.2 hx) fun _ hc _ => Nat.lt_succ_of_le (sum_one hc _)
/-- No step leads to the entry. -/
theorem no_entry {p : Pg} (h : chkB p = true) {j : Nat} {f : Pr} (hj : p.procs[j]? = some f) {a : Int} : ¬ wR p j f a 0 := fun ⟨s, hs, _, hd⟩ => by
  have h1 := ((chk_way h hj).2.1 s (((real_spec h hj).2 s).1 hs)).2
  unfold okI at h1
  omega
theorem rch_entry {p : Pg} (h : chkB p = true) {j : Nat} {f : Pr} (hj : p.procs[j]? = some f) {a : Int} (hr : Rch (wR p j f) a 0) : a = 0 := by
  cases hr with
  | refl => rfl
  | tail _ h2 => exact absurd h2 (no_entry h hj)
theorem entry_go {p : Pg} (h : chkB p = true) {j : Nat} {f : Pr} (hj : p.procs[j]? = some f) : wR p j f 0 (fstI p j f) := ⟨⟨0, fstI p j f, 1⟩, ((real_spec h hj).2 _).2 (by unfold stepsRaw fstI; exact List.mem_cons_self), rfl, rfl⟩
/-- In a trap somebody jumps by goto. -/
theorem trap_goto {p : Pg} (h : chkB p = true) {j : Nat} {f : Pr} (hj : p.procs[j]? = some f) {r : Int} (hr : plP p j f r) (hcl : ∀ b c, sccP (wR p j f) r b → wR p j f b c → sccP (wR p j f) r c) (h0 : ¬ sccP (wR p j f) r 0) (hx : ¬ sccP (wR p j f) r (-1)) : ∃ t ∈ flL f.body, sccP (wR p j f) r t.id ∧ t.kind = 10 := by
  refine Classical.byContradiction fun hno => hx ?_
  have hrr : (offN p.procs j : Int) + 1 ≤ r ∧ r ≤ (offN p.procs j + cntL f.body : Nat) := by
    rcases hr with rfl | rfl | h1
    · exact absurd (sccP.refl 0) h0
    · exact absurd (sccP.refl (-1)) hx
    · exact h1
  obtain ⟨t, ht, _, hti⟩ := stAt_own h hj hrr.1 hrr.2
  exact proc_exit h hj (T := fun y => sccP (wR p j f) r y) (fun a b ha hab => hcl a b ha hab) (fun u hu hs hk => hno ⟨u, hu, hs, hk⟩) ht (by rw [hti]; exact sccP.refl r)
theorem stAt_id {p : Pg} (h : chkB p = true) {j : Nat} {f : Pr} (hj : p.procs[j]? = some f) {t : S} (ht : t ∈ flL f.body) : stAt p t.id = some t := by
  have hb := body_id (chk_parts h).1 hj ht
  obtain ⟨u, hu, h1, h2⟩ := stAt_own h hj hb.1 hb.2
  obtain ⟨it, hi, rfl⟩ := it_of (p := p) (j := j) ht
  obtain ⟨iu, hiu, rfl⟩ := it_of (p := p) (j := j) hu
  rw [it_inj (chk_parts h).1 hj hiu hi h2] at h1
  exact h1
theorem virt_mem {p : Pg} (h : chkB p = true) {j : Nat} {f : Pr} (hj : p.procs[j]? = some f) {s : Step} : s ∈ virtW (newWay p j f) f ↔ ∃ l ∈ trapsW (newWay p j f) f, ∃ t ∈ flL f.body, t.id ∈ l ∧ t.kind = 10 ∧ s = ⟨t.id, -1, 3⟩ := by
  unfold virtW
  constructor
  · intro hs
    obtain ⟨l, hl, hs⟩ := List.mem_flatMap.1 hs
    obtain ⟨id, hid, hs⟩ := List.mem_flatMap.1 hs
    have hb := (trap_row h hj hl).2 id hid
    obtain ⟨t, ht, h1, h2⟩ := stAt_own h hj hb.1 hb.2
    have e : (newWay p j f).p = p := rfl
    unfold vOf at hs
    rw [e, h1] at hs
    simp only at hs
    split at hs
    · rename_i hk
      exact ⟨l, hl, t, ht, by rw [h2]; exact hid, hk, by rw [h2]; simpa using hs⟩
    · cases hs
  · rintro ⟨l, hl, t, ht, hid, hk, rfl⟩
    refine List.mem_flatMap.2 ⟨l, hl, List.mem_flatMap.2 ⟨t.id, hid, ?_⟩⟩
    have e : (newWay p j f).p = p := rfl
    unfold vOf
    rw [e, stAt_id h hj ht]
    simp [hk]
theorem data_ok {p : Pg} (h : chkB p = true) {j : Nat} {f : Pr} (hj : p.procs[j]? = some f) : ∀ s ∈ virtW (newWay p j f) f ++ (newWay p j f).real, okSt s := fun s hs =>
  (List.mem_append.1 hs).elim ((wayT h hj).virt_ok s) ((wayT h hj).hok s)
theorem data_of {p : Pg} (h : chkB p = true) {j : Nat} {f : Pr} (hj : p.procs[j]? = some f) {s : Step} (hs : s ∈ virtW (newWay p j f) f ++ (newWay p j f).real) : stR (dataW (newWay p j f) f) s.src s.dst := by
  obtain ⟨s', h1, h2, h3, _⟩ := (normS_gen (data_ok h hj)).2.2 s hs
  exact ⟨s', h1, h2, h3⟩
theorem data_exit {p : Pg} (h : chkB p = true) {j : Nat} {f : Pr} (hj : p.procs[j]? = some f) {x : Int} (hx : plP p j f x) : Rch (stR (dataW (newWay p j f) f)) x (-1) := by
  have hm : ∀ a b, wR p j f a b → stR (dataW (newWay p j f) f) a b := fun a b ⟨s, hs, h1, h2⟩ => by
    rw [← h1, ← h2]
    exact data_of h hj (List.mem_append.2 (.inr hs))
  obtain ⟨y, h1, h2⟩ := to_sink h hj hx
  have hy := rch_pl h hj hx h1
  have hcl : ∀ b c, sccP (wR p j f) y b → wR p j f b c → sccP (wR p j f) y c := fun b c hb hbc => by
    have h3 : Rch (wR p j f) y c := .tail hb.1 hbc
    exact ⟨h3, h2 c h3⟩
  by_cases hxe : sccP (wR p j f) y (-1)
  · exact (h1.trans hxe.1).mono hm
  have h0 : ¬ sccP (wR p j f) y 0 := fun hs => by
    have hy0 := rch_entry h hj hs.1
    subst hy0
    have h3 := h2 _ (.tail .refl (entry_go h hj))
    have h4 := rch_entry h hj h3
    have h5 := entry_go h hj
    rw [h4] at h5
    exact no_entry h hj h5
  obtain ⟨l, hl, hlm⟩ := trap_of h hj hy hcl h0 hxe
  obtain ⟨t, ht, h3, h4⟩ := trap_goto h hj hy hcl h0 hxe
  have hv : (⟨t.id, -1, 3⟩ : Step) ∈ virtW (newWay p j f) f := (virt_mem h hj).2 ⟨l, hl, t, ht, (hlm _).2 ⟨rch_pl h hj hy h3.1, h3⟩, h4, rfl⟩
  exact .tail ((h1.trans h3.1).mono hm) (data_of h hj (List.mem_append.2 (.inl hv)))
theorem data_len {p : Pg} (h : chkB p = true) {j : Nat} {f : Pr} (hj : p.procs[j]? = some f) : (dataW (newWay p j f) f).length ≤ 200000 := by
  obtain ⟨_, _, hcn⟩ := chk_cnt h
  obtain ⟨_, _, _, hlen, hsp⟩ := sheet_spec p
  obtain ⟨_, _, hle, _⟩ := hsp j f hj
  obtain ⟨h1, h2, _⟩ := normS_gen (data_ok h hj)
  have h3 := nodup_len (l := dataW (newWay p j f) f) (m := (newWay p j f).real ++ (idsN (offN p.procs j) (cntL f.body)).map fun id => ⟨id, -1, 3⟩) (lt_nodup h1) fun s hs => by
    rcases List.mem_append.1 (h2 s hs) with h4 | h4
    · obtain ⟨l, hl, t, ht, hid, hk, rfl⟩ := (virt_mem h hj).1 h4
      have hb := body_id (chk_parts h).1 hj ht
      exact List.mem_append.2 (.inr (List.mem_map.2 ⟨t.id, idsN_has hb.1 hb.2, rfl⟩))
    · exact List.mem_append.2 (.inl h4)
  rw [List.length_append, List.length_map] at h3
  have h4 := real_len hj hcn
  have h5 : (idsN (offN p.procs j) (cntL f.body)).length = cntL f.body := by unfold idsN; simp
  omega
end Go.Ab
namespace Go.Ab
open Go.Proofs
theorem procAt_way {p : Pg} (h : chkB p = true) (n : Int) : ∃ (k : Nat) (f : Pr), p.procs[k]? = some f ∧ wayO p (procAtR p n) = some (newWay p k f) ∧ procR p (procAtR p n) = (f, true) := by
  have hne : 0 < p.procs.length := by
    obtain ⟨_, hb, _⟩ := scope_ok (chk_parts h).2.1
    cases hp : p.procs with
    | nil =>
      unfold mainBad procsN at hb
      rw [hp] at hb
      simp at hb
    | cons a r => simp
  have hr := modI_rng (n := n) (k := p.procs.length) (by omega)
  have hlt : (modI n p.procs.length).toNat < p.procs.length := by omega
  have e : procAtR p n = (p.procs[(modI n p.procs.length).toNat]).name := by unfold procAtR; rw [List.getElem?_eq_getElem hlt]
  cases hw : wayO p (procAtR p n) with
  | none =>
    exfalso
    unfold wayO at hw
    rw [h, cond_true] at hw
    cases hf : p.procs.find? (fun f => f.name == procAtR p n) with
    | none =>
      have := List.find?_eq_none.1 hf _ (List.getElem_mem hlt)
      simp [e] at this
    | some g => rw [hf] at hw; cases hw
  | some w =>
    obtain ⟨k, f, hkj, rfl, _, hfn, hfind⟩ := wayO_some hw
    exact ⟨k, f, hkj, rfl, by unfold procR; rw [hfind]⟩
structure ExitF (L : List Step) (F : List RI) : Prop where
  len : L.length ≤ 200000
  ex : ∀ x ∈ F, Rch (frR L x.s.id []) x.s.id (-1)
  en : Rch (frR L 0 []) 0 (-1)
theorem stR_fr {L : List Step} {x : Int} {a b : Int} (h : Rch (stR L) a b) : Rch (frR L x []) a b := h.mono fun _ _ ⟨s, hs, h1, h2⟩ => ⟨.inr rfl, s, hs, h1, h2⟩
theorem flat_pl {p : Pg} (h : chkB p = true) {j : Nat} {f : Pr} (hj : p.procs[j]? = some f) {x : RI} (hx : x ∈ flatR f) : x.s ∈ flL f.body := by
  rw [flatR_eq (chk_parts h).1 (List.mem_of_getElem? hj)] at hx
  rw [← show (flatU f).map RI.s = flL f.body from fuL_s 1 0 false f.body]
  exact List.mem_map.2 ⟨x, hx, rfl⟩
theorem exit_facts {p : Pg} (h : chkB p = true) {n : Int} {q : Pr} {b : Bool} (hq : procR p (procAtR p n) = (q, b)) : ExitF (dataO p (procAtR p n)) (flatR q) := by
  obtain ⟨k, f, hkj, hw, hp⟩ := procAt_way h n
  obtain ⟨rfl, _⟩ := Prod.mk.inj (hp.symm.trans hq)
  rw [dataO_some hw hkj]
  refine ⟨data_len h hkj, fun x hx => stR_fr (data_exit h hkj (.inr (.inr (body_id (chk_parts h).1 hkj (flat_pl h hkj hx))))), stR_fr (data_exit h hkj (.inl rfl))⟩
set_option maxRecDepth 100000 in
theorem whittlerlaw16_has (l : List Int) (x : Int) : SpecP Tryz.prog 47 [eInts l, .int .i64 x] (fun r => r = .bool (hasI l x)) := by
  refine SpecP.body I_whittlerlaw16_has tabOK Tryz.func47 rfl Tryz.call47 (by show 2 ≤ _; decide) ?_
  conv => whnf
  repeat' (intro (_ : _ ≤ 9223372036854775807); conv => whnf)
  have hl : (l.map (AV.int .i64)).length = l.length := List.length_map _
  refine LoopK.inv tabOK (fun j : Nat => ⟨[(1, .p (.int .i64 x)), (7, .p (eInts l)), (8, .p (.int .i64 (l.map (AV.int .i64)).length)), (9, .p (.int .i64 j))], []⟩) (fun j => j ≤ l.length ∧ (l.drop j).any (fun y => decide (x = y)) = hasI l x) (fun j => l.length - j) 0 (Le.of_eq rfl) ⟨Nat.zero_le _, rfl⟩ ?_
  rintro j ⟨h2, h3⟩
  rcases Nat.lt_or_ge j l.length with hj | hj
  · conv => whnf
    repeat' (first | ((first | (refine IdxK.map (by omega) (fun _ => rfl) ?_) | (refine Wr.i64 (by omega) (by omega) ?_)); conv => whnf) | (refine Br.dec (fun _ => ?_) (fun _ => ?_) <;> first | (exfalso; omega) | conv => whnf))
    · exact RetK.tt (by rw [← h3, any_yes hj (by simpa using by assumption)])
    · exact ⟨j + 1, ⟨hj, by rw [any_no hj (by simpa using by assumption)]; exact h3⟩, by omega, Le.of_eq rfl⟩
  · conv => whnf
    repeat' (refine Br.dec (fun _ => ?_) (fun _ => ?_) <;> first | (exfalso; omega) | conv => whnf)
    exact RetK.ff (by rw [← h3, any_end hj])
set_option maxHeartbeats 8000000 in
set_option maxRecDepth 100000 in
theorem whittlerlaw16_AugExit (p : Pg) (n : Int) : SpecP Tryz.prog 10 [.agg p.cells, .int .i64 n] (fun r => r = .tt) := by
  refine SpecP.body I_whittlerlaw16_AugExit tabOK Tryz.func10 rfl Tryz.call10 (by show 2 ≤ _; decide) ?_
  conv => whnf
  cases hfb : fitB p with
  | false =>
    have hno : ¬ wPg p ≤ 20000 := by unfold fitB at hfb; simpa using hfb
    repeat' (first | ((first | (refine CallK.pure (whittlerref3_Fits _) (by repeat' (first | exact ArgP.nil | refine ArgP.cons ?_ ?_ | exact Sub.refl _ | exact Sub.tt rfl | exact Sub.ff rfl)) ?_; rintro _ rfl) | (refine CallK.pure whittlerlaw16_more .nil ?_; rintro _ rfl)); conv => whnf) | (refine Br.dec2 (fun _ => ?_) (fun _ => ?_) <;> first | (exfalso; omega) | conv => whnf))
    all_goals first
      | exact ⟨_, .p (Sub.refl _), rfl⟩
      | (exfalso; simp_all; done)
  | true =>
    have hf : Fit p := by unfold fitB at hfb; unfold Fit; simpa using hfb
    have hfit : wPg p ≤ 20000 := hf
    have hC := whittlerlaw16_small p hf 100
    cases hc : smallB p 100 with
    | false =>
      rw [hc] at hC
      repeat' (first | ((first | (refine CallK.pure (whittlerref3_Fits _) (by repeat' (first | exact ArgP.nil | refine ArgP.cons ?_ ?_ | exact Sub.refl _ | exact Sub.tt rfl | exact Sub.ff rfl)) ?_; rintro _ rfl) | (refine CallK.pure whittlerlaw16_more .nil ?_; rintro _ rfl) | (refine CallK.pure hC (.cons (Sub.refl _) (.cons (Sub.refl _) .nil)) ?_; rintro _ rfl)); conv => whnf) | (refine Br.dec2 (fun _ => ?_) (fun _ => ?_) <;> first | (exfalso; omega) | conv => whnf) | (refine Br.n (fun _ => ?_) (fun _ => ?_) <;> conv => whnf))
      all_goals first
        | contradiction
        | exact ⟨_, .p (Sub.refl _), rfl⟩
    | true =>
      rw [hc] at hC
      have hc : chkB p = true := by unfold smallB at hc; rw [Bool.and_eq_true] at hc; exact hc.1
      have hO := aug_Data p hf (procAtR p n)
      have hM := whittlerref6_Proc p (procAtR p n)
      have hm := (chk_parts hc).1
      repeat' (first | ((first | (intro (_ : _ ≤ 9223372036854775807)) | (refine CallK.pure (whittlerref3_Fits _) (by repeat' (first | exact ArgP.nil | refine ArgP.cons ?_ ?_ | exact Sub.refl _ | exact Sub.tt rfl | exact Sub.ff rfl)) ?_; rintro _ rfl) | (refine And.intro rfl ?_) | (refine CallK.pure whittlerlaw16_more .nil ?_; rintro _ rfl) | (refine CallK.pure hC (.cons (Sub.refl _) (.cons (Sub.refl _) .nil)) ?_; rintro _ rfl) | (refine CallK.pure (whittlerref6_ProcAt p n (fit_procs hc)) (.cons (Sub.refl _) (.cons (Sub.refl _) .nil)) ?_; rintro _ rfl) | (refine CallK.pure hO (.cons (Sub.refl _) (.cons (Sub.refl _) .nil)) ?_; rintro _ rfl) | (refine CallK.pure hM (.cons (Sub.refl _) (.cons (Sub.refl _) .nil)) ?_; rintro _ ⟨q, b, rfl, hq⟩) | (refine CallK.pure (whittlerref3_Flat _) (.cons (Sub.refl _) .nil) ?_; rintro _ rfl)); conv => whnf) | (refine Br.dec2 (fun _ => ?_) (fun _ => ?_) <;> first | (exfalso; omega) | conv => whnf) | (refine Br.n (fun _ => ?_) (fun _ => ?_) <;> conv => whnf))
      all_goals try contradiction
      have K := exit_facts hc (hq hm)
      have hfl := flatR_len q
      have hll := K.len
      generalize dataO p (procAtR p n) = L at K hll ⊢
      generalize flatR q = F at K hfl ⊢
      have hFl : (F.map fun i => AV.agg i.cells).length = F.length := List.length_map _
      refine LoopK.inv tabOK (fun j : Nat => ⟨[(6, .p (eSteps L)), (32, .p (eRIs F)), (33, .p (.int .i64 (F.map fun i => AV.agg i.cells).length)), (34, .p (.int .i64 j))], []⟩) (fun j => j ≤ F.length) (fun j => F.length - j) 0 (Le.of_eq rfl) (Nat.zero_le _) ?_
      intro j h2
      rcases Nat.lt_or_ge j F.length with hj | hj
      · have K1 := K.ex _ (List.getElem_mem hj)
        conv => whnf
        repeat' (first | ((first | (intro (_ : _ ≤ 9223372036854775807)) | (refine DrawK.auto tabOK mixed (by kernel_rfl) ?_) | (refine And.intro rfl ?_) | (refine And.intro ⟨by decide, by decide⟩ ?_) | (refine And.intro ⟨rfl, rfl, by decide⟩ ?_) | (refine BsK.pure (fun x hx => by rcases List.mem_singleton.1 hx with rfl; rfl) rfl ?_) | (refine IdxK.map (by omega) (fun _ => rfl) ?_) | (refine IdxK.xs (by omega) ?_) | (refine IdxK.ss (by omega) ?_) | (refine ByteK.at (by omega) ?_) | (refine Wr.i64 (by omega) (by omega) ?_) | (refine CallK.pure (whittlerref14_From L F[j].s.id [] (by omega)) (.cons (Sub.refl _) (.cons (Sub.refl _) (.cons Sub.nils .nil))) ?_; rintro _ ⟨es, rfl, hes, _⟩) | (refine CallK.pure (whittlerlaw16_has es (-1)) (.cons (Sub.refl _) (.cons (Sub.refl _) .nil)) ?_; rintro _ rfl)); conv => whnf) | (refine Br.dec (fun _ => ?_) (fun _ => ?_) <;> first | (exfalso; omega) | conv => whnf) | (refine Br.dec2 (fun _ => ?_) (fun _ => ?_) <;> first | (exfalso; omega) | conv => whnf) | (refine Br.n (fun _ => ?_) (fun _ => ?_) <;> conv => whnf) | (refine Br.b (fun _ => ?_) (fun _ => ?_) <;> conv => whnf))
        all_goals first
          | exact ⟨j + 1, hj, by omega, Le.of_eq rfl⟩
          | (rename_i hno
             rw [hasI_iff.2 ((hes _).2 K1)] at hno
             cases hno)
      · have K1 := K.en
        conv => whnf
        repeat' (first | ((first | (intro (_ : _ ≤ 9223372036854775807)) | (refine DrawK.auto tabOK mixed (by kernel_rfl) ?_) | (refine And.intro rfl ?_) | (refine And.intro ⟨by decide, by decide⟩ ?_) | (refine And.intro ⟨rfl, rfl, by decide⟩ ?_) | (refine BsK.pure (fun x hx => by rcases List.mem_singleton.1 hx with rfl; rfl) rfl ?_) | (refine IdxK.map (by omega) (fun _ => rfl) ?_) | (refine IdxK.xs (by omega) ?_) | (refine IdxK.ss (by omega) ?_) | (refine ByteK.at (by omega) ?_) | (refine Wr.i64 (by omega) (by omega) ?_) | (refine CallK.pure (whittlerref14_From L 0 [] (by omega)) (.cons (Sub.refl _) (.cons (Sub.refl _) (.cons Sub.nils .nil))) ?_; rintro _ ⟨es, rfl, hes, _⟩) | (refine CallK.pure (whittlerlaw16_has es (-1)) (.cons (Sub.refl _) (.cons (Sub.refl _) .nil)) ?_; rintro _ rfl)); conv => whnf) | (refine Br.dec (fun _ => ?_) (fun _ => ?_) <;> first | (exfalso; omega) | conv => whnf) | (refine Br.dec2 (fun _ => ?_) (fun _ => ?_) <;> first | (exfalso; omega) | conv => whnf) | (refine Br.n (fun _ => ?_) (fun _ => ?_) <;> conv => whnf) | (refine Br.b (fun _ => ?_) (fun _ => ?_) <;> conv => whnf))
        exact ⟨_, .p (Sub.tt' (hasI_iff.2 ((hes _).2 K1))), rfl⟩
end Go.Ab
