/- way, cfg: a procedure's way by its name; where it begins, its steps, what lies behind a statement. -/
import Derived.Test.YtneccajakpeodaaGreatCdpW9
import Derived.Test.YtneccajakpeodaaGreatCdpW13
set_option linter.unusedSimpArgs false
set_option linter.unusedVariables false
set_option maxRecDepth 100000
set_option maxHeartbeats 16000000
namespace Go.Ab
open Go.Proofs
def wayO (p : Pg) (n : Str) : Option Way := bif chkB p then (match p.procs.find? (fun f => f.name == n) with
 | some f => some (newWay p (p.procs.findIdx fun f => f.name == n) f)
 | none => none) else none
def eWay : Option Way → AV
 | some w => .ip w.cells
 | none => .nilp
theorem chk_cnt {p : Pg} (h : chkB p = true) : p.globals.length ≤ 16 ∧ p.procs.length ≤ 16 ∧ cntP p.procs ≤ 200 := mayB_cnt (chk_parts h).1
theorem idxF_no' {p : Pg} {n : Str} (h : ¬ n ∈ procsN p) : idxF (fun f => f.name == n) p.procs = -1 ∧ p.procs.find? (fun f => f.name == n) = none := by
 have h1 : p.procs.any (fun f => f.name == n) = false := by
  rw [List.any_eq_false]
  intro f hf hn
  exact h (List.mem_map.2 ⟨f, hf, by simpa using hn⟩)
 refine ⟨by unfold idxF; rw [h1]; rfl, ?_⟩
 rw [List.find?_eq_none]
 intro f hf
 have := List.any_eq_false.1 h1 f hf
 simpa using this
theorem idx_nat {p : Pg} {n : Str} (h : n ∈ procsN p) : ∃ (k : Nat) (hk : k < p.procs.length), idxF (fun f => f.name == n) p.procs = k ∧ p.procs.findIdx (fun f => f.name == n) = k ∧ p.procs.find? (fun f => f.name == n) = some p.procs[k] ∧ p.procs[k].name = n := by
 obtain ⟨k, hk, h1, h2, h3⟩ := proc_idx h
 refine ⟨k, hk, h1, ?_, h2, h3⟩
 unfold idxF at h1
 cases ha : p.procs.any (fun f => f.name == n) with
 | true => rw [ha, cond_true] at h1; omega
 | false => rw [ha, cond_false] at h1; omega
theorem way_Of (p : Pg) (hf : Fit p) (n : Str) : SpecP Tryz.prog 88 [.agg p.cells, .str n] (fun r => r = eWay (wayO p n)) := by
 refine SpecP.body I_way_Of tabOK Tryz.func88 rfl Tryz.call88 (by show 2 ≤ _; decide) ?_
 conv => whnf
 cases hc : chkB p with
 | false =>
   have e : wayO p n = none := by unfold wayO; rw [hc]; rfl
   have hA : ¬ (allB p).1 = 0 := by unfold chkB at hc; simpa using hc
   rw [e]
   repeat' (first | (refine CallK.pure (check_May p hf) (by repeat' (first | exact ArgP.nil | refine ArgP.cons ?_ ?_ | exact Sub.refl _ | exact Sub.tt rfl | exact Sub.ff rfl | exact Sub.int (by omega))) ?_; rintro _ rfl; conv => whnf) | (refine Br.dec2 (fun _ => ?_) (fun _ => ?_) <;> first | (exfalso; omega) | conv => whnf))
   all_goals first
    | exact RetK.p rfl
    | (exfalso; exact hA (by assumption))
 | true =>
   obtain ⟨hg, hpl, hcn⟩ := chk_cnt hc
   have hA : (allB p).1 = 0 := by unfold chkB at hc; simpa using hc
   have hsp : (sheetOf p).p.procs = p.procs := by rw [(sheet_spec p).1]
   by_cases hn : n ∈ procsN p
   ·obtain ⟨k, hk, h1, h2, h3, h4⟩ := idx_nat hn
    have e : wayO p n = some (newWay p k p.procs[k]) := by unfold wayO; rw [hc, h3, h2]; rfl
    have hkj : p.procs[k]? = some p.procs[k] := by simp
    obtain ⟨w1, _, w3⟩ := chk_way hc hkj
    rw [e]
    repeat' (first | ((first | (refine CallK.pure (check_May p hf) (by repeat' (first | exact ArgP.nil | refine ArgP.cons ?_ ?_ | exact Sub.refl _ | exact Sub.tt rfl | exact Sub.ff rfl | exact Sub.int (by omega))) ?_; rintro _ rfl) | (refine CallK.pure (flat_Sheet_Proc _ _) (by repeat' (first | exact ArgP.nil | refine ArgP.cons ?_ ?_ | exact Sub.refl _ | exact Sub.tt rfl | exact Sub.ff rfl)) ?_; rintro _ rfl) | (refine CallK.pure (flat_New p (by omega) (by omega)) (.cons (Sub.refl _) .nil) ?_; rintro _ rfl) | (refine CallK.pure (way_New p k p.procs[k] hkj (by omega) w1 w3) (.cons (Sub.refl _) (.cons (Sub.int h1) .nil)) ?_; rintro _ rfl)); conv => whnf) | (refine Br.dec (fun _ => ?_) (fun _ => ?_) <;> first | (exfalso; omega) | conv => whnf) | (refine Br.dec2 (fun _ => ?_) (fun _ => ?_) <;> first | (exfalso; omega) | conv => whnf))
    all_goals rw [hsp] at *
    all_goals first
     | exact RetK.p rfl
     | (exfalso; omega)
   ·obtain ⟨h1, h2⟩ := idxF_no' hn
    have e : wayO p n = none := by unfold wayO; rw [hc, h2]; rfl
    rw [e]
    repeat' (first | ((first | (refine CallK.pure (check_May p hf) (by repeat' (first | exact ArgP.nil | refine ArgP.cons ?_ ?_ | exact Sub.refl _ | exact Sub.tt rfl | exact Sub.ff rfl | exact Sub.int (by omega))) ?_; rintro _ rfl) | (refine CallK.pure (flat_Sheet_Proc _ _) (by repeat' (first | exact ArgP.nil | refine ArgP.cons ?_ ?_ | exact Sub.refl _ | exact Sub.tt rfl | exact Sub.ff rfl)) ?_; rintro _ rfl) | (refine CallK.pure (flat_New p (by omega) (by omega)) (.cons (Sub.refl _) .nil) ?_; rintro _ rfl)); conv => whnf) | (refine Br.dec (fun _ => ?_) (fun _ => ?_) <;> first | (exfalso; omega) | conv => whnf) | (refine Br.dec2 (fun _ => ?_) (fun _ => ?_) <;> first | (exfalso; omega) | conv => whnf))
    all_goals rw [hsp] at *
    all_goals first
     | exact RetK.p rfl
     | (exfalso; omega)
theorem wayO_some {p : Pg} {n : Str} {w : Way} (h : wayO p n = some w) : ∃ (k : Nat) (f : Pr), p.procs[k]? = some f ∧ w = newWay p k f ∧ chkB p = true ∧ f.name = n ∧ p.procs.find? (fun f => f.name == n) = some f := by
 unfold wayO at h
 cases hc : chkB p with
 | false => rw [hc] at h; cases h
 | true =>
   rw [hc, cond_true] at h
   by_cases hn : n ∈ procsN p
   ·obtain ⟨k, hk, h1, h2, h3, h4⟩ := idx_nat hn
    rw [h3, h2] at h
    cases h
    exact ⟨k, p.procs[k], by simp, rfl, rfl, h4, h3⟩
   ·rw [(idxF_no' hn).2] at h
    cases h
def fstI (p : Pg) (k : Nat) (f : Pr) : Int := if offN p.procs k < offN p.procs k + cntL f.body then ((offN p.procs k : Nat) + 1 : Int) else -1
def ofR (p : Pg) (n : Str) : List Step := match wayO p n with
 | some w => w.real
 | none => []
open Go.Proofs
def placeI (p : Pg) (j : Nat) (n i : Int) : Int := if i = 0 then 0 else if i = n - 1 then -1 else loI p j + i - 1
theorem way_Way_Place (w : Way) (f : Pr) (hj : w.p.procs[w.j]? = some f) (hc : cntP w.p.procs ≤ 1000) (hn : 0 ≤ w.n ∧ w.n ≤ 5000) (i : Int) (hi : 0 ≤ i ∧ i ≤ 5000) : SpecP Tryz.prog 91 [.ip w.cells, .int .i64 i] (fun r => r = .int .i64 (placeI w.p w.j w.n i)) := by
 refine SpecP.body I_way_Way_Place tabOK Tryz.func91 rfl Tryz.call91 (by show 2 ≤ _; decide) ?_
 conv => whnf
 obtain ⟨_, _, _, hlen, hsp⟩ := sheet_spec w.p
 obtain ⟨hlo, hhi, hle, _⟩ := hsp w.j f hj
 repeat' (first | ((first | (refine DrawK.auto tabOK mixed (by kernel_rfl) ?_) | (refine Wr.i64 (by omega) (by omega) ?_) | (refine IdxK.at rfl (eInts_at hlo) rfl ?_)); conv => whnf) | (refine Br.dec (fun _ => ?_) (fun _ => ?_) <;> first | (exfalso; omega) | conv => whnf))
 all_goals exact RetK.int (by unfold placeI loI; (repeat' split) <;> omega)
def liveL (w : Way) : List Int := ((List.range' 1 (w.n - 2).toNat).filter fun i => w.live.getD i false).map fun (i : Nat) => placeI w.p w.j w.n i
def liveR (p : Pg) (n : Str) : List Int := match wayO p n with
 | some w => liveL w
 | none => []
open Go.Proofs
theorem DrawK.le {P : Program} {T : Tab} {N : Nat} {ops : Array Oper} {info : Info} {id : Nat} {K : St → Prop} {s s' : St} (hle : Le N s s') (h : DrawK P T N info id ops K s') : DrawK P T N info id ops K s := by
 refine ⟨⟨fun σ β a w hr => ?_⟩⟩
 obtain ⟨σ1, β1, hr1, hl1⟩ := hle σ β a w hr
 refine Code.wp_mono (fun e a' w' hk => ?_) (h.ok.ok σ1 β1 a w hr1)
 obtain ⟨σ', β', s2, hk, hr', hl⟩ := hk
 exact ⟨σ', β', s2, hk, hr', hl1.trans hl⟩
def stAt (p : Pg) (id : Int) : Option S := ((sheetOf p).l[(id - 1).toNat]?).map Item.s
def keepE (p : Pg) (some' : List Str) (t : Step) : Bool := decide (t.src = 0) || match stAt p t.src with
 | some s => !(decide (s.kind = 4) && !(some'.any fun x => s.proc == x))
 | none => true
def endsW (w : Way) (f : Pr) (some' : List Str) : Bool :=
 (lstI 0 (reachB (graphE (cntL f.body + 2) ((w.real.filter (keepE w.p some')).map (ixP w.p w.j f w.n))).1 [0])).any fun s => decide (w.n - 1 = s)
open Go.Proofs
def endS (p : Pg) (st : List Str × Bool) (k : Nat) : List Str × Bool := match p.procs[k]? with
 | some f => bif !(st.1.any fun s => f.name == s) && endsW (newWay p k f) f st.1 then (st.1 ++ [f.name], true) else st
 | none => st
def roundE (p : Pg) (out : List Str) : List Str × Bool := (List.range p.procs.length).foldl (endS p) (out, false)
def endsF (p : Pg) : Nat → List Str → List Str
 | 0, out => out
 | k + 1, out => bif (roundE p out).2 then endsF p k (roundE p out).1 else (roundE p out).1
def endsR (p : Pg) : List Str := bif chkB p then sortS (endsF p (p.procs.length + 1) []) else []
open Go.Proofs
def ltSt (a b : Step) : Prop := rankI a.src < rankI b.src ∨ (rankI a.src = rankI b.src ∧ rankI a.dst < rankI b.dst)
def okS1 (s : Step) : Prop := okSt s ∧ s.kind = 1
theorem Step.eq_of {a b : Step} (h1 : a.src = b.src) (h2 : a.dst = b.dst) (h3 : a.kind = b.kind) : a = b := by
 cases a; cases b; simp_all
theorem stepLt_iff {a b : Step} : stepLt a b = true ↔ rankI a.src < rankI b.src ∨ (rankI a.src = rankI b.src ∧ (rankI a.dst < rankI b.dst ∨ (rankI a.dst = rankI b.dst ∧ a.kind < b.kind))) := by
 have h : stepLt a b = decide (stepC a b < 0) := rfl
 rw [h, decide_eq_true_eq]
 unfold stepC
 simp only [orI]
 split
 ·rename_i h1
  rw [cmpI_zero] at h1
  split
  ·rename_i h2
   rw [cmpI_zero] at h2
   split
   ·rename_i h3
    rw [cmpI_zero] at h3
    omega
   ·rw [cmpI_neg]; omega
  ·rename_i h2
   rw [cmpI_zero] at h2
   rw [cmpI_neg]
   omega
 ·rename_i h1
  rw [cmpI_zero] at h1
  rw [cmpI_neg]
  omega
theorem sortSt_sorted (l : List Step) : (sortSt l).Pairwise fun a b => stepLt b a = false := by
 have := List.pairwise_mergeSort (le := fun x y => !stepLt y x) (fun a b c h1 h2 => by
  simp only [Bool.not_eq_true'] at h1 h2 ⊢
  rw [Bool.eq_false_iff, ne_eq, stepLt_iff] at h1 h2 ⊢
  omega) (fun a b => by
  cases h1 : stepLt b a with
  | false => rfl
  | true =>
    have h2 : stepLt a b = false := by
     rw [Bool.eq_false_iff, ne_eq, stepLt_iff]
     rw [stepLt_iff] at h1
     omega
    rw [h2]
    rfl) l
 refine List.Pairwise.imp ?_ this
 intro a b h
 simpa using h
theorem sameStep_iff {a b : Step} (ha : okS1 a) (hb : okS1 b) : sameStep a b = true ↔ a = b := by
 unfold sameStep
 simp only [Bool.and_eq_true, decide_eq_true_eq]
 refine ⟨fun h => Step.eq_of h.1 h.2 (by rw [ha.2, hb.2]), fun h => by rw [h]; exact ⟨rfl, rfl⟩⟩
theorem ltSt_of {a b : Step} (ha : okS1 a) (hb : okS1 b) (h : stepLt b a = false) (hne : a ≠ b) : ltSt a b := by
 rw [Bool.eq_false_iff, ne_eq, stepLt_iff] at h
 unfold ltSt
 by_cases h1 : rankI a.src = rankI b.src
 ·by_cases h2 : rankI a.dst = rankI b.dst
  ·exact absurd (Step.eq_of (rankI_inj ha.1.1 hb.1.1 h1) (rankI_inj ha.1.2 hb.1.2 h2) (by rw [ha.2, hb.2])) hne
  ·omega
 ·omega
theorem ltSt_trans {a b c : Step} (h : ltSt a b) (h' : ltSt b c) : ltSt a c := by unfold ltSt at *; omega
theorem ltSt_irrefl {a : Step} (h : ltSt a a) : False := by unfold ltSt at h; omega
theorem compFrom_spec : ∀ (l : List Step) (a : Step), okS1 a → (∀ s ∈ l, okS1 s) → (a :: l).Pairwise (fun a b => stepLt b a = false) → (a :: compFrom a l).Pairwise ltSt ∧ ∀ s, s ∈ a :: compFrom a l ↔ s ∈ a :: l
 | [], a, _, _, _ => ⟨by simp [compFrom], by simp [compFrom]⟩
 | b :: r, a, ha, hl, h => by
   have hb := hl b List.mem_cons_self
   have hr : ∀ s ∈ r, okS1 s := fun s hs => hl s (List.mem_cons_of_mem _ hs)
   rw [List.pairwise_cons] at h
   obtain ⟨h1, h2⟩ := h
   obtain ⟨i1, i2⟩ := compFrom_spec r b hb hr h2
   rw [compFrom]
   cases hs : sameStep b a with
   | true =>
     obtain rfl := (sameStep_iff hb ha).1 hs
     rw [cond_true]
     exact ⟨i1, fun s => by rw [i2]; simp⟩
   | false =>
     rw [cond_false]
     have hne : a ≠ b := fun e => by
      rw [(sameStep_iff hb ha).2 e.symm] at hs
      cases hs
     have hlt := ltSt_of ha hb (h1 b List.mem_cons_self) hne
     refine ⟨?_, fun s => by rw [List.mem_cons, i2, ← List.mem_cons (a := s) (b := a)]⟩
     rw [List.pairwise_cons]
     refine ⟨fun s hsm => ?_, i1⟩
     rcases List.mem_cons.1 hsm with rfl | hsm
     ·exact hlt
     ·exact ltSt_trans hlt ((List.pairwise_cons.1 i1).1 s hsm)
theorem normS_spec {l : List Step} (hok : ∀ s ∈ l, okS1 s) : (normS l).Pairwise ltSt ∧ ∀ s, s ∈ normS l ↔ s ∈ l := by
 have hp : ∀ s, s ∈ sortSt l ↔ s ∈ l := fun s => (sortSt_perm l).mem_iff
 have hs := sortSt_sorted l
 unfold normS
 cases hq : sortSt l with
 | nil =>
   rw [hq] at hp
   exact ⟨by simp [compF], fun s => by rw [← hp]; simp [compF]⟩
 | cons a r =>
   rw [hq] at hp hs
   have hok' : ∀ s ∈ a :: r, okS1 s := fun s h => hok s ((hp s).1 h)
   obtain ⟨h1, h2⟩ := compFrom_spec r a (hok' a List.mem_cons_self) (fun s h => hok' s (List.mem_cons_of_mem _ h)) hs
   exact ⟨h1, fun s => by rw [compF, h2, hp]⟩
theorem sorted_ext : ∀ {l m : List Step}, l.Pairwise ltSt → m.Pairwise ltSt → (∀ s, s ∈ l ↔ s ∈ m) → l = m
 | [], [], _, _, _ => rfl
 | [], b :: m, _, _, h => by have := (h b).2 List.mem_cons_self; cases this
 | a :: l, [], _, _, h => by have := (h a).1 List.mem_cons_self; cases this
 | a :: l, b :: m, hl, hm, h => by
   rw [List.pairwise_cons] at hl hm
   have hab : a = b := by
    rcases List.mem_cons.1 ((h a).1 List.mem_cons_self) with e | ha
    ·exact e
    ·rcases List.mem_cons.1 ((h b).2 List.mem_cons_self) with e | hb
     ·exact e.symm
     ·exact (ltSt_irrefl (ltSt_trans (hl.1 b hb) (hm.1 a ha))).elim
   subst hab
   congr 1
   refine sorted_ext hl.2 hm.2 fun s => ⟨fun hs => ?_, fun hs => ?_⟩
   ·rcases List.mem_cons.1 ((h s).1 (List.mem_cons_of_mem _ hs)) with rfl | h'
    ·exact (ltSt_irrefl (hl.1 _ hs)).elim
    ·exact h'
   ·rcases List.mem_cons.1 ((h s).2 (List.mem_cons_of_mem _ hs)) with rfl | h'
    ·exact (ltSt_irrefl (hm.1 _ hs)).elim
    ·exact h'
theorem stepsRaw_ok1 {p : Pg} (h : chkB p = true) {j : Nat} {f : Pr} (hj : p.procs[j]? = some f) : ∀ s ∈ stepsRaw p j f, okS1 s := by
 obtain ⟨_, _, h3⟩ := chk_way h hj
 intro s hs
 refine ⟨h3 s hs, ?_⟩
 unfold stepsRaw at hs
 rcases List.mem_cons.1 hs with rfl | hs
 ·rfl
 ·obtain ⟨it, _, hz⟩ := List.mem_flatMap.1 hs
  obtain ⟨y, _, rfl⟩ := List.mem_map.1 hz
  rfl
theorem real_spec {p : Pg} (h : chkB p = true) {j : Nat} {f : Pr} (hj : p.procs[j]? = some f) : (newWay p j f).real.Pairwise ltSt ∧ ∀ s, s ∈ (newWay p j f).real ↔ s ∈ stepsRaw p j f := normS_spec (stepsRaw_ok1 h hj)
theorem raw_src0 {p : Pg} (h : chkB p = true) {j : Nat} {f : Pr} (hj : p.procs[j]? = some f) {s : Step} (hs : s ∈ stepsRaw p j f) : s = ⟨0, fstI p j f, 1⟩ ∨ (1 ≤ s.src ∧ s.src ≤ 9223372036854775806) := by
 obtain ⟨_, _, hcn⟩ := chk_cnt h
 obtain ⟨_, _, _, hlen, hsp⟩ := sheet_spec p
 obtain ⟨_, _, hle, _⟩ := hsp j f hj
 unfold stepsRaw at hs
 rcases List.mem_cons.1 hs with rfl | hs
 ·exact .inl rfl
 ·obtain ⟨it, hit, hz⟩ := List.mem_flatMap.1 hs
  obtain ⟨y, _, rfl⟩ := List.mem_map.1 hz
  have := body_id (chk_parts h).1 hj (its_s hit)
  refine .inr ?_
  simp only
  omega
theorem real_head {p : Pg} (h : chkB p = true) {j : Nat} {f : Pr} (hj : p.procs[j]? = some f) : ∃ r, (newWay p j f).real = ⟨0, fstI p j f, 1⟩ :: r ∧ ∀ s ∈ r, s.src ≠ 0 := by
 obtain ⟨h1, h2⟩ := real_spec h hj
 have hm : (⟨0, fstI p j f, 1⟩ : Step) ∈ (newWay p j f).real := (h2 _).2 (by unfold stepsRaw; exact List.mem_cons_self)
 generalize (newWay p j f).real = L at h1 h2 hm
 cases L with
 | nil => cases hm
 | cons a r =>
   rw [List.pairwise_cons] at h1
   have r0 : ∀ s : Step, 1 ≤ s.src ∧ s.src ≤ 9223372036854775806 → 0 < rankI s.src := fun s hs => by unfold rankI; split <;> omega
   have ha : a = ⟨0, fstI p j f, 1⟩ := by
    rcases raw_src0 h hj ((h2 a).1 List.mem_cons_self) with e | e
    ·exact e
    ·rcases List.mem_cons.1 hm with e' | hm
     ·exact e'.symm
     ·have h3 := h1.1 _ hm
      have h4 := r0 a e
      have h5 : rankI (0 : Int) = 0 := rfl
      unfold ltSt at h3
      simp only at h3
      omega
   subst ha
   refine ⟨r, rfl, fun s hs h0 => ?_⟩
   rcases raw_src0 h hj ((h2 s).1 (List.mem_cons_of_mem _ hs)) with e | e
   ·subst e
    exact ltSt_irrefl (h1.1 _ hs)
   ·omega
theorem fst_head {p : Pg} (h : chkB p = true) {j : Nat} {f : Pr} (hj : p.procs[j]? = some f) : fstI p j f = headI f.body (-1) := by
 have h1 := may_ids (chk_parts h).1 hj
 unfold fstI
 cases hb : f.body with
 | nil => rw [cntL, if_neg (by omega)]; rfl
 | cons t r =>
   rw [hb, flL, flS_eq] at h1
   have h3 : 1 ≤ cntL (t :: r) := by rw [cntL, cntS_eq]; omega
   rw [if_pos (by omega)]
   have h4 := congrArg (fun l => l[0]?) h1
   simp only [List.cons_append, List.map_cons] at h4
   unfold idsN at h4
   rw [List.getElem?_map, List.getElem?_range' (by omega)] at h4
   simp at h4
   show _ = t.id
   omega
open Go.Proofs
open Go.Proofs
def okForm (x : X) : Bool := decide (kidsN x.op = (x.kids.length : Int)) && (decide (x.op = 1) || decide (x.n = 0)) && decide (0 ≤ x.n) && (decide (x.op = 2) == !(x.name == [])) && ((x.name == []) || isName x.name)
def formF : Nat → X → Bool
 | 0, _ => true
 | k + 1, x => okForm x && x.kids.all (formF k)
open Go.Proofs
def maxN : List Nat → Nat
 | [] => 0
 | a :: r => max a (maxN r)
def deepI : Nat → X → Nat
 | 0, _ => 1
 | m + 1, x => 1 + maxN (x.kids.map (deepI m))
theorem maxN_le {l : List Nat} {m : Nat} (h : ∀ a ∈ l, a ≤ m) : maxN l ≤ m := by
 induction l with
 | nil => exact Nat.zero_le _
 | cons a r ih =>
   have := ih fun b hb => h b (List.mem_cons_of_mem _ hb)
   have := h a List.mem_cons_self
   rw [maxN]
   omega
def mayXR (x : X) : Bool := decide (deepI 20 x ≤ 20) && formF (wX x + 1) x
theorem deepB_form : ∀ (n : Nat) (x : X), deepB n x = true → deepI n x ≤ n ∧ ∀ k, formF k x = true
 | 0, x, h => by rw [deepB] at h; cases h
 | n + 1, x, h => by
   rw [deepB] at h
   simp only [Bool.and_eq_true, decide_eq_true_eq] at h
   obtain ⟨h1, h2⟩ := h
   have hkids : (∀ y ∈ x.kids, deepB n y = true) ∧ okForm x = true := by
    split at h2
    ·rename_i ho
     simp only [Bool.and_eq_true, decide_eq_true_eq] at h2
     have hk0 : x.kids = [] := by
      rw [ho] at h1
      have : kidsN 1 = 0 := by decide
      rw [this] at h1
      exact List.length_eq_zero_iff.1 (by omega)
     refine ⟨by rw [hk0]; simp, ?_⟩
     unfold okForm
     rw [h1, ho, h2.2]
     simp [h2.1]
    split at h2
    ·rename_i ho
     simp only [Bool.and_eq_true, decide_eq_true_eq] at h2
     have hk0 : x.kids = [] := by
      rw [ho] at h1
      have : kidsN 2 = 0 := by decide
      rw [this] at h1
      exact List.length_eq_zero_iff.1 (by omega)
     have hne : (x.name == []) = false := by
      cases hq : x.name with
      | nil =>
        have := h2.2
        rw [hq] at this
        unfold isName at this
        rw [dif_neg (by simp)] at this
        cases this
      | cons a r => rfl
     refine ⟨by rw [hk0]; simp, ?_⟩
     unfold okForm
     rw [h1, ho, h2.2, hne, h2.1]
     simp
    ·rename_i ho1 ho2
     simp only [Bool.and_eq_true, decide_eq_true_eq, List.all_eq_true] at h2
     refine ⟨h2.2, ?_⟩
     unfold okForm
     rw [h1, h2.1.1, h2.1.2]
     simp [ho1, ho2]
   refine ⟨?_, fun k => ?_⟩
   ·rw [deepI]
    have : maxN (x.kids.map (deepI n)) ≤ n := maxN_le fun a ha => by
     obtain ⟨y, hy, rfl⟩ := List.mem_map.1 ha
     exact (deepB_form n y (hkids.1 y hy)).1
    omega
   ·cases k with
    | zero => rfl
    | succ k =>
      rw [formF, hkids.2, Bool.true_and, List.all_eq_true]
      exact fun y hy => (deepB_form n y (hkids.1 y hy)).2 k
theorem mayX_R {x : X} (h : mayX x = true) : mayXR x = true := by
 obtain ⟨h1, h2⟩ := deepB_form 20 x h
 unfold mayXR
 rw [decide_eq_true h1, h2]
 rfl
open Go.Proofs
def argR (a : Arg) : Bool := bif a.ref then isName a.name && noneB a.x else (a.name == []) && mayXR a.x
theorem handB_R {a : Arg} (h : handB a = true) : argR a = true := by
 unfold handB namedB worthB at h
 unfold argR
 cases hr : a.ref with
 | true =>
   rw [hr] at h
   simpa using h
 | false =>
   rw [hr] at h
   simp only [cond_false, Bool.not_false, cond_true, Bool.and_eq_true] at h
   rw [h.1, mayX_R h.2]
   rfl
open Go.Proofs
def oneOk (s : S) : Bool := fieldsB s && namesB s.labels
def hasXB (s : S) : Bool := decide (s.kind = 1) || decide (s.kind = 3) || decide (s.kind = 5) || decide (s.kind = 6) || (decide (s.kind = 9) && s.has)
structure OneF (s : S) : Prop where
 labels : namesB s.labels = true
 lo : 1 ≤ s.kind
 hi : s.kind ≤ 10
 x : hasXB s = true → mayXR s.x = true
 nox : hasXB s = false → noneB s.x = true
 has : s.has = true → s.kind = 9
 name : s.kind = 1 ∨ s.kind = 2 ∨ s.kind = 10 → isName s.name = true
 noname : ¬ (s.kind = 1 ∨ s.kind = 2 ∨ s.kind = 10) → (s.name == []) = true ∨ (s.kind = 4 ∧ isName s.name = true)
 proc : s.kind = 4 → isName s.proc = true
 noproc : s.kind ≠ 4 → (s.proc == []) = true
 args : s.args.all argR = true
 noargs : s.kind ≠ 4 → s.args.length = 0
 thn : s.thn.length = 0 ∨ s.kind = 5 ∨ s.kind = 6
 els : s.els.length = 0 ∨ s.kind = 5
theorem one_facts {s : S} (h : oneOk s = true) : OneF s := by
 unfold oneOk at h
 rw [Bool.and_eq_true] at h
 obtain ⟨h, hlab⟩ := h
 have hargs : s.args.all handB = true → s.args.all argR = true := fun h => by
  rw [List.all_eq_true] at h ⊢
  exact fun a ha => handB_R (h a ha)
 have key : ∀ (k : Int) (f : Flds), s.kind = k → fldsOf s.kind s.has (s.name == []) = some f → f.has = false ∧ (f.thn = false → s.thn.length = 0) ∧ (f.els = false → s.els.length = 0) ∧ (s.kind ≠ 4 → s.args.length = 0) ∧ namedB s.name f.name = true ∧ namedB s.proc f.proc = true ∧ worthB s.x f.x = true ∧ s.args.all argR = true := fun k f hk hf => by
  rw [fieldsB_of hf] at h
  simp only [Bool.and_eq_true, Bool.not_eq_true', Bool.or_eq_false_iff, Bool.and_eq_false_iff, Bool.not_eq_false', decide_eq_false_iff_not, decide_eq_true_eq] at h
  obtain ⟨⟨⟨⟨⟨⟨⟨h1, h2⟩, h3⟩, h4⟩, h5⟩, h6⟩, h7⟩, h8⟩ := h
  refine ⟨h1, fun hq => ?_, fun hq => ?_, fun hq => ?_, h5, h6, h7, hargs h8⟩
  ·rcases h2 with h2 | h2
   ·rw [hq] at h2; cases h2
   ·omega
  ·rcases h3 with h3 | h3
   ·rw [hq] at h3; cases h3
   ·omega
  ·rcases h4 with h4 | h4
   ·exact absurd h4 hq
   ·omega
 have hkind : s.kind = 1 ∨ s.kind = 2 ∨ s.kind = 3 ∨ s.kind = 4 ∨ s.kind = 5 ∨ s.kind = 6 ∨ s.kind = 7 ∨ s.kind = 8 ∨ s.kind = 9 ∨ s.kind = 10 := by
  unfold fieldsB at h
  split at h
  ·cases h
  ·rename_i f hf
   unfold fldsOf at hf
   (repeat' split at hf) <;> first | (cases hf; done) | omega
 have fin : ∀ (k : Int) (f : Flds), s.kind = k → fldsOf s.kind s.has (s.name == []) = some f → (1 ≤ k ∧ k ≤ 10) → f.x = hasXB s → (s.has = true → f.has = true ∨ k = 9) → ((k = 1 ∨ k = 2 ∨ k = 10) → f.name = true) → (¬ (k = 1 ∨ k = 2 ∨ k = 10) → f.name = false ∨ (k = 4 ∧ f.name = !(s.name == []))) → f.proc = decide (k = 4) → (f.thn = true → k = 5 ∨ k = 6) → (f.els = true → k = 5) → OneF s := fun k f hk hf hkk hfx hfh hfn hfnn hfp hft hfe => by
  obtain ⟨h1, h2, h3, h4, h5, h6, h7, h8⟩ := key k f hk hf
  unfold worthB at h7
  refine ⟨hlab, by omega, by omega, fun hq => ?_, fun hq => ?_, fun hq => ?_, fun hq => ?_, fun hq => ?_, fun hq => ?_, fun hq => ?_, h8, h4, ?_, ?_⟩
  ·rw [hfx, hq] at h7; exact mayX_R h7
  ·rw [hfx, hq] at h7; exact h7
  ·rcases hfh hq with h9 | h9
   ·rw [h1] at h9; cases h9
   ·omega
  ·rw [hfn (by omega)] at h5; exact h5
  ·rcases hfnn (by omega) with h9 | ⟨h9, h10⟩
   ·rw [h9] at h5; exact .inl h5
   ·cases hq2 : s.name == [] with
    | true => exact .inl rfl
    | false =>
      rw [h10, hq2] at h5
      exact .inr ⟨by omega, h5⟩
  ·rw [hfp, decide_eq_true (by omega)] at h6; exact h6
  ·rw [hfp, decide_eq_false (by omega)] at h6; exact h6
  ·cases ht : f.thn with
   | true => exact .inr (by have := hft ht; omega)
   | false => exact .inl (h2 ht)
  ·cases he : f.els with
   | true => exact .inr (by have := hfe he; omega)
   | false => exact .inl (h3 he)
 rcases hkind with hk | hk | hk | hk | hk | hk | hk | hk | hk | hk
 ·exact fin 1 ⟨true, false, true, s.has, false, false⟩ hk (by rw [hk]; rfl) (by omega) (by unfold hasXB; rw [hk]; rfl) (fun h => .inl h) (fun _ => rfl) (fun h => absurd (by omega) h) rfl (fun h => by cases h) (fun h => by cases h)
 ·exact fin 2 ⟨true, false, false, s.has, false, false⟩ hk (by rw [hk]; rfl) (by omega) (by unfold hasXB; rw [hk]; rfl) (fun h => .inl h) (fun _ => rfl) (fun h => absurd (by omega) h) rfl (fun h => by cases h) (fun h => by cases h)
 ·exact fin 3 ⟨false, false, true, s.has, false, false⟩ hk (by rw [hk]; rfl) (by omega) (by unfold hasXB; rw [hk]; rfl) (fun h => .inl h) (fun h => by omega) (fun _ => .inl rfl) rfl (fun h => by cases h) (fun h => by cases h)
 ·exact fin 4 ⟨!(s.name == []), true, false, s.has, false, false⟩ hk (by rw [hk]; rfl) (by omega) (by unfold hasXB; rw [hk]; rfl) (fun h => .inl h) (fun h => by omega) (fun _ => .inr ⟨rfl, rfl⟩) rfl (fun h => by cases h) (fun h => by cases h)
 ·exact fin 5 ⟨false, false, true, s.has, true, true⟩ hk (by rw [hk]; rfl) (by omega) (by unfold hasXB; rw [hk]; rfl) (fun h => .inl h) (fun h => by omega) (fun _ => .inl rfl) rfl (fun _ => .inl rfl) (fun _ => rfl)
 ·exact fin 6 ⟨false, false, true, s.has, true, false⟩ hk (by rw [hk]; rfl) (by omega) (by unfold hasXB; rw [hk]; rfl) (fun h => .inl h) (fun h => by omega) (fun _ => .inl rfl) rfl (fun _ => .inr rfl) (fun h => by cases h)
 ·exact fin 7 ⟨false, false, false, s.has, false, false⟩ hk (by rw [hk]; rfl) (by omega) (by unfold hasXB; rw [hk]; rfl) (fun h => .inl h) (fun h => by omega) (fun _ => .inl rfl) rfl (fun h => by cases h) (fun h => by cases h)
 ·exact fin 8 ⟨false, false, false, s.has, false, false⟩ hk (by rw [hk]; rfl) (by omega) (by unfold hasXB; rw [hk]; rfl) (fun h => .inl h) (fun h => by omega) (fun _ => .inl rfl) rfl (fun h => by cases h) (fun h => by cases h)
 ·exact fin 9 ⟨false, false, s.has, false, false, false⟩ hk (by rw [hk]; rfl) (by omega) (by unfold hasXB; rw [hk]; cases s.has <;> rfl) (fun _ => .inr rfl) (fun h => by omega) (fun _ => .inl rfl) rfl (fun h => by cases h) (fun h => by cases h)
 ·exact fin 10 ⟨true, false, false, s.has, false, false⟩ hk (by rw [hk]; rfl) (by omega) (by unfold hasXB; rw [hk]; rfl) (fun h => .inl h) (fun _ => rfl) (fun h => absurd (by omega) h) rfl (fun h => by cases h) (fun h => by cases h)
open Go.Proofs
structure RI where
 s : S
 deep : Int
 inn : Int
 els : Bool
def RI.cells (i : RI) : List AV := i.s.cells ++ [.int .i64 i.deep, .int .i64 i.inn, .bool i.els]
def eRIs (l : List RI) : AV := .sl (l.map fun i => .agg i.cells)
def flF : Nat → Int → Bool → List S → List RI → List RI
 | 0, i, e, l, out => l.foldl (fun o s => if o.length ≤ 200 then o ++ [⟨s, 13, i, e⟩] else o) out
 | m + 1, i, e, l, out => l.foldl (fun o s => if o.length ≤ 200 then flF m s.id true s.els (flF m s.id false s.thn (o ++ [⟨s, 13 - ((m + 1 : Nat) : Int), i, e⟩])) else o) out
theorem flF_len : ∀ (m : Nat) (i : Int) (e : Bool) (l : List S) (out : List RI), out.length ≤ (flF m i e l out).length ∧ (flF m i e l out).length ≤ max out.length 201
 | 0, i, e, [], out => by show out.length ≤ out.length ∧ _; exact ⟨Nat.le_refl _, Nat.le_max_left _ _⟩
 | m + 1, i, e, [], out => by show out.length ≤ out.length ∧ _; exact ⟨Nat.le_refl _, Nat.le_max_left _ _⟩
 | 0, i, e, s :: r, out => by
   have h := flF_len 0 i e r (if out.length ≤ 200 then out ++ [⟨s, 13, i, e⟩] else out)
   show out.length ≤ (flF 0 i e r (if out.length ≤ 200 then out ++ [⟨s, 13, i, e⟩] else out)).length ∧ (flF 0 i e r (if out.length ≤ 200 then out ++ [⟨s, 13, i, e⟩] else out)).length ≤ _
   split at h
   ·rw [if_pos (by assumption)]
    simp only [List.length_append, List.length_singleton] at h
    omega
   ·rw [if_neg (by assumption)]
    exact h
 | m + 1, i, e, s :: r, out => by
   have h := flF_len (m + 1) i e r (if out.length ≤ 200 then flF m s.id true s.els (flF m s.id false s.thn (out ++ [⟨s, 13 - ((m + 1 : Nat) : Int), i, e⟩])) else out)
   show out.length ≤ (flF (m + 1) i e r (if out.length ≤ 200 then flF m s.id true s.els (flF m s.id false s.thn (out ++ [⟨s, 13 - ((m + 1 : Nat) : Int), i, e⟩])) else out)).length ∧ (flF (m + 1) i e r (if out.length ≤ 200 then flF m s.id true s.els (flF m s.id false s.thn (out ++ [⟨s, 13 - ((m + 1 : Nat) : Int), i, e⟩])) else out)).length ≤ _
   split at h
   ·rw [if_pos (by assumption)]
    have h1 := flF_len m s.id false s.thn (out ++ [⟨s, 13 - ((m + 1 : Nat) : Int), i, e⟩])
    have h2 := flF_len m s.id true s.els (flF m s.id false s.thn (out ++ [⟨s, 13 - ((m + 1 : Nat) : Int), i, e⟩]))
    simp only [List.length_append, List.length_singleton] at h1
    omega
   ·rw [if_neg (by assumption)]
    exact h
mutual
def fuS (d i : Int) (e : Bool) : S → List RI
 | .mk id kind labels name proc x has args thn els => ⟨.mk id kind labels name proc x has args thn els, d, i, e⟩ :: (fuL (d + 1) id false thn ++ fuL (d + 1) id true els)
def fuL (d i : Int) (e : Bool) : List S → List RI
 | [] => []
 | t :: r => fuS d i e t ++ fuL d i e r
end
theorem fuS_eq (d i : Int) (e : Bool) (t : S) : fuS d i e t = ⟨t, d, i, e⟩ :: (fuL (d + 1) t.id false t.thn ++ fuL (d + 1) t.id true t.els) := by
 cases t
 rw [fuS]
 rfl
mutual
theorem fuS_s (d i : Int) (e : Bool) : ∀ t : S, (fuS d i e t).map RI.s = flS t
 | .mk id kind labels name proc x has args thn els => by
   rw [fuS, flS, List.map_cons, List.map_append, fuL_s _ _ _ thn, fuL_s _ _ _ els]
theorem fuL_s (d i : Int) (e : Bool) : ∀ l : List S, (fuL d i e l).map RI.s = flL l
 | [] => by rw [fuL, flL]; rfl
 | t :: r => by rw [fuL, flL, List.map_append, fuS_s _ _ _ t, fuL_s _ _ _ r]
end
theorem fuL_len (d i : Int) (e : Bool) (l : List S) : (fuL d i e l).length = cntL l := by
 rw [← flL_len, ← fuL_s d i e l, List.length_map]
theorem rowS_parts {nest seen m : Int} {s : S} (h : rowS nest seen s = some m) : oneOk s = true ∧ s.id = seen + 1 ∧ ∃ m1, rowL (nest + 1) (seen + 1) s.thn = some m1 ∧ rowL (nest + 1) m1 s.els = some m := by
 rw [rowS_eq] at h
 split at h
 ·cases h
 split at h
 ·cases h
 rename_i hid
 cases hn : namesB s.labels <;> rw [hn] at h
 ·cases h
 cases hf : fieldsB s <;> rw [hf] at h
 ·cases h
 simp only [cond_true] at h
 split at h
 ·rename_i m1 h1
  exact ⟨by unfold oneOk; rw [hn, hf]; rfl, by omega, m1, h1, h⟩
 ·cases h
theorem rowL_parts {nest seen m : Int} {s : S} {r : List S} (h : rowL nest seen (s :: r) = some m) : nest ≤ 12 ∧ ∃ m1, rowS nest seen s = some m1 ∧ rowL nest m1 r = some m := by
 rw [rowL] at h
 split at h
 ·cases h
 rename_i h0
 split at h
 ·rename_i m1 h1
  exact ⟨by omega, m1, h1, h⟩
 ·cases h
theorem flF_eq : ∀ (k : Nat) (l : List S) (i : Int) (e : Bool) (out : List RI) (seen m : Int), rowL (13 - (k : Int)) seen l = some m → out.length + cntL l ≤ 200 → flF k i e l out = out ++ fuL (13 - (k : Int)) i e l := by
 intro k
 induction k with
 | zero =>
   intro l i e out seen m h hl
   cases l with
   | nil => rw [fuL, List.append_nil]; rfl
   | cons s r =>
     have := (rowL_parts h).1
     simp at this
 | succ k ih =>
   intro l
   induction l with
   | nil => intro i e out seen m h hl; rw [fuL, List.append_nil]; rfl
   | cons s r ihr =>
     intro i e out seen m h hl
     obtain ⟨h1, m1, h2, h3⟩ := rowL_parts h
     obtain ⟨_, _, m2, h4, h5⟩ := rowS_parts h2
     have ed : (13 : Int) - ((k + 1 : Nat) : Int) + 1 = 13 - (k : Int) := by omega
     rw [ed] at h4 h5
     rw [cntL, cntS_eq] at hl
     show flF (k + 1) i e r (if out.length ≤ 200 then flF k s.id true s.els (flF k s.id false s.thn (out ++ [⟨s, 13 - ((k + 1 : Nat) : Int), i, e⟩])) else out) = _
     rw [if_pos (by omega), ih s.thn s.id false _ _ _ h4 (by simp; omega), ih s.els s.id true _ _ _ h5 (by simp [fuL_len]; omega), ihr i e _ _ _ h3 (by simp [fuL_len]; omega), fuL, fuS_eq, ed]
     simp
def flatR (f : Pr) : List RI := flF 12 0 false f.body []
def flatU (f : Pr) : List RI := fuL 1 0 false f.body
theorem mayPrs_rows : ∀ (l : List Pr) {n m : Int}, mayPrs n l = some m → ∀ f ∈ l, mayPr f = true ∧ ∃ a b, rowL 1 a f.body = some b
 | [], _, _, _, f, hf => by cases hf
 | g :: r, n, m, h, f, hf => by
   rw [mayPrs] at h
   cases hm : mayPr g <;> rw [hm] at h
   ·cases h
   simp only [cond_true] at h
   split at h
   ·rename_i m1 h1
    rcases List.mem_cons.1 hf with rfl | hf
    ·exact ⟨hm, _, _, h1⟩
    ·exact mayPrs_rows r h f hf
   ·cases h
theorem mayB_parts {p : Pg} (h : mayB p = true) : p.globals.length ≤ 16 ∧ p.procs.length ≤ 16 ∧ namesB p.globals = true ∧ ∀ f ∈ p.procs, mayPr f = true ∧ ∃ a b, rowL 1 a f.body = some b := by
 unfold mayB at h
 simp only [Bool.and_eq_true, decide_eq_true_eq] at h
 obtain ⟨⟨⟨h1, h2⟩, h3⟩, h4⟩ := h
 refine ⟨h1, h2, h3, ?_⟩
 cases hm : mayPrs 0 p.procs with
 | none => rw [hm] at h4; cases h4
 | some m => exact mayPrs_rows p.procs hm
theorem cntP_mem : ∀ (l : List Pr) (f : Pr), f ∈ l → cntL f.body ≤ cntP l
 | [], f, h => by cases h
 | g :: r, f, h => by
   rw [cntP]
   rcases List.mem_cons.1 h with rfl | h
   ·omega
   ·have := cntP_mem r f h
    omega
theorem flatR_eq {p : Pg} (h : mayB p = true) {f : Pr} (hf : f ∈ p.procs) : flatR f = flatU f := by
 obtain ⟨_, _, _, h4⟩ := mayB_parts h
 obtain ⟨_, a, b, h5⟩ := h4 f hf
 have h6 := (mayB_cnt h).2.2
 have h7 := cntP_mem _ f hf
 have := flF_eq 12 f.body 0 false [] a b h5 (by simp; omega)
 simpa [flatR, flatU] using this
open Go.Proofs
def riH (t : Nat) (out : List RI) : Heap := [(2000, .own t 16 (out.map fun i => .agg i.cells))]
theorem riH_app {t : Nat} {out : List RI} {x : RI} : riH t (out ++ [x]) = [(2000, .own t 16 ((out.map fun i => .agg i.cells) ++ [.agg x.cells]))] := by simp [riH]
theorem ri_len (l : List RI) : (l.map fun i => AV.agg i.cells).length = l.length := List.length_map _
theorem flF0_yes {i : Int} {e : Bool} {l : List S} {j : Nat} {o : List RI} (hj : j < l.length) (h : o.length ≤ 200) : flF 0 i e (l.drop j) o = flF 0 i e (l.drop (j + 1)) (o ++ [⟨l[j], 13, i, e⟩]) := by
 rw [drop_cons hj]
 show flF 0 i e (l.drop (j + 1)) (if o.length ≤ 200 then _ else _) = _
 rw [if_pos h]
theorem flF_yes {m : Nat} {i : Int} {e : Bool} {l : List S} {j : Nat} {o : List RI} (hj : j < l.length) (h : o.length ≤ 200) : flF (m + 1) i e (l.drop j) o = flF (m + 1) i e (l.drop (j + 1)) (flF m l[j].id true l[j].els (flF m l[j].id false l[j].thn (o ++ [RI.mk l[j] (13 - ((m + 1 : Nat) : Int)) i e]))) := by
 rw [drop_cons hj]
 show flF (m + 1) i e (l.drop (j + 1)) (if o.length ≤ 200 then _ else _) = _
 rw [if_pos h]
theorem flF_full : ∀ (m : Nat) {i : Int} {e : Bool} {l : List S} {o : List RI}, ¬ o.length ≤ 200 → flF m i e l o = o
 | 0, i, e, [], o, _ => rfl
 | m + 1, i, e, [], o, _ => rfl
 | 0, i, e, s :: r, o, h => by
   show flF 0 i e r (if o.length ≤ 200 then _ else o) = o
   rw [if_neg h]
   exact flF_full 0 h
 | m + 1, i, e, s :: r, o, h => by
   show flF (m + 1) i e r (if o.length ≤ 200 then _ else o) = o
   rw [if_neg h]
   exact flF_full (m + 1) h
theorem flF_nil (m : Nat) {i : Int} {e : Bool} {o : List RI} : flF m i e [] o = o := by cases m <;> rfl
theorem whittlerref3_flat : ∀ (m : Nat) (_ : m ≤ 12) (l : List S) (i : Int) (e : Bool) (out : List RI),
  SpecH Tryz.prog 155 [.p (eSs l), .p (.int .i64 (13 - (m : Int))), .p (.int .i64 i), .p (.bool e), .hd 2000 0 out.length] (riH 103 out)
   (fun r H => r = .hd 2000 0 (flF m i e l out).length ∧ H = riH 103 (flF m i e l out)) := by
 intro m
 induction m with
 | zero =>
   intro _ l i e out
   have hll := S.avs_len l
   refine SpecH.body I_whittlerref3_flat tabOK Tryz.func155 rfl Tryz.call155 (by show 5 ≤ _; decide) ?_
   conv => whnf
   skip
   refine LoopK.inv tabOK (fun x : Nat × List RI => ⟨[(0, .p (eSs l)), (1, .p (.int .i64 (13 - ((0 : Nat) : Int)))), (2, .p (.int .i64 i)), (3, .p (.bool e)), (4, .hd 2000 0 x.2.length), (11, .p (.int .i64 x.1))], riH 103 x.2⟩) (fun x => x.1 ≤ l.length ∧ flF 0 i e (l.drop x.1) x.2 = flF 0 i e l out) (fun x => l.length - x.1) (0, out) (Le.of_eq rfl) ⟨Nat.zero_le _, rfl⟩ ?_
   rintro ⟨j, o⟩ ⟨h2, h3⟩
   simp only at h2 h3 ⊢
   have hol := ri_len o
   rcases Nat.lt_or_ge j l.length with hj | hj
   ·conv => whnf
    repeat' (first | ((first | (intro (_ : _ ≤ 9223372036854775807)) | (refine And.intro rfl ?_) | (refine And.intro ⟨by decide, by decide⟩ ?_) | (refine BsK.pure (fun x hx => by rcases List.mem_singleton.1 hx with rfl; rfl) rfl ?_) | (refine IdxK.ss (by omega) ?_) | (refine Wr.i64 (by omega) (by omega) ?_) | (refine AppK.mk (by simp) rfl (by show (o.length+1) * 232 ≤ 140737488355328; omega) (by show o.length+1 ≤ 9223372036854775807; omega) (fun x hx => by rcases List.mem_singleton.1 hx with rfl; exact ⟨rfl, rfl⟩) ?_)); conv => whnf) | (refine Br.dec (fun _ => ?_) (fun _ => ?_) <;> first | (exfalso; omega) | conv => whnf))
    ·exact ⟨(j + 1, o ++ [⟨l[j], 13, i, e⟩]), ⟨hj, by rw [← h3, flF0_yes hj (by omega)]⟩, by simp only; omega, Le.of_eq (by simp only [riH_app, List.length_append, List.length_singleton]; rfl)⟩
    ·rw [flF_full 0 (by omega)] at h3
     exact ⟨_, .refl _, by rw [← h3]; exact ⟨rfl, rfl⟩⟩
   ·conv => whnf
    repeat' (first | (intro (_ : _ ≤ 9223372036854775807); conv => whnf) | (refine Br.dec (fun _ => ?_) (fun _ => ?_) <;> first | (exfalso; omega) | conv => whnf))
    rw [List.drop_eq_nil_of_le hj, flF_nil] at h3
    exact ⟨_, .refl _, by rw [← h3]; exact ⟨rfl, rfl⟩⟩
 | succ m ih =>
   intro hm l i e out
   have hll := S.avs_len l
   refine SpecH.body I_whittlerref3_flat tabOK Tryz.func155 rfl Tryz.call155 (by show 5 ≤ _; decide) ?_
   conv => whnf
   skip
   refine LoopK.inv tabOK (fun x : Nat × List RI => ⟨[(0, .p (eSs l)), (1, .p (.int .i64 (13 - ((m + 1 : Nat) : Int)))), (2, .p (.int .i64 i)), (3, .p (.bool e)), (4, .hd 2000 0 x.2.length), (11, .p (.int .i64 x.1))], riH 103 x.2⟩) (fun x => x.1 ≤ l.length ∧ flF (m + 1) i e (l.drop x.1) x.2 = flF (m + 1) i e l out) (fun x => l.length - x.1) (0, out) (Le.of_eq rfl) ⟨Nat.zero_le _, rfl⟩ ?_
   rintro ⟨j, o⟩ ⟨h2, h3⟩
   simp only at h2 h3 ⊢
   have hol := ri_len o
   rcases Nat.lt_or_ge j l.length with hj | hj
   ·conv => whnf
    repeat' (first | ((first | (intro (_ : _ ≤ 9223372036854775807)) | (refine DrawK.auto tabOK mixed (by kernel_rfl) ?_) | (refine And.intro rfl ?_) | (refine And.intro ⟨by decide, by decide⟩ ?_) | (refine BsK.pure (fun x hx => by rcases List.mem_singleton.1 hx with rfl; rfl) rfl ?_) | (refine IdxK.ss (by omega) ?_) | (refine Wr.i64 (by omega) (by omega) ?_) | (refine AppK.mk (by simp) rfl (by show (o.length+1) * 232 ≤ 140737488355328; omega) (by show o.length+1 ≤ 9223372036854775807; omega) (fun x hx => by rcases List.mem_singleton.1 hx with rfl; exact ⟨rfl, rfl⟩) ?_)); conv => whnf) | (refine Br.dec (fun _ => ?_) (fun _ => ?_) <;> first | (exfalso; omega) | conv => whnf))
    ·refine CallK.heap [(2000, 2000)] 0 (ArgsH.cons (LSub.refl _) (ArgsH.cons (LSub.p (Sub.int (by omega))) (ArgsH.cons (LSub.refl _) (ArgsH.cons (LSub.p (Sub.ff rfl)) (ArgsH.cons (LSub.of_eq (by rw [List.length_append]; rfl)) ArgsH.nil))))) (by exact BlksH.cons (j := 2000) rfl rfl (CSub.of_eq (by rw [List.map_append]; first | done | rfl)) BlksH.nil) (ih (by omega) l[j].thn l[j].id false (o ++ [RI.mk l[j] (13 - ((m + 1 : Nat) : Int)) i e])) rfl rfl ?_
     rintro l' H' ⟨rfl, rfl⟩
     conv => whnf
     repeat' ((first | (refine DrawK.auto tabOK mixed (by kernel_rfl) ?_) | (refine IdxK.ss (by omega) ?_) | (refine Wr.i64 (by omega) (by omega) ?_)); conv => whnf)
     refine CallK.heap [(2000, 2000)] 0 (ArgsH.cons (LSub.refl _) (ArgsH.cons (LSub.p (Sub.int (by omega))) (ArgsH.cons (LSub.refl _) (ArgsH.cons (LSub.p (Sub.tt rfl)) (ArgsH.cons (LSub.refl _) ArgsH.nil))))) (by exact BlksH.cons (j := 2000) rfl rfl (CSub.refl _) BlksH.nil) (ih (by omega) l[j].els l[j].id true (flF m l[j].id false l[j].thn (o ++ [RI.mk l[j] (13 - ((m + 1 : Nat) : Int)) i e]))) rfl rfl ?_
     rintro l' H' ⟨rfl, rfl⟩
     conv => whnf
     repeat' (refine Wr.i64 (by omega) (by omega) ?_; conv => whnf)
     exact ⟨(j + 1, flF m l[j].id true l[j].els (flF m l[j].id false l[j].thn (o ++ [RI.mk l[j] (13 - ((m + 1 : Nat) : Int)) i e]))), ⟨hj, by rw [← h3, flF_yes hj (by omega)]⟩, by simp only; omega, Le.of_eq rfl⟩
    ·rw [flF_full (m + 1) (by omega)] at h3
     exact ⟨_, .refl _, by rw [← h3]; exact ⟨rfl, rfl⟩⟩
   ·conv => whnf
    repeat' (first | (intro (_ : _ ≤ 9223372036854775807); conv => whnf) | (refine Br.dec (fun _ => ?_) (fun _ => ?_) <;> first | (exfalso; omega) | conv => whnf))
    rw [List.drop_eq_nil_of_le hj, flF_nil] at h3
    exact ⟨_, .refl _, by rw [← h3]; exact ⟨rfl, rfl⟩⟩
theorem whittlerref3_Flat (f : Pr) : SpecP Tryz.prog 97 [.agg f.cells] (fun r => r = eRIs (flatR f)) := by
 refine SpecP.body I_whittlerref3_Flat tabOK Tryz.func97 rfl Tryz.call97 (by show 1 ≤ _; decide) ?_
 conv => whnf
 skip
 refine CallK.nil 5 103 16 rfl (.cons rfl (.cons rfl (.cons rfl (.cons rfl (.row .nil))))) ?_
 refine CallK.heap [(2000, 5)] 0 (by repeat' (first | exact ArgsH.nil | refine ArgsH.cons ?_ ?_ | exact LSub.refl _ | exact LSub.p Sub.nils | exact LSub.p (Sub.tt rfl) | exact LSub.p (Sub.ff rfl) | exact LSub.p (Sub.int (by omega)))) (by refine BlksH.cons (j := 5) rfl rfl ?_ ?_; exact CSub.refl _; exact BlksH.nil) (whittlerref3_flat 12 (by omega) f.body 0 false []) rfl rfl ?_
 rintro l' H' ⟨rfl, rfl⟩
 conv => whnf
 exact ⟨_, .hd rfl (by simp [flatR]), rfl⟩
theorem flatR_len (f : Pr) : (flatR f).length ≤ 201 := by
 have := (flF_len 12 0 false f.body []).2
 simpa [flatR] using this
open Go.Proofs
def modI (n k : Int) : Int := if k < 1 then 0 else if n.tmod k < 0 then n.tmod k + k else n.tmod k
theorem modI_rng {n k : Int} (hk : 0 < k) : 0 ≤ modI n k ∧ modI n k < k := by
 unfold modI
 have h1 := Int.tmod_lt_of_pos n hk
 have h2 : -k < n.tmod k := by
  rcases Int.le_total 0 n with h | h
  ·have := Int.tmod_nonneg k h; omega
  ·have h3 := Int.tmod_lt_of_pos (-n) hk
   rw [Int.neg_tmod] at h3
   omega
 rw [if_neg (by omega)]
 split <;> omega
theorem whittlerref3_Mod (n k : Int) (hk : k ≤ 1000000) : SpecP Tryz.prog 81 [.int .i64 n, .int .i64 k] (fun r => r = .int .i64 (modI n k)) := by
 refine SpecP.body I_whittlerref3_Mod tabOK Tryz.func81 rfl Tryz.call81 (by show 2 ≤ _; decide) ?_
 conv => whnf
 have h1 := fun h : 0 < k => modI_rng (n := n) h
 repeat' (first | (refine And.intro (by omega) ?_; conv => whnf) | (refine Br.dec (fun _ => ?_) (fun _ => ?_) <;> first | (exfalso; omega) | conv => whnf))
 all_goals first
  | (refine Wr.i64 (by have := h1 (by omega); unfold modI at this; rw [if_neg (by omega), if_pos (by assumption)] at this; omega) (by have := h1 (by omega); unfold modI at this; rw [if_neg (by omega), if_pos (by assumption)] at this; omega) ?_
     conv => whnf
     exact RetK.int (by unfold modI; rw [if_neg (by assumption), if_pos (by assumption)]))
  | exact RetK.int (by unfold modI; rw [if_pos (by assumption)])
  | exact RetK.int (by unfold modI; rw [if_neg (by assumption), if_neg (by assumption)])
def hasI (l : List Int) (x : Int) : Bool := l.any fun y => decide (x = y)
theorem whittlerref14_has (l : List Int) (x : Int) : SpecP Tryz.prog 98 [eInts l, .int .i64 x] (fun r => r = .bool (hasI l x)) := by
 refine SpecP.body I_whittlerref14_has tabOK Tryz.func98 rfl Tryz.call98 (by show 2 ≤ _; decide) ?_
 conv => whnf
 repeat' (intro (_ : _ ≤ 9223372036854775807); conv => whnf)
 have hl : (l.map (AV.int .i64)).length = l.length := List.length_map _
 refine LoopK.inv tabOK (fun j : Nat => ⟨[(1, .p (.int .i64 x)), (7, .p (eInts l)), (8, .p (.int .i64 (l.map (AV.int .i64)).length)), (9, .p (.int .i64 j))], []⟩) (fun j => j ≤ l.length ∧ (l.drop j).any (fun y => decide (x = y)) = hasI l x) (fun j => l.length - j) 0 (Le.of_eq rfl) ⟨Nat.zero_le _, rfl⟩ ?_
 rintro j ⟨h2, h3⟩
 rcases Nat.lt_or_ge j l.length with hj | hj
 ·conv => whnf
  repeat' (first | ((first | (refine IdxK.map (by omega) (fun _ => rfl) ?_) | (refine Wr.i64 (by omega) (by omega) ?_)); conv => whnf) | (refine Br.dec (fun _ => ?_) (fun _ => ?_) <;> first | (exfalso; omega) | conv => whnf))
  all_goals first
   | exact RetK.tt (by rw [← h3, any_yes hj (by simp_all)])
   | exact ⟨j + 1, ⟨hj, by rw [any_no hj (by simp; omega)]; exact h3⟩, by omega, Le.of_eq rfl⟩
 ·conv => whnf
  repeat' (refine Br.dec (fun _ => ?_) (fun _ => ?_) <;> first | (exfalso; omega) | conv => whnf)
  exact RetK.ff (by rw [← h3, any_end hj])
def procAtR (p : Pg) (n : Int) : Str := match p.procs[(modI n p.procs.length).toNat]? with
 | some f => f.name
 | none => []
theorem whittlerref6_ProcAt (p : Pg) (n : Int) (hp : p.procs.length ≤ 20000) : SpecP Tryz.prog 19 [.agg p.cells, .int .i64 n] (fun r => r = .str (procAtR p n)) := by
 refine SpecP.body I_whittlerref6_ProcAt tabOK Tryz.func19 rfl Tryz.call19 (by show 2 ≤ _; decide) ?_
 conv => whnf
 have hl : (p.procs.map fun f => AV.agg f.cells).length = p.procs.length := List.length_map _
 have hr := fun h : 0 < (p.procs.length : Int) => modI_rng (n := n) h
 repeat' (first | ((first | (intro (_ : _ ≤ 9223372036854775807)) | (refine DrawK.auto tabOK mixed (by kernel_rfl) ?_) | (refine CallK.pure (whittlerref3_Mod n (p.procs.length : Int) (by omega)) (.cons (Sub.refl _) (.cons (Sub.int (by omega)) .nil)) ?_; rintro _ rfl)); conv => whnf) | (refine Br.dec (fun _ => ?_) (fun _ => ?_) <;> first | (exfalso; omega) | conv => whnf))
 ·refine RetK.p ?_
  have h0 : p.procs = [] := List.length_eq_zero_iff.1 (by omega)
  unfold procAtR
  rw [h0]
  rfl
 ·obtain ⟨h1, h2⟩ := hr (by omega)
  have hlt : (modI n p.procs.length).toNat < p.procs.length := by omega
  refine IdxK.at (k := (modI n p.procs.length).toNat) (e := .agg p.procs[(modI n p.procs.length).toNat].cells) (by omega) (by rw [List.getElem?_map, List.getElem?_eq_getElem hlt]; rfl) rfl ?_
  conv => whnf
  skip
  exact RetK.p (by unfold procAtR; rw [List.getElem?_eq_getElem hlt])
open Go.Proofs
theorem nodup_inj {α β : Type} {f : α → β} : ∀ {l : List α}, (l.map f).Nodup → ∀ a ∈ l, ∀ b ∈ l, f a = f b → a = b
 | [], _, a, ha, _, _, _ => by cases ha
 | c :: r, h, a, ha, b, hb, e => by
   rw [List.map_cons, List.nodup_cons] at h
   rcases List.mem_cons.1 ha with ha1 | ha1
   ·rcases List.mem_cons.1 hb with hb1 | hb1
    ·rw [ha1, hb1]
    ·exact (h.1 (List.mem_map.2 ⟨b, hb1, by rw [← e, ha1]⟩)).elim
   ·rcases List.mem_cons.1 hb with hb1 | hb1
    ·exact (h.1 (List.mem_map.2 ⟨a, ha1, by rw [e, hb1]⟩)).elim
    ·exact nodup_inj h.2 a ha1 b hb1 e
theorem nodup_len {α : Type} [DecidableEq α] : ∀ {l m : List α}, l.Nodup → (∀ s ∈ l, s ∈ m) → l.length ≤ m.length
 | [], m, _, _ => Nat.zero_le _
 | a :: r, m, h, hs => by
   rw [List.nodup_cons] at h
   have ha := hs a List.mem_cons_self
   have h1 := nodup_len (m := m.erase a) h.2 fun s hsr => (List.mem_erase_of_ne (fun e => h.1 (by rw [← e]; exact hsr))).2 (hs s (List.mem_cons_of_mem _ hsr))
   rw [List.length_erase_of_mem ha] at h1
   have := List.length_pos_of_mem ha
   simp only [List.length_cons]
   omega
theorem idsN_nodup (n c : Nat) : (idsN n c).Nodup := by
 unfold idsN List.Nodup
 rw [List.pairwise_map]
 exact List.Pairwise.imp (fun h e => h (by omega)) (List.nodup_range' (s := n + 1) (n := c) (step := 1))
theorem its_ids {p : Pg} (hm : mayB p = true) {j : Nat} {f : Pr} (hj : p.procs[j]? = some f) : (itsOf p j f).map (fun it => it.s.id) = idsN (offN p.procs j) (cntL f.body) := by
 rw [← may_ids hm hj, ← itL_s (j : Nat) 0 (-1) 0 (offN p.procs j) f.body, List.map_map]
 rfl
theorem it_inj {p : Pg} (hm : mayB p = true) {j : Nat} {f : Pr} (hj : p.procs[j]? = some f) {a b : Item} (ha : a ∈ itsOf p j f) (hb : b ∈ itsOf p j f) (h : a.s.id = b.s.id) : a = b :=
 nodup_inj (f := fun it : Item => it.s.id) (by rw [its_ids hm hj]; exact idsN_nodup _ _) a ha b hb h
theorem it_of {p : Pg} {j : Nat} {f : Pr} {t : S} (h : t ∈ flL f.body) : ∃ it ∈ itsOf p j f, it.s = t := by
 rw [← itL_s (j : Nat) 0 (-1) 0 (offN p.procs j) f.body] at h
 obtain ⟨it, h1, h2⟩ := List.mem_map.1 h
 exact ⟨it, h1, h2⟩
theorem lt_nodup {l : List Step} (h : l.Pairwise ltSt) : l.Nodup := h.imp fun h e => by subst e; exact ltSt_irrefl h
theorem hasI_iff {l : List Int} {x : Int} : hasI l x = true ↔ x ∈ l := by
 unfold hasI
 rw [List.any_eq_true]
 refine ⟨fun ⟨y, h1, h2⟩ => by simp at h2; exact h2 ▸ h1, fun h => ⟨x, h, by simp⟩⟩
theorem idsN_has {n c : Nat} {a : Int} (h1 : (n : Int) + 1 ≤ a) (h2 : a ≤ (n + c : Nat)) : a ∈ idsN n c := by
 unfold idsN
 refine List.mem_map.2 ⟨a.toNat, List.mem_range'.2 ⟨a.toNat - (n + 1), by omega, by omega⟩, by omega⟩
open Go.Proofs
inductive Rch {α : Type} (R : α → α → Prop) (a : α) : α → Prop
 | refl : Rch R a a
 | tail {b c : α} (h : Rch R a b) (hr : R b c) : Rch R a c
theorem Rch.trans {α : Type} {R : α → α → Prop} {a b c : α} (h : Rch R a b) (h' : Rch R b c) : Rch R a c := by
 induction h' with
 | refl => exact h
 | tail _ hr ih => exact .tail ih hr
theorem Rch.head {α : Type} {R : α → α → Prop} {a b c : α} (hr : R a b) (h : Rch R b c) : Rch R a c := Rch.trans (.tail .refl hr) h
theorem Rch.mono {α : Type} {R R' : α → α → Prop} (h : ∀ x y, R x y → R' x y) {a b : α} (hr : Rch R a b) : Rch R' a b := by
 induction hr with
 | refl => exact .refl
 | tail _ hr ih => exact .tail ih (h _ _ hr)
theorem Rch.closed {α : Type} {R : α → α → Prop} {S : α → Prop} (hS : ∀ x y, S x → R x y → S y) {a b : α} (ha : S a) (h : Rch R a b) : S b := by
 induction h with
 | refl => exact ha
 | tail _ hr ih => exact hS _ _ ih hr
structure WkM (n : Nat) (st : List Bool × List Int) : Prop where
 inv : wkInv n st
 mem : ∀ x, x ∈ st.2 ↔ (0 ≤ x ∧ x < n) ∧ st.1.getD x.toNat false = true
theorem WkM.start (n : Nat) : WkM n (List.replicate n false, []) := ⟨wkInv_start n, fun x => by
 simp only [List.not_mem_nil, false_iff, not_and]
 intro _
 rw [List.getD_eq_getElem?_getD, List.getElem?_replicate]
 split <;> simp⟩
theorem WkM.see {n : Nat} {st : List Bool × List Int} (h : WkM n st) {b : Int} (hb : 0 ≤ b ∧ b < n) : WkM n (seeW st b) ∧ (∀ x, x ∈ (seeW st b).2 ↔ x ∈ st.2 ∨ x = b) ∧ st.2 <+: (seeW st b).2 := by
 have hi := seeW_inv h.inv hb
 cases hs : st.1.getD b.toNat false with
 | true =>
   have e : seeW st b = st := by unfold seeW; rw [hs]; rfl
   rw [e]
   refine ⟨h, fun x => ⟨.inl, fun hx => ?_⟩, List.prefix_refl _⟩
   rcases hx with hx | rfl
   ·exact hx
   ·exact (h.mem _).2 ⟨hb, hs⟩
 | false =>
   have e : seeW st b = (st.1.set b.toNat true, st.2 ++ [b]) := by unfold seeW; rw [hs]; rfl
   rw [e] at hi ⊢
   have hlen := h.inv.1
   refine ⟨⟨hi, fun x => ?_⟩, fun x => by simp, List.prefix_append _ _⟩
   rw [List.mem_append, List.mem_singleton, h.mem]
   simp only [List.getD_eq_getElem?_getD, List.getElem?_set]
   by_cases hx : x = b
   ·subst hx
    rw [if_pos rfl, if_pos (by omega)]
    simp [hb]
   ·constructor
    ·rintro (⟨h1, h2⟩ | h2)
     ·refine ⟨h1, ?_⟩
      rw [if_neg (by omega)]
      exact h2
     ·exact absurd h2 hx
    ·rintro ⟨h1, h2⟩
     rw [if_neg (by omega)] at h2
     exact .inl ⟨h1, h2⟩
theorem WkM.fold {n : Nat} : ∀ (l : List Int) {st : List Bool × List Int}, WkM n st → (∀ b ∈ l, 0 ≤ b ∧ b < n) → WkM n (l.foldl seeW st) ∧ (∀ x, x ∈ (l.foldl seeW st).2 ↔ x ∈ st.2 ∨ x ∈ l) ∧ st.2 <+: (l.foldl seeW st).2
 | [], st, h, _ => ⟨h, fun x => by simp, List.prefix_refl _⟩
 | b :: r, st, h, hl => by
   obtain ⟨h1, h2, h3⟩ := h.see (hl b List.mem_cons_self)
   obtain ⟨h4, h5, h6⟩ := WkM.fold r h1 fun c hc => hl c (List.mem_cons_of_mem _ hc)
   refine ⟨h4, fun x => ?_, h3.trans h6⟩
   rw [List.foldl_cons, h5, h2, List.mem_cons, or_assoc]
def rowR (rows : List (List Int)) (x y : Int) : Prop := y ∈ rows.getD x.toNat []
theorem row_in {n : Nat} {rows : List (List Int)} (hr : rowsIn n rows) {x y : Int} (h : rowR rows x y) : 0 ≤ y ∧ y < n := by
 unfold rowR at h
 rw [List.getD_eq_getElem?_getD] at h
 cases hq : rows[x.toNat]? with
 | none => rw [hq] at h; simp at h
 | some r => rw [hq] at h; exact hr.2 r (List.mem_of_getElem? hq) y h
theorem prefix_get {α : Type} {l m : List α} (h : l <+: m) {i : Nat} {a : α} (ha : l[i]? = some a) : m[i]? = some a := by
 obtain ⟨t, rfl⟩ := h
 rw [List.getElem?_append_left (List.getElem?_eq_some_iff.1 ha).1]
 exact ha
theorem walk_spec {n : Nat} {rows : List (List Int)} (hr : rowsIn n rows) : ∀ (k i : Nat) {st : List Bool × List Int}, WkM n st → i ≤ st.2.length → n + 1 ≤ k + i → (∀ (m : Nat) (a : Int), m < i → st.2[m]? = some a → ∀ b, rowR rows a b → b ∈ st.2) →
  WkM n (walkF rows k i st) ∧ (∀ x ∈ st.2, x ∈ (walkF rows k i st).2) ∧ (∀ x ∈ (walkF rows k i st).2, ∀ b, rowR rows x b → b ∈ (walkF rows k i st).2) ∧ (∀ S : Int → Prop, (∀ x ∈ st.2, S x) → (∀ x b, S x → rowR rows x b → S b) → ∀ x ∈ (walkF rows k i st).2, S x)
 | 0, i, st, h, hi, hk, _ => by
   have := wkInv_len h.inv
   omega
 | k + 1, i, st, h, hi, hk, hc => by
   rw [walkF]
   split
   ·rename_i a ha
    have hlt := (List.getElem?_eq_some_iff.1 ha).1
    have hrow : ∀ b ∈ rows.getD a.toNat [], 0 ≤ b ∧ b < n := fun b hb => row_in hr hb
    obtain ⟨h1, h2, h3⟩ := h.fold (rows.getD a.toNat []) hrow
    obtain ⟨h4, h5, h6, h7⟩ := walk_spec hr k (i + 1) h1 (Nat.le_trans hlt h3.length_le) (by omega) fun m c hm hmc b hb => by
     rw [h2]
     rcases Nat.lt_or_ge m i with hmi | hmi
     ·have hml : m < st.2.length := by omega
      have hmc' : st.2[m]? = some c := by
       have := prefix_get h3 (List.getElem?_eq_getElem hml)
       rw [List.getElem?_eq_getElem hml, ← this, hmc]
      exact .inl (hc m c hmi hmc' b hb)
     ·obtain rfl : m = i := by omega
      have := prefix_get h3 ha
      rw [this] at hmc
      cases hmc
      exact .inr hb
    refine ⟨h4, fun x hx => h5 x ((h2 x).2 (.inl hx)), h6, fun S hS hcl => h7 S (fun x hx => ?_) hcl⟩
    rcases (h2 x).1 hx with hx | hx
    ·exact hS x hx
    ·exact hcl a x (hS a (List.mem_of_getElem? ha)) hx
   ·rename_i ha
    have hlen : st.2.length ≤ i := List.getElem?_eq_none_iff.1 ha
    refine ⟨h, fun x hx => hx, fun x hx b hb => ?_, fun S hS _ => hS⟩
    obtain ⟨m, hm⟩ := List.mem_iff_getElem?.1 hx
    exact hc m x (by have := (List.getElem?_eq_some_iff.1 hm).1; omega) hm b hb
theorem start_spec {n : Nat} : ∀ (l : List Int) {st : List Bool × List Int}, WkM n st → WkM n (l.foldl (fun st a => bif hasB n a then seeW st a else st) st) ∧ ∀ x, x ∈ (l.foldl (fun st a => bif hasB n a then seeW st a else st) st).2 ↔ x ∈ st.2 ∨ (x ∈ l ∧ hasB n x = true)
 | [], st, h => ⟨h, fun x => by simp⟩
 | a :: r, st, h => by
   rw [List.foldl_cons]
   cases hb : hasB n a with
   | true =>
     obtain ⟨h1, h2, _⟩ := h.see (hasB_iff hb)
     obtain ⟨h3, h4⟩ := start_spec r h1
     rw [cond_true]
     refine ⟨h3, fun x => ?_⟩
     rw [h4, h2, List.mem_cons]
     constructor
     ·rintro ((h5 | rfl) | ⟨h5, h6⟩)
      ·exact .inl h5
      ·exact .inr ⟨.inl rfl, hb⟩
      ·exact .inr ⟨.inr h5, h6⟩
     ·rintro (h5 | ⟨rfl | h5, h6⟩)
      ·exact .inl (.inl h5)
      ·exact .inl (.inr rfl)
      ·exact .inr ⟨h5, h6⟩
   | false =>
     obtain ⟨h3, h4⟩ := start_spec r h
     rw [cond_false]
     refine ⟨h3, fun x => ?_⟩
     rw [h4, List.mem_cons]
     constructor
     ·rintro (h5 | ⟨h5, h6⟩)
      ·exact .inl h5
      ·exact .inr ⟨.inr h5, h6⟩
     ·rintro (h5 | ⟨rfl | h5, h6⟩)
      ·exact .inl h5
      ·rw [hb] at h6; cases h6
      ·exact .inr ⟨h5, h6⟩
theorem lstI_iff : ∀ (l : List Bool) (i : Nat) (y : Int), y ∈ lstI i l ↔ ∃ k : Nat, l[k]? = some true ∧ y = ((i + k : Nat) : Int)
 | [], i, y => by simp [lstI]
 | b :: r, i, y => by
   have ih := lstI_iff r (i + 1) y
   have key : (∃ k : Nat, (b :: r)[k]? = some true ∧ y = ((i + k : Nat) : Int)) ↔ (b = true ∧ y = (i : Int)) ∨ ∃ k : Nat, r[k]? = some true ∧ y = ((i + 1 + k : Nat) : Int) := by
    constructor
    ·rintro ⟨k, h1, h2⟩
     cases k with
     | zero => simp at h1; exact .inl ⟨h1, by simpa using h2⟩
     | succ k => exact .inr ⟨k, by simpa using h1, by rw [h2]; omega⟩
    ·rintro (⟨h1, h2⟩ | ⟨k, h1, h2⟩)
     ·exact ⟨0, by simp [h1], by simpa using h2⟩
     ·exact ⟨k + 1, by simpa using h1, by rw [h2]; omega⟩
   rw [key, ← ih, lstI]
   cases b <;> simp
theorem reach_iff {n : Nat} {rows : List (List Int)} (hr : rowsIn n rows) (l : List Int) (y : Int) : y ∈ lstI 0 (reachB rows l) ↔ ∃ a ∈ l, hasB n a = true ∧ Rch (rowR rows) a y := by
 obtain ⟨h1, h2⟩ := start_spec (n := n) l (WkM.start n)
 obtain ⟨h3, h4, h5, h6⟩ := walk_spec hr (rows.length + 1) 0 (st := startW rows.length l) (by rw [hr.1]; exact h1) (Nat.zero_le _) (by rw [hr.1]; omega) (fun m a hm => by omega)
 have hst : ∀ x, x ∈ (startW rows.length l).2 ↔ x ∈ l ∧ hasB n x = true := fun x => by
  rw [hr.1]
  unfold startW
  rw [h2]
  simp
 have hmem : ∀ y, y ∈ lstI 0 (reachB rows l) ↔ y ∈ (walkF rows (rows.length + 1) 0 (startW rows.length l)).2 := fun y => by
  rw [lstI_iff, h3.mem]
  show (∃ k : Nat, (walkF rows (rows.length + 1) 0 (startW rows.length l)).1[k]? = some true ∧ _) ↔ _
  constructor
  ·rintro ⟨k, h7, h8⟩
   have hlt := (List.getElem?_eq_some_iff.1 h7).1
   rw [h3.inv.1] at hlt
   refine ⟨by omega, ?_⟩
   rw [h8, List.getD_eq_getElem?_getD]
   simp [h7]
  ·rintro ⟨h7, h8⟩
   have hlt : y.toNat < (walkF rows (rows.length + 1) 0 (startW rows.length l)).1.length := by rw [h3.inv.1]; omega
   refine ⟨y.toNat, ?_, by omega⟩
   rw [List.getD_eq_getElem?_getD, List.getElem?_eq_getElem hlt] at h8
   rw [List.getElem?_eq_getElem hlt]
   simpa using h8
 rw [hmem]
 constructor
 ·intro hy
  refine h6 (fun y => ∃ a ∈ l, hasB n a = true ∧ Rch (rowR rows) a y) (fun x hx => ?_) (fun x b ⟨a, h7, h8, h9⟩ hb => ⟨a, h7, h8, .tail h9 hb⟩) y hy
  obtain ⟨h7, h8⟩ := (hst x).1 hx
  exact ⟨x, h7, h8, .refl⟩
 ·rintro ⟨a, h7, h8, h9⟩
  exact h9.closed (S := fun y => y ∈ (walkF rows (rows.length + 1) 0 (startW rows.length l)).2) (fun x b hx hb => h5 x hx b hb) (h4 a ((hst a).2 ⟨h7, h8⟩))
open Go.Proofs
theorem insI_mem {l : List Int} {k : Nat} {b x : Int} : x ∈ insI l k b ↔ x ∈ l ∨ x = b := by
 unfold insI
 rw [List.mem_append, List.mem_cons]
 have : x ∈ l ↔ x ∈ l.take k ∨ x ∈ l.drop k := by rw [← List.mem_append, List.take_append_drop]
 rw [this]
 constructor
 ·rintro (h | h | h)
  ·exact .inl (.inl h)
  ·exact .inr h
  ·exact .inl (.inr h)
 ·rintro ((h | h) | h)
  ·exact .inl h
  ·exact .inr (.inr h)
  ·exact .inr (.inl h)
theorem addE_row {n : Nat} {g : List (List Int) × List (List Int)} (hl : g.1.length = n) (e : Int × Int) {x y : Int} (hx : 0 ≤ x ∧ x < n) : y ∈ (addE n g e).1.getD x.toNat [] ↔ y ∈ g.1.getD x.toNat [] ∨ ((x, y) = e ∧ hasB n y = true) := by
 rw [addE_1]
 cases hc : (hasB n e.1 && hasB n e.2 && !(g.1.getD e.1.toNat []).contains e.2) with
 | true =>
   simp only [Bool.and_eq_true, Bool.not_eq_true'] at hc
   obtain ⟨⟨h1, h2⟩, _⟩ := hc
   have h3 := hasB_iff h1
   rw [cond_true]
   unfold putR
   rw [List.getD_eq_getElem?_getD, List.getElem?_set]
   by_cases he : e.1.toNat = x.toNat
   ·rw [if_pos he, if_pos (by omega)]
    simp only [Option.getD_some]
    rw [insI_mem, ← he]
    have : x = e.1 := by omega
    constructor
    ·rintro (h | h)
     ·exact .inl h
     ·exact .inr ⟨by rw [this, h], by rw [h]; exact h2⟩
    ·rintro (h | ⟨h, _⟩)
     ·exact .inl h
     ·exact .inr (by rw [← h])
   ·rw [if_neg he, ← List.getD_eq_getElem?_getD]
    constructor
    ·exact .inl
    ·rintro (h | ⟨h, _⟩)
     ·exact h
     ·exact absurd (by rw [← h]) he
 | false =>
   rw [cond_false]
   constructor
   ·exact .inl
   ·rintro (h | ⟨rfl, h⟩)
    ·exact h
    ·have h1 : hasB n x = true := by unfold hasB; simp [hx]
     simp only [h1, h, Bool.true_and, Bool.not_eq_false'] at hc
     simpa using hc
theorem addE_len {n : Nat} {g : List (List Int) × List (List Int)} (hl : g.1.length = n) (e : Int × Int) : (addE n g e).1.length = n := by
 rw [addE_1]
 cases (hasB n e.1 && hasB n e.2 && !(g.1.getD e.1.toNat []).contains e.2) with
 | true => rw [cond_true]; unfold putR; rw [List.length_set]; exact hl
 | false => exact hl
theorem graph_row {n : Nat} {x y : Int} (hx : 0 ≤ x ∧ x < n) : ∀ (l : List (Int × Int)) {g : List (List Int) × List (List Int)}, g.1.length = n → (y ∈ (l.foldl (addE n) g).1.getD x.toNat [] ↔ y ∈ g.1.getD x.toNat [] ∨ ((x, y) ∈ l ∧ hasB n y = true))
 | [], g, _ => by simp
 | e :: r, g, h => by
   rw [List.foldl_cons, graph_row hx r (addE_len h e), addE_row h e hx, List.mem_cons]
   constructor
   ·rintro ((h1 | ⟨h1, h2⟩) | ⟨h1, h2⟩)
    ·exact .inl h1
    ·exact .inr ⟨.inl h1, h2⟩
    ·exact .inr ⟨.inr h1, h2⟩
   ·rintro (h1 | ⟨h1 | h1, h2⟩)
    ·exact .inl (.inl h1)
    ·exact .inl (.inr ⟨h1, h2⟩)
    ·exact .inr ⟨h1, h2⟩
theorem graph_rowR {n : Nat} {l : List (Int × Int)} {x y : Int} (hx : 0 ≤ x ∧ x < n) : rowR (graphE n l).1 x y ↔ (x, y) ∈ l ∧ hasB n y = true := by
 unfold rowR graphE
 rw [graph_row hx l (by simp)]
 have : (List.replicate n ([] : List Int)).getD x.toNat [] = [] := by
  rw [List.getD_eq_getElem?_getD, List.getElem?_replicate]
  split <;> rfl
 rw [this]
 simp
theorem graph_reach {n : Nat} {l : List (Int × Int)} (h0 : 0 < n) (y : Int) : y ∈ lstI 0 (reachB (graphE n l).1 [0]) ↔ Rch (fun a b => (a, b) ∈ l ∧ hasB n b = true) 0 y := by
 rw [reach_iff (graphE_in n l).1]
 have hs : hasB n 0 = true := by unfold hasB; simp; omega
 constructor
 ·rintro ⟨a, ha, _, h⟩
  obtain rfl : a = 0 := by simpa using ha
  exact (h.closed (S := fun x : Int => (0 ≤ x ∧ x < n) ∧ Rch (fun a b => (a, b) ∈ l ∧ hasB n b = true) 0 x) (fun x y ⟨h1, h2⟩ h3 => by
   have h4 := (graph_rowR h1).1 h3
   exact ⟨hasB_iff h4.2, .tail h2 h4⟩) ⟨⟨by omega, by omega⟩, .refl⟩).2
 ·intro h
  refine ⟨0, by simp, hs, ?_⟩
  exact (h.closed (S := fun x : Int => (0 ≤ x ∧ x < n) ∧ Rch (rowR (graphE n l).1) 0 x) (fun x y ⟨h1, h2⟩ h3 => ⟨hasB_iff h3.2, .tail h2 ((graph_rowR h1).2 h3)⟩) ⟨⟨by omega, by omega⟩, .refl⟩).2
def stR (F : List Step) (a b : Int) : Prop := ∃ s ∈ F, s.src = a ∧ s.dst = b
def plP (p : Pg) (j : Nat) (f : Pr) (x : Int) : Prop := x = 0 ∨ x = -1 ∨ ((offN p.procs j : Int) + 1 ≤ x ∧ x ≤ (offN p.procs j + cntL f.body : Nat))
def ixI (p : Pg) (j : Nat) (f : Pr) (x : Int) : Int := indexI (loI p j) (hiI p j f) (cntL f.body + 2 : Nat) x
theorem ix_rng {p : Pg} {j : Nat} {f : Pr} {x : Int} (h : plP p j f x) : 0 ≤ ixI p j f x ∧ ixI p j f x < (cntL f.body + 2 : Nat) := by
 unfold ixI indexI loI hiI
 unfold plP at h
 (repeat' split) <;> omega
theorem ix_inj {p : Pg} {j : Nat} {f : Pr} {x y : Int} (hx : plP p j f x) (hy : plP p j f y) (h : ixI p j f x = ixI p j f y) : x = y := by
 unfold ixI indexI loI hiI at h
 unfold plP at hx hy
 (repeat' split at h) <;> omega
theorem step_reach {p : Pg} {j : Nat} {f : Pr} {F : List Step} (hF : ∀ s ∈ F, plP p j f s.src ∧ plP p j f s.dst) {y : Int} (hy : plP p j f y) :
  ixI p j f y ∈ lstI 0 (reachB (graphE (cntL f.body + 2) (F.map (ixP p j f (cntL f.body + 2 : Nat)))).1 [0]) ↔ Rch (stR F) 0 y := by
 rw [graph_reach (by omega)]
 have e0 : ixI p j f 0 = 0 := by unfold ixI indexI; rw [if_pos rfl]
 have p0 : plP p j f 0 := .inl rfl
 constructor
 ·intro h
  obtain ⟨z, h1, h2, h3⟩ := h.closed (S := fun i => ∃ z, plP p j f z ∧ ixI p j f z = i ∧ Rch (stR F) 0 z) (by
   rintro a b ⟨z, h1, h2, h3⟩ ⟨h4, _⟩
   obtain ⟨s, hs, he⟩ := List.mem_map.1 h4
   obtain ⟨h5, h6⟩ := hF s hs
   have e1 : ixI p j f s.src = a := congrArg Prod.fst he
   have e2 : ixI p j f s.dst = b := congrArg Prod.snd he
   have e3 : s.src = z := ix_inj h5 h1 (by rw [e1, h2])
   exact ⟨s.dst, h6, e2, .tail h3 ⟨s, hs, e3, rfl⟩⟩) ⟨0, p0, e0, .refl⟩
  rw [← ix_inj h1 hy h2]
  exact h3
 ·intro h
  have := h.closed (S := fun z => plP p j f z ∧ Rch (fun a b => (a, b) ∈ F.map (ixP p j f (cntL f.body + 2 : Nat)) ∧ hasB (cntL f.body + 2) b = true) 0 (ixI p j f z)) (by
   rintro a b ⟨h1, h2⟩ ⟨s, hs, rfl, rfl⟩
   obtain ⟨h5, h6⟩ := hF s hs
   refine ⟨h6, .tail h2 ⟨List.mem_map.2 ⟨s, hs, rfl⟩, ?_⟩⟩
   have := ix_rng h6
   unfold hasB
   simp only [Bool.and_eq_true, decide_eq_true_eq]
   exact this) ⟨p0, by rw [e0]; exact .refl⟩
  exact this.2
theorem real_places {p : Pg} (h : chkB p = true) {j : Nat} {f : Pr} (hj : p.procs[j]? = some f) : ∀ s ∈ (newWay p j f).real, plP p j f s.src ∧ plP p j f s.dst := fun s hs => by
 obtain ⟨_, h2⟩ := real_spec h hj
 obtain ⟨_, h3, _⟩ := chk_way h hj
 obtain ⟨h4, h5⟩ := h3 s ((h2 s).1 hs)
 unfold okI at h5
 unfold plP
 omega
open Go.Proofs
theorem first_out {E : Int → Int → Prop} {B : List Int} {u x : Int} (h : Rch E u x) (hu : u ∈ B) (hx : x ∉ B) : ∃ z y, z ∈ B ∧ E z y ∧ y ∉ B ∧ Rch E u y ∧ Rch E y x := by
 induction h with
 | refl => exact absurd hu hx
 | @tail b c h hr ih =>
   by_cases hb : b ∈ B
   ·exact ⟨b, c, hb, hr, hx, .tail h hr, .refl⟩
   ·obtain ⟨z, y, h1, h2, h3, h4, h5⟩ := ih hb
    exact ⟨z, y, h1, h2, h3, h4, .tail h5 hr⟩
def chainE (E : Int → Int → Prop) : List Int → Prop
 | [] => True
 | [_] => True
 | a :: b :: r => E a b ∧ chainE E (b :: r)
theorem chainE_last {E : Int → Int → Prop} : ∀ (l : List Int) {a y : Int}, chainE E (l ++ [a]) → y ∈ l ++ [a] → Rch E y a
 | [], a, y, _, hy => by
   simp at hy
   rw [hy]
   exact .refl
 | [b], a, y, h, hy => by
   simp at hy
   rcases hy with rfl | rfl
   ·exact .tail .refl h.1
   ·exact .refl
 | b :: c :: r, a, y, h, hy => by
   have h1 : chainE E ((c :: r) ++ [a]) := h.2
   rcases List.mem_cons.1 hy with rfl | hy
   ·exact .head h.1 (chainE_last (c :: r) h1 (by simp))
   ·exact chainE_last (c :: r) h1 hy
theorem chainE_push {E : Int → Int → Prop} : ∀ (l : List Int) {a b : Int}, chainE E (l ++ [a]) → E a b → chainE E (l ++ [a] ++ [b])
 | [], a, b, _, hb => ⟨hb, trivial⟩
 | [c], a, b, h, hb => ⟨h.1, hb, trivial⟩
 | c :: d :: r, a, b, h, hb => ⟨h.1, chainE_push (d :: r) h.2 hb⟩
theorem chainE_pop {E : Int → Int → Prop} : ∀ (l : List Int) {a : Int}, chainE E (l ++ [a]) → chainE E l
 | [], _, _ => trivial
 | [_], _, _ => trivial
 | c :: d :: r, _, h => ⟨h.1, chainE_pop (d :: r) h.2⟩
structure DfsI (n : Nat) (E : Int → Int → Prop) (out stack : List Int) : Prop where
 nd : (out ++ stack).Nodup
 rng : ∀ x ∈ out ++ stack, 0 ≤ x ∧ x < n
 path : chainE E stack
 cl : ∀ u ∈ out, ∀ v, E u v → v ∈ out ∨ v ∈ stack
 J : ∀ u ∈ out, ∀ x, Rch E u x → x ∉ out → ∃ s ∈ stack, Rch E u s ∧ Rch E s u ∧ Rch E s x
 K : ∀ (i : Nat) (r : Int), out[i]? = some r → ∀ u, Rch E u r → Rch E r u ∨ ∃ u', Rch E u u' ∧ Rch E u' u ∧ (u' ∉ out ∨ ∃ j, i < j ∧ out[j]? = some u')
theorem DfsI.start (n : Nat) (E : Int → Int → Prop) : DfsI n E [] [] := ⟨by simp, by simp, trivial, by simp, by simp, by simp⟩
theorem DfsI.push {n : Nat} {E : Int → Int → Prop} {out stack : List Int} (h : DfsI n E out stack) {b : Int} (hb : 0 ≤ b ∧ b < n) (hn : b ∉ out ++ stack) (hp : chainE E (stack ++ [b])) : DfsI n E out (stack ++ [b]) := by
 refine ⟨?_, fun x hx => ?_, hp, fun u hu v hv => ?_, fun u hu x hx hxo => ?_, h.K⟩
 ·rw [← List.append_assoc, List.nodup_append]
  refine ⟨h.nd, by simp, fun x hx y hy => ?_⟩
  rw [List.mem_singleton.1 hy]
  exact fun e => hn (e ▸ hx)
 ·rw [← List.append_assoc] at hx
  rcases List.mem_append.1 hx with hx | hx
  ·exact h.rng x hx
  ·rw [List.mem_singleton.1 hx]; exact hb
 ·rcases h.cl u hu v hv with h1 | h1
  ·exact .inl h1
  ·exact .inr (List.mem_append.2 (.inl h1))
 ·obtain ⟨s, h1, h2⟩ := h.J u hu x hx hxo
  exact ⟨s, List.mem_append.2 (.inl h1), h2⟩
theorem DfsI.pop {n : Nat} {E : Int → Int → Prop} {out st : List Int} {a : Int} (h : DfsI n E out (st ++ [a])) (ha : ∀ v, E a v → v ∈ out ∨ v ∈ st ++ [a]) : DfsI n E (out ++ [a]) st := by
 have hnd := h.nd
 rw [List.nodup_append] at hnd
 obtain ⟨hn1, hn2, hn3⟩ := hnd
 rw [List.nodup_append] at hn2
 obtain ⟨hn4, _, hn5⟩ := hn2
 have hao : a ∉ out := fun hm => hn3 a hm a (by simp) rfl
 have hast : a ∉ st := fun hm => hn5 a hm a (by simp) rfl
 have hcl : ∀ u ∈ out ++ [a], ∀ v, E u v → v ∈ out ++ [a] ∨ v ∈ st := fun u hu v hv => by
  have : v ∈ out ∨ v ∈ st ++ [a] := by
   rcases List.mem_append.1 hu with hu | hu
   ·exact h.cl u hu v hv
   ·rw [List.mem_singleton.1 hu] at hv; exact ha v hv
  rcases this with h1 | h1
  ·exact .inl (List.mem_append.2 (.inl h1))
  ·rcases List.mem_append.1 h1 with h1 | h1
   ·exact .inr h1
   ·exact .inl (List.mem_append.2 (.inr h1))
 have hfst : ∀ u ∈ out ++ [a], ∀ x, Rch E u x → x ∉ out ++ [a] → ∃ y ∈ st, Rch E u y ∧ Rch E y x := fun u hu x hx hxo => by
  obtain ⟨z, y, h1, h2, h3, h4, h5⟩ := first_out hx hu hxo
  rcases hcl z h1 y h2 with h6 | h6
  ·exact absurd h6 h3
  ·exact ⟨y, h6, h4, h5⟩
 have hya : ∀ y ∈ st, Rch E y a := fun y hy => chainE_last st h.path (List.mem_append.2 (.inl hy))
 refine ⟨?_, fun x hx => ?_, chainE_pop st h.path, hcl, fun u hu x hx hxo => ?_, fun i r hi u hu => ?_⟩
 ·rw [List.append_assoc, List.nodup_append]
  refine ⟨hn1, ?_, fun x hx y hy => hn3 x hx y (by simp at hy ⊢; exact hy.symm)⟩
  rw [List.nodup_append]
  refine ⟨by simp, hn4, fun x hx y hy e => ?_⟩
  rw [List.mem_singleton.1 hx] at e
  exact hast (e ▸ hy)
 ·refine h.rng x ?_
  simp only [List.mem_append, List.mem_singleton] at hx ⊢
  rcases hx with (h1 | h1) | h1
  ·exact .inl h1
  ·exact .inr (.inr h1)
  ·exact .inr (.inl h1)
 ·obtain ⟨y, h1, h2, h3⟩ := hfst u hu x hx hxo
  rcases List.mem_append.1 hu with hu | hu
  ·have hyo : y ∉ out := fun hm => hn3 y hm y (List.mem_append.2 (.inl h1)) rfl
   obtain ⟨s, h4, h5, h6, h7⟩ := h.J u hu y h2 hyo
   rcases List.mem_append.1 h4 with h4 | h4
   ·exact ⟨s, h4, h5, h6, h7.trans h3⟩
   ·rw [List.mem_singleton.1 h4] at h5 h6
    exact ⟨y, h1, h2, (hya y h1).trans h6, h3⟩
  ·rw [List.mem_singleton.1 hu] at h2 ⊢
   exact ⟨y, h1, h2, hya y h1, h3⟩
 ·rcases Nat.lt_or_ge i out.length with hil | hil
  ·rw [List.getElem?_append_left hil] at hi
   rcases h.K i r hi u hu with h1 | ⟨u', h1, h2, h3⟩
   ·exact .inl h1
   ·refine .inr ⟨u', h1, h2, ?_⟩
    rcases h3 with h3 | ⟨j, h3, h4⟩
    ·by_cases hua : u' = a
     ·exact .inr ⟨out.length, hil, by rw [hua]; simp⟩
     ·exact .inl fun hm => by
       rcases List.mem_append.1 hm with hm | hm
       ·exact h3 hm
       ·exact hua (List.mem_singleton.1 hm)
    ·exact .inr ⟨j, h3, by rw [List.getElem?_append_left (List.getElem?_eq_some_iff.1 h4).1]; exact h4⟩
  ·have hr : r = a := by
    have h1 := (List.getElem?_eq_some_iff.1 hi).1
    simp at h1
    rw [List.getElem?_append_right hil, show i - out.length = 0 by omega] at hi
    simpa using hi.symm
   subst hr
   by_cases hau : Rch E r u
   ·exact .inl hau
   ·right
    by_cases huo : u ∈ out
    ·obtain ⟨s, h4, h5, h6, h7⟩ := h.J u huo r hu hao
     rcases List.mem_append.1 h4 with h4 | h4
     ·refine ⟨s, h5, h6, .inl fun hm => ?_⟩
      rcases List.mem_append.1 hm with hm | hm
      ·exact hn3 s hm s (List.mem_append.2 (.inl h4)) rfl
      ·rw [List.mem_singleton.1 hm] at h4; exact hast h4
     ·rw [List.mem_singleton.1 h4] at h6
      exact absurd h6 hau
    ·refine ⟨u, .refl, .refl, .inl fun hm => ?_⟩
     rcases List.mem_append.1 hm with hm | hm
     ·exact huo hm
     ·rw [List.mem_singleton.1 hm] at hau
      exact hau .refl
structure EndsP (n : Nat) (E : Int → Int → Prop) (es : List Int) : Prop where
 nd : es.Nodup
 mem : ∀ x : Int, x ∈ es ↔ 0 ≤ x ∧ x < n
 K : ∀ (i : Nat) (r : Int), es[i]? = some r → ∀ u : Int, 0 ≤ u ∧ u < n → Rch E u r → Rch E r u ∨ ∃ u', Rch E u u' ∧ Rch E u' u ∧ ∃ j, i < j ∧ es[j]? = some u'
theorem DfsI.fin {n : Nat} {E : Int → Int → Prop} (hE : ∀ x y, E x y → 0 ≤ y ∧ y < n) {out : List Int} (h : DfsI n E out []) (hall : ∀ x : Int, 0 ≤ x ∧ x < n → x ∈ out) : EndsP n E out := by
 refine ⟨by simpa using h.nd, fun x => ⟨fun hx => h.rng x (by simpa using hx), hall x⟩, fun i r hi u hur hu => ?_⟩
 rcases h.K i r hi u hu with h1 | ⟨u', h1, h2, h3⟩
 ·exact .inl h1
 ·refine .inr ⟨u', h1, h2, ?_⟩
  rcases h3 with h3 | h3
  ·exfalso
   apply h3
   apply hall
   cases h1 with
   | refl => exact hur
   | tail _ hr => exact hE _ _ hr
  ·exact h3
def sccP (E : Int → Int → Prop) (x y : Int) : Prop := Rch E x y ∧ Rch E y x
theorem sccP.refl {E : Int → Int → Prop} (x : Int) : sccP E x x := ⟨.refl, .refl⟩
theorem sccP.symm {E : Int → Int → Prop} {x y : Int} (h : sccP E x y) : sccP E y x := ⟨h.2, h.1⟩
theorem sccP.trans {E : Int → Int → Prop} {x y z : Int} (h : sccP E x y) (h' : sccP E y z) : sccP E x z := ⟨h.1.trans h'.1, h'.2.trans h.2⟩
def SeenP (E : Int → Int → Prop) (es : List Int) (i : Nat) (x : Int) : Prop := ∃ (j : Nat) (y : Int), i ≤ j ∧ es[j]? = some y ∧ sccP E x y
theorem back_part {n : Nat} {E : Int → Int → Prop} (hE : ∀ x y, E x y → (0 ≤ x ∧ x < n) ∧ 0 ≤ y ∧ y < n) {es : List Int} (h : EndsP n E es) {i : Nat} {r : Int} (hi : es[i]? = some r) (hr : ¬ SeenP E es (i + 1) r) (x : Int) :
  Rch (fun a b => E b a ∧ ¬ SeenP E es (i + 1) b) r x ↔ sccP E r x := by
 have hrr := (h.mem r).1 (List.mem_of_getElem? hi)
 constructor
 ·intro hx
  have key : (0 ≤ x ∧ x < n) ∧ ¬ SeenP E es (i + 1) x ∧ Rch E x r := hx.closed (S := fun x : Int => (0 ≤ x ∧ x < n) ∧ ¬ SeenP E es (i + 1) x ∧ Rch E x r) (fun a b ⟨h1, h2, h3⟩ ⟨h4, h5⟩ => ⟨(hE _ _ h4).1, h5, .head h4 h3⟩) ⟨hrr, hr, .refl⟩
  refine ⟨?_, key.2.2⟩
  rcases h.K i r hi x key.1 key.2.2 with h1 | ⟨u', h1, h2, j, h3, h4⟩
  ·exact h1
  ·exact absurd ⟨j, u', h3, h4, h1, h2⟩ key.2.1
 ·rintro ⟨h1, h2⟩
  have hns : ∀ y, sccP E r y → ¬ SeenP E es (i + 1) y := fun y hy ⟨j, z, h3, h4, h5⟩ => hr ⟨j, z, h3, h4, hy.trans h5⟩
  have key : ∀ {a b : Int}, Rch E a b → Rch E r a → Rch E b r → Rch (fun a b => E b a ∧ ¬ SeenP E es (i + 1) b) b a := fun {a b} hab => by
   induction hab with
   | refl => intro _ _; exact .refl
   | @tail b c hab hbc ih =>
     intro h3 h4
     have h5 : Rch E b r := .head hbc h4
     exact .head ⟨hbc, hns b ⟨h3.trans hab, h5⟩⟩ (ih h3 h5)
  exact key h2 h1 .refl
theorem seen_skip {E : Int → Int → Prop} {es : List Int} {i : Nat} {r : Int} (hi : es[i]? = some r) (hr : SeenP E es (i + 1) r) (x : Int) : SeenP E es i x ↔ SeenP E es (i + 1) x := by
 constructor
 ·rintro ⟨j, y, h1, h2, h3⟩
  rcases Nat.eq_or_lt_of_le h1 with h4 | h4
  ·subst h4
   rw [hi] at h2
   cases h2
   obtain ⟨k, z, h5, h6, h7⟩ := hr
   exact ⟨k, z, h5, h6, h3.trans h7⟩
  ·exact ⟨j, y, h4, h2, h3⟩
 ·rintro ⟨j, y, h1, h2, h3⟩
  exact ⟨j, y, by omega, h2, h3⟩
theorem seen_next {E : Int → Int → Prop} {es : List Int} {i : Nat} {r : Int} (hi : es[i]? = some r) (x : Int) : SeenP E es i x ↔ SeenP E es (i + 1) x ∨ sccP E r x := by
 constructor
 ·rintro ⟨j, y, h1, h2, h3⟩
  rcases Nat.eq_or_lt_of_le h1 with h4 | h4
  ·subst h4
   rw [hi] at h2
   cases h2
   exact .inr h3.symm
  ·exact .inl ⟨j, y, h4, h2, h3⟩
 ·rintro (⟨j, y, h1, h2, h3⟩ | h)
  ·exact ⟨j, y, by omega, h2, h3⟩
  ·exact ⟨i, r, Nat.le_refl _, hi, h.symm⟩
theorem seen_all {n : Nat} {E : Int → Int → Prop} {es : List Int} (h : EndsP n E es) {x : Int} (hx : 0 ≤ x ∧ x < n) : SeenP E es 0 x := by
 obtain ⟨j, hj⟩ := List.mem_iff_getElem?.1 ((h.mem x).2 hx)
 exact ⟨j, x, Nat.zero_le _, hj, .refl x⟩
end Go.Ab
