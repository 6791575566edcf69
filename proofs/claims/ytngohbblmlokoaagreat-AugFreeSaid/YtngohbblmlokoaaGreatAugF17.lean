/- LAW: without jumps all is come to; main alone can come to its end. -/
import Derived.Test.YtngohbblmlokoaaGreatAugF9
import Derived.Test.YtngohbblmlokoaaGreatAugF10
import Derived.Test.YtngohbblmlokoaaGreatAugF11
import Derived.Test.YtngohbblmlokoaaGreatAugF14
import Derived.Test.YtngohbblmlokoaaGreatAugF15
import Derived.Test.YtngohbblmlokoaaGreatAugF16
set_option linter.unusedSimpArgs false
set_option linter.unusedVariables false
namespace Go.Ab
open Go.Proofs
/-- What is closed under the steps of a row's statements. -/
def closedI (sh : Sheet) (f : Pr) (R : Int → Prop) (l : List Item) : Prop := ∀ it ∈ l, R it.s.id → ∀ y ∈ goesI sh f it, R y
theorem closedI.sub {sh : Sheet} {f : Pr} {R : Int → Prop} {l m : List Item} (h : closedI sh f R l) (hs : ∀ x ∈ m, x ∈ l) : closedI sh f R m := fun it hi => h it (hs it hi)
mutual
theorem liveS {sh : Sheet} {f : Pr} {R : Int → Prop} (proc : Int) : ∀ (t : S) {nest m : Int} (up nx lp : Int) (n : Nat), rowS nest n t = some m → (∀ u ∈ flS t, u.kind < 7) → closedI sh f R (itS proc up nx lp n t) → R t.id → (∀ it ∈ itS proc up nx lp n t, R it.s.id) ∧ R nx
  | .mk id kind labels name pr x has args thn els, nest, m, up, nx, lp, n, h, hk, hc, h0 => by
    obtain ⟨h1, hid, m1, h3, h4⟩ := rowS_parts h
    have hF := one_facts h1
    have hid : id = (n : Int) + 1 := hid
    have hm1 := rowL_cnt _ _ thn h3
    rw [itS] at hc ⊢
    have hg : ∀ y ∈ (if kind = 5 then [headI thn nx, headI els nx] else if kind = 6 then [headI thn id, nx] else if kind = 7 then [((sh.l[(lp - 1).toNat]?).map Item.next).getD 0] else if kind = 8 then [lp] else if kind = 9 then [-1] else if kind = 10 then [(atB f name).1] else [nx]), R y := hc _ List.mem_cons_self h0
    have hkt : ∀ u ∈ flL thn, u.kind < 7 := fun u hu => hk u (by rw [flS]; exact List.mem_cons_of_mem _ (List.mem_append.2 (.inl hu)))
    have hke : ∀ u ∈ flL els, u.kind < 7 := fun u hu => hk u (by rw [flS]; exact List.mem_cons_of_mem _ (List.mem_append.2 (.inr hu)))
    have hk0 : kind < 7 := by
      have := hk (.mk id kind labels name pr x has args thn els) (by rw [flS]; exact List.mem_cons_self)
      exact this
    have h3' : rowL (nest + 1) ((n + 1 : Nat) : Int) thn = some m1 := by rw [← h3]; rfl
    have h4' : rowL (nest + 1) ((n + 1 + cntL thn : Nat) : Int) els = some m := by
      rw [← h4, hm1]
      congr 1
    have hct := closedI.sub hc (m := itL proc (n + 1) (if kind = 6 then n + 1 else nx) (if kind = 6 then n + 1 else lp) (n + 1) thn) fun x hx => List.mem_cons_of_mem _ (List.mem_append.2 (.inl hx))
    have hce := closedI.sub hc (m := itL proc (n + 1) (if kind = 6 then n + 1 else nx) (if kind = 6 then n + 1 else lp) (n + 1 + cntL thn) els) fun x hx => List.mem_cons_of_mem _ (List.mem_append.2 (.inr hx))
    have fin : R nx → R (headI thn (if kind = 6 then n + 1 else nx)) → R (headI els (if kind = 6 then n + 1 else nx)) → (∀ it ∈ (⟨.mk id kind labels name pr x has args thn els, proc, up, nx, lp⟩ : Item) :: (itL proc (n + 1) (if kind = 6 then n + 1 else nx) (if kind = 6 then n + 1 else lp) (n + 1) thn ++ itL proc (n + 1) (if kind = 6 then n + 1 else nx) (if kind = 6 then n + 1 else lp) (n + 1 + cntL thn) els), R it.s.id) ∧ R nx := fun hn ht he => by
      have q1 := liveL' proc thn (n + 1) _ _ (n + 1) h3' hkt hct ht
      have q2 := liveL' proc els (n + 1) _ _ (n + 1 + cntL thn) h4' hke hce he
      refine ⟨fun it hi => ?_, hn⟩
      rcases List.mem_cons.1 hi with rfl | hi
      · exact h0
      · rcases List.mem_append.1 hi with hi | hi
        · exact q1.1 it hi
        · exact q2.1 it hi
    by_cases k5 : kind = 5
    · rw [if_pos k5] at hg
      have hne : ¬ kind = 6 := by omega
      simp only [if_neg hne] at hct hce fin ⊢
      have a1 := hg _ List.mem_cons_self
      have a2 := hg _ (List.mem_cons_of_mem _ List.mem_cons_self)
      have q1 := liveL' proc thn (n + 1) _ _ (n + 1) h3' hkt hct a1
      exact fin q1.2 a1 a2
    · rw [if_neg k5] at hg
      have he0 : els = [] := List.eq_nil_of_length_eq_zero (hF.els.resolve_right k5)
      by_cases k6 : kind = 6
      · rw [if_pos k6] at hg
        simp only [if_pos k6] at hct hce fin ⊢
        have a1 := hg _ List.mem_cons_self
        have a2 := hg _ (List.mem_cons_of_mem _ List.mem_cons_self)
        have e0 : R ((n : Int) + 1) := by rw [← hid]; exact h0
        refine fin a2 ?_ ?_
        · rw [← hid]; exact a1
        · rw [he0]; exact e0
      · rw [if_neg k6, if_neg (by omega), if_neg (by omega), if_neg (by omega), if_neg (by omega)] at hg
        simp only [if_neg k6] at hct hce fin ⊢
        have a1 := hg _ List.mem_cons_self
        have ht0 : thn = [] := List.eq_nil_of_length_eq_zero (by rcases hF.thn with h | h | h; exact h; exact absurd h k5; exact absurd h k6)
        exact fin a1 (by rw [ht0]; exact a1) (by rw [he0]; exact a1)
theorem liveL' {sh : Sheet} {f : Pr} {R : Int → Prop} (proc : Int) : ∀ (l : List S) {nest m : Int} (up nx lp : Int) (n : Nat), rowL nest n l = some m → (∀ u ∈ flL l, u.kind < 7) → closedI sh f R (itL proc up nx lp n l) → R (headI l nx) → (∀ it ∈ itL proc up nx lp n l, R it.s.id) ∧ R nx
  | [], nest, m, up, nx, lp, n, h, hk, hc, h0 => by
    rw [itL]
    exact ⟨fun it hi => (by cases hi), h0⟩
  | t :: r, nest, m, up, nx, lp, n, h, hk, hc, h0 => by
    obtain ⟨_, m1, h1, h2⟩ := rowL_parts h
    have hm1 := rowS_cnt _ _ t h1
    have h2' : rowL nest ((n + cntS t : Nat) : Int) r = some m := by rw [← h2, hm1]; rfl
    rw [itL] at hc ⊢
    have q1 := liveS proc t up _ lp n h1 (fun u hu => hk u (by rw [flL]; exact List.mem_append.2 (.inl hu))) (closedI.sub hc fun x hx => List.mem_append.2 (.inl hx)) h0
    have hr0 : R (headI r nx) := by
      cases r with
      | nil => exact q1.2
      | cons u r =>
        have h3 := q1.2
        obtain ⟨_, m2, h4, _⟩ := rowL_parts h2'
        obtain ⟨_, hid, _⟩ := rowS_parts h4
        rw [if_neg (by simp)] at h3
        show R u.id
        rw [hid]
        have : ((n + cntS t : Nat) : Int) + 1 = (n : Int) + 1 + cntS t := by omega
        rw [this]
        exact h3
    have q2 := liveL' proc r up nx lp (n + cntS t) h2' (fun u hu => hk u (by rw [flL]; exact List.mem_append.2 (.inr hu))) (closedI.sub hc fun x hx => List.mem_append.2 (.inr hx)) hr0
    refine ⟨fun it hi => ?_, q2.2⟩
    rcases List.mem_append.1 hi with hi | hi
    · exact q1.1 it hi
    · exact q2.1 it hi
end
theorem mayPrs_row : ∀ (l : List Pr) {n : Nat} {m : Int}, mayPrs n l = some m → ∀ (j : Nat) (f : Pr), l[j]? = some f → ∃ m', rowL 1 ((n + offN l j : Nat) : Int) f.body = some m'
  | [], _, _, _, j, f, hj => by simp at hj
  | g :: r, n, m, h, j, f, hj => by
    rw [mayPrs] at h
    cases hm : mayPr g <;> rw [hm] at h
    · cases h
    simp only [cond_true] at h
    split at h
    · rename_i m1 h1
      cases j with
      | zero =>
        cases hj
        exact ⟨m1, h1⟩
      | succ j =>
        have h2 := rowL_cnt _ _ g.body h1
        have h' : mayPrs ((n + cntL g.body : Nat) : Int) r = some m := by rw [← h, h2]; rfl
        obtain ⟨m', h3⟩ := mayPrs_row r h' j f (by simpa using hj)
        exact ⟨m', by rw [← h3, offN]; congr 1; omega⟩
    · cases h
theorem may_row {p : Pg} (h : mayB p = true) {j : Nat} {f : Pr} (hj : p.procs[j]? = some f) : ∃ m, rowL 1 ((offN p.procs j : Nat) : Int) f.body = some m := by
  unfold mayB at h
  simp only [Bool.and_eq_true] at h
  obtain ⟨m, hm⟩ := Option.isSome_iff_exists.1 h.2
  obtain ⟨m', h'⟩ := mayPrs_row p.procs (n := 0) hm j f hj
  exact ⟨m', by rw [← h']; congr 1; omega⟩
/-- Without jumps all of a procedure is come to, its exit, too. -/
theorem all_live {p : Pg} (h : chkB p = true) {j : Nat} {f : Pr} (hj : p.procs[j]? = some f) (hk : ∀ u ∈ flL f.body, u.kind < 7) : (∀ t ∈ flL f.body, Rch (wR p j f) 0 t.id) ∧ Rch (wR p j f) 0 (-1) := by
  obtain ⟨hm, _⟩ := chk_parts h
  obtain ⟨m, hr⟩ := may_row hm hj
  have hc : closedI (sheetOf p) f (Rch (wR p j f) 0) (itL (j : Nat) 0 (-1) 0 (offN p.procs j) f.body) := fun it hi h0 y hy => .tail h0 ⟨⟨it.s.id, y, 1⟩, ((real_spec h hj).2 _).2 (raw_go hi hy), rfl, rfl⟩
  have h0 : Rch (wR p j f) 0 (headI f.body (-1)) := by
    rw [← fst_head h hj]
    exact .tail .refl (entry_go h hj)
  obtain ⟨q1, q2⟩ := liveL' (j : Nat) f.body 0 (-1) 0 (offN p.procs j) hr hk hc h0
  refine ⟨fun t ht => ?_, q2⟩
  rw [← itL_s (j : Nat) 0 (-1) 0 (offN p.procs j)] at ht
  obtain ⟨it, hi, rfl⟩ := List.mem_map.1 ht
  exact q1 it hi
theorem setAll_get : ∀ (l : List Int) (b : List Bool) (i : Nat), i < b.length → ((setAll l b).getD i false = true ↔ b.getD i false = true ∨ ∃ a ∈ l, a.toNat = i)
  | [], b, i, hi => by simp [setAll]
  | a :: r, b, i, hi => by
    have ih := setAll_get r (b.set a.toNat true) i (by rw [List.length_set]; exact hi)
    have e : setAll (a :: r) b = setAll r (b.set a.toNat true) := rfl
    rw [e, ih]
    simp only [List.mem_cons, exists_eq_or_imp]
    by_cases ha : a.toNat = i
    · simp [ha, hi, List.getD_eq_getElem?_getD, List.getElem?_set]
    · simp [ha, List.getD_eq_getElem?_getD, List.getElem?_set]
theorem live_iff {p : Pg} (h : chkB p = true) {j : Nat} {f : Pr} (hj : p.procs[j]? = some f) {y : Int} (hy : plP p j f y) : (newWay p j f).live.getD (ixI p j f y).toNat false = true ↔ Rch (wR p j f) 0 y := by
  have hrng := ix_rng hy
  have hl : (newWay p j f).live = setAll (lstI 0 (reachB (graphE (cntL f.body + 2) ((newWay p j f).real.map (ixP p j f (cntL f.body + 2 : Nat)))).1 [0])) (List.replicate (cntL f.body + 2) false) := rfl
  rw [hl, setAll_get _ _ _ (by rw [List.length_replicate]; omega)]
  have h0 : (List.replicate (cntL f.body + 2) false).getD (ixI p j f y).toNat false = false := by
    rw [List.getD_eq_getElem?_getD, List.getElem?_replicate]
    split <;> rfl
  rw [h0]
  have hs := step_reach (F := (newWay p j f).real) (real_places h hj) hy
  unfold wR
  rw [← hs]
  constructor
  · rintro (h1 | ⟨a, h1, h2⟩)
    · cases h1
    · have ha := lstI_mem _ _ _ h1
      rwa [show ixI p j f y = a by omega]
  · exact fun h1 => .inr ⟨_, h1, rfl⟩
theorem live_len {p : Pg} (h : chkB p = true) {j : Nat} {f : Pr} (hj : p.procs[j]? = some f) (hk : ∀ u ∈ flL f.body, u.kind < 7) : (liveL (newWay p j f)).length = cntL f.body := by
  obtain ⟨h1, _⟩ := all_live h hj hk
  unfold liveL
  rw [List.length_map, List.filter_eq_self.2 fun i hi => ?_, List.length_range']
  · show (((cntL f.body + 2 : Nat) : Int) - 2).toNat = _
    omega
  · obtain ⟨q, hq, rfl⟩ := List.mem_range'.1 hi
    have hq : q < (((cntL f.body + 2 : Nat) : Int) - 2).toNat := hq
    have hm := (chk_parts h).1
    have hids := may_ids hm hj
    have hmem : ((offN p.procs j : Nat) : Int) + (1 + 1 * q : Nat) ∈ idsN (offN p.procs j) (cntL f.body) := idsN_has (by omega) (by omega)
    rw [← hids] at hmem
    obtain ⟨t, ht, hte⟩ := List.mem_map.1 hmem
    have hl := h1 t ht
    have hpl : plP p j f t.id := by
      unfold plP
      rw [hte]
      omega
    have := (live_iff h hj hpl).2 hl
    have e : (ixI p j f t.id).toNat = 1 + 1 * q := by
      unfold ixI indexI loI hiI
      rw [hte, if_neg (by omega), if_neg (by omega), if_pos (by omega)]
      omega
    rwa [e] at this
section
variable {p : Pg} {k : Nat} {f : Pr}
theorem g_cntP : cntP (Pg.procs ⟨p.globals, [gOf false f]⟩) = cntL (gOf false f).body := by
  show cntL (gOf false f).body + 0 = _
  omega
theorem g_way (hc : chkB ⟨p.globals, [gOf false f]⟩ = true) (hn : f.name = mainS) : wayO ⟨p.globals, [gOf false f]⟩ mainS = some (newWay ⟨p.globals, [gOf false f]⟩ 0 (gOf false f)) := by
  unfold wayO
  rw [hc, cond_true]
  have e : ((gOf false f).name == mainS) = true := by rw [show (gOf false f).name = mainS from hn]; simp
  simp only [List.find?_cons, e, List.findIdx_cons, cond_true]
theorem g_kind {u : S} (hu : u ∈ flL (gOf false f).body) : u.kind < 7 := by
  obtain ⟨s, _, hs⟩ := g_flat hu
  exact hs.kind.2
theorem g_ends (hc : chkB ⟨p.globals, [gOf false f]⟩ = true) (hn : f.name = mainS) : endsR ⟨p.globals, [gOf false f]⟩ = [mainS] := by
  have hj : (Pg.procs ⟨p.globals, [gOf false f]⟩)[0]? = some (gOf false f) := rfl
  have hw : ∀ E, endsW (newWay ⟨p.globals, [gOf false f]⟩ 0 (gOf false f)) (gOf false f) E = true := fun E => by
    rw [endsW_iff hc hj]
    unfold endP
    rw [List.filter_eq_self.2 fun s hs => ?_]
    · exact (all_live hc hj fun u hu => g_kind hu).2
    · unfold keepE
      rcases (real_places hc hj s hs).1 with h0 | h0 | h0
      · rw [decide_eq_true h0]; rfl
      · rcases raw_src0 hc hj (((real_spec hc hj).2 s).1 hs) with h1 | h1
        · rw [h1]
          rfl
        · omega
      · obtain ⟨t, ht, h1, _⟩ := stAt_own hc hj h0.1 h0.2
        rw [h1]
        obtain ⟨u, _, hu⟩ := g_flat ht
        simp [hu.kind.1]
  unfold endsR
  rw [hc, cond_true, show (Pg.procs ⟨p.globals, [gOf false f]⟩).length + 1 = 2 from rfl]
  have r1 : roundE ⟨p.globals, [gOf false f]⟩ [] = ([mainS], true) := by
    unfold roundE
    show [0].foldl _ _ = _
    simp only [List.foldl_cons, List.foldl_nil]
    unfold endS
    simp only [List.getElem?_cons_zero]
    rw [hw]
    show (bif true && true then ([] ++ [(gOf false f).name], true) else ([], false)) = _
    rw [show (gOf false f).name = mainS from hn]
    rfl
  have r2 : roundE ⟨p.globals, [gOf false f]⟩ [mainS] = ([mainS], false) := by
    unfold roundE
    show [0].foldl _ _ = _
    simp only [List.foldl_cons, List.foldl_nil]
    unfold endS
    simp only [List.getElem?_cons_zero]
    have : ([mainS].any fun s => (gOf false f).name == s) = true := by rw [show (gOf false f).name = mainS from hn]; simp
    rw [this]
    rfl
  rw [endsF, r1]
  show sortS (endsF _ 1 [mainS]) = _
  rw [endsF, r2]
  show sortS [mainS] = _
  unfold sortS
  simp
end
end Go.Ab
namespace Go.Ab
open Go.Proofs
end Go.Ab
namespace Go.Ab
open Go.Proofs
end Go.Ab
namespace Go.Ab
open Go.Proofs
end Go.Ab
namespace Go.Ab
open Go.Proofs
theorem aug_ok {p : Pg} (h : chkB p = true) {j : Nat} {f : Pr} (hj : p.procs[j]? = some f) : ∀ s ∈ augRaw (newWay p j f) f, okSt s := fun s hs => by
  unfold augRaw at hs
  rcases List.mem_append.1 hs with hs | hs
  · rcases List.mem_append.1 hs with hs | hs
    · exact data_ok h hj s hs
    · rw [List.mem_singleton.1 hs]
      exact ⟨by decide, by decide⟩
  · obtain ⟨it, hi, hs⟩ := List.mem_flatMap.1 hs
    exact nextR_ok h hj it hi s hs
end Go.Ab
namespace Go.Ab
open Go.Proofs
theorem offN_le : ∀ (l : List Pr) (j : Nat), offN l j ≤ cntP l
  | _, 0 => by rw [offN]; omega
  | [], j + 1 => by rw [offN]; omega
  | g :: r, j + 1 => by rw [offN, cntP]; have := offN_le r j; omega
theorem free_traps {p : Pg} (h : chkB p = true) {j : Nat} {f : Pr} (hj : p.procs[j]? = some f) (hk : ∀ u ∈ flL f.body, u.kind < 7) : trapsW (newWay p j f) f = [] := by
  refine List.eq_nil_iff_forall_not_mem.2 fun l hl => ?_
  obtain ⟨r, hr⟩ := trap_spec h hj hl
  obtain ⟨t, ht, _, h10⟩ := trap_goto h hj hr.pl hr.cl hr.n0 hr.nx
  have := hk t ht
  omega
theorem free_virt {p : Pg} (h : chkB p = true) {j : Nat} {f : Pr} (hj : p.procs[j]? = some f) (hk : ∀ u ∈ flL f.body, u.kind < 7) : virtW (newWay p j f) f = [] := by
  unfold virtW
  rw [free_traps h hj hk]
  rfl
theorem free_data {p : Pg} (h : chkB p = true) {j : Nat} {f : Pr} (hj : p.procs[j]? = some f) (hk : ∀ u ∈ flL f.body, u.kind < 7) : dataW (newWay p j f) f = (newWay p j f).real := by
  have hok := data_ok h hj
  unfold dataW
  rw [free_virt h hj hk] at hok ⊢
  exact normS_eq hok (real_spec h hj).1 (fun s hs => hs) fun s hs => ⟨s, hs, rfl, rfl, Int.le_refl _⟩
/-- All steps of a procedure without jumps. -/
def wantR (L : List Step) : List Step := match L with
  | [] => []
  | s :: r => if s.dst = -1 then s :: r else s :: ⟨0, -1, 2⟩ :: r
theorem free_aug {p : Pg} (h : chkB p = true) {j : Nat} {f : Pr} (hj : p.procs[j]? = some f) (hk : ∀ u ∈ flL f.body, u.kind < 7) : augW (newWay p j f) f = wantR (newWay p j f).real := by
  have hok := aug_ok h hj
  have hfo : (itsOf p j f).flatMap fOf = [] := by
    rw [List.flatMap_eq_nil_iff]
    intro it hi
    unfold fOf
    have := hk it.s (its_s hi)
    rw [if_neg (by omega)]
  have hraw : augRaw (newWay p j f) f = (newWay p j f).real ++ [⟨0, -1, 2⟩] := by
    unfold augRaw
    rw [free_virt h hj hk, show itsOf (newWay p j f).p (newWay p j f).j f = itsOf p j f from rfl, hfo]
    simp
  unfold augW
  rw [hraw] at hok ⊢
  obtain ⟨hP, hM⟩ := real_spec h hj
  obtain ⟨r, hr, hr0⟩ := real_head h hj
  have hokr : ∀ s ∈ (newWay p j f).real, okSt s := fun s hs => hok s (List.mem_append.2 (.inl hs))
  rw [hr] at hP hok hokr ⊢
  unfold wantR
  simp only
  by_cases hd : fstI p j f = -1
  · rw [if_pos hd]
    refine normS_eq hok hP (fun s hs => List.mem_append.2 (.inl hs)) fun s hs => ?_
    rcases List.mem_append.1 hs with hs | hs
    · exact ⟨s, hs, rfl, rfl, Int.le_refl _⟩
    · rcases List.mem_singleton.1 hs with rfl
      exact ⟨_, List.mem_cons_self, rfl, hd, by show (1 : Int) ≤ 2; decide⟩
  · rw [if_neg hd]
    rw [List.pairwise_cons] at hP
    refine normS_eq hok ?_ (fun s hs => ?_) fun s hs => ?_
    · refine List.pairwise_cons.2 ⟨fun s hs => ?_, List.pairwise_cons.2 ⟨fun s hs => ?_, hP.2⟩⟩
      · rcases List.mem_cons.1 hs with rfl | hs
        · right
          refine ⟨rfl, ?_⟩
          have h1 := (real_places h hj ⟨0, fstI p j f, 1⟩ (by rw [hr]; exact List.mem_cons_self)).2
          have h2 := offN_le p.procs j
          have h3 := (chk_cnt h).2.2
          have h4 := cntP_mem _ _ (List.mem_of_getElem? hj)
          unfold plP at h1
          unfold rankI
          simp only at h1 ⊢
          split
          · omega
          · rw [if_pos True.intro]
            omega
        · exact hP.1 s hs
      · left
        have h1 := hP.1 s hs
        have h2 := hr0 s hs
        unfold ltSt at h1
        simp only at h1
        have e0 : rankI 0 = 0 := rfl
        rw [e0] at h1 ⊢
        rcases h1 with h1 | ⟨h1, _⟩
        · exact h1
        · unfold rankI at h1
          split at h1 <;> omega
    · rcases List.mem_cons.1 hs with rfl | hs
      · exact List.mem_append.2 (.inl List.mem_cons_self)
      · rcases List.mem_cons.1 hs with rfl | hs
        · exact List.mem_append.2 (.inr List.mem_cons_self)
        · exact List.mem_append.2 (.inl (List.mem_cons_of_mem _ hs))
    · refine ⟨s, ?_, rfl, rfl, Int.le_refl _⟩
      rcases List.mem_append.1 hs with hs | hs
      · rcases List.mem_cons.1 hs with rfl | hs
        · exact List.mem_cons_self
        · exact List.mem_cons_of_mem _ (List.mem_cons_of_mem _ hs)
      · rcases List.mem_singleton.1 hs with rfl
        exact List.mem_cons_of_mem _ List.mem_cons_self
end Go.Ab
namespace Go.Ab
open Go.Proofs
/-- What is asked of a program that is copied. -/
structure CopyF (p : Pg) : Prop where
  procs : p.procs.length ≤ 1000
  globals : p.globals.length ≤ 1000000
  pr : ∀ f ∈ p.procs, f.vars.length ≤ 1000000 ∧ f.fin.length ≤ 1000000 ∧ f.params.length ≤ 1000000 ∧ cntL f.body ≤ 100000 ∧ ∀ t ∈ flL f.body, okC t ∧ t.id ≠ -1
def putH (p : Pg) : Heap := [(2, .obj 25 [.p (eStrs p.globals), .hd 1 0 p.procs.length]), (1, .own 75 5 (p.procs.map fun f => .agg f.cells))]
def copyH (p : Pg) : Heap := [(6, .own 75 5 (p.procs.map fun f => .agg f.cells)), (1, .obj 25 [.p (eStrs p.globals), .hd 6 0 p.procs.length])]
set_option maxHeartbeats 8000000 in
set_option maxRecDepth 100000 in
theorem whittlerref3_Put (p : Pg) (h : CopyF p) : SpecH Tryz.prog 132 [.p (.agg p.cells), .p (.agg stmtM)] [] (fun r H => r = .agg [.p (eStrs p.globals), .hd 1 0 p.procs.length] ∧ H = putH p) := by
  refine SpecH.body I_whittlerref3_Put tabOK Tryz.func132 rfl Tryz.call132 (by show 2 ≤ _; decide) ?_
  conv => whnf
  have hgt := whittlerref3_texts p.globals h.globals
  have hpm : (p.procs.map fun f => AV.agg f.cells).length = p.procs.length := List.length_map _
  have hpl := h.procs
  repeat' ((first | (intro (_ : _ ≤ 9223372036854775807)) | (refine And.intro rfl ?_) | (refine CallK.pure hgt (.cons (Sub.refl _) .nil) ?_; rintro _ rfl)); conv => whnf)
  refine LoopK.inv tabOK (fun j : Nat => ⟨[(3, .p (.ip stmtM)), (4, .ptr 2 0), (5, .ptr 0 0), (14, .p (.sl (p.procs.map fun f => AV.agg f.cells))), (15, .p (.int .i64 (p.procs.map fun f => AV.agg f.cells).length)), (16, .p (.int .i64 j))], [(0, .obj 25 [.p (eStrs p.globals), .hd 1 0 j]), (2, .obj 25 [.p .nils, .p .nils]), (1, .own 75 5 ((p.procs.take j).map fun f => .agg f.cells))]⟩) (fun j => j ≤ p.procs.length) (fun j => p.procs.length - j) 0
    (Le.mk [(1, .own 75 5 [])] (by simp [Chunk.new0]; rfl) (by simp) (by simp) (.cons (.refl _) (.cons (.refl _) (.cons (.refl _) (.cons (.refl _) (.cons (.refl _) (.cons (.refl _) .nil)))))) (.cons rfl (.obj (.cons (.refl _) (.cons (.nil List.mem_cons_self) .nil))) (.cons rfl (.refl _) (.new List.mem_cons_self .nil)))) (Nat.zero_le _) ?_
  intro j h2
  rcases Nat.lt_or_ge j p.procs.length with hj | hj
  · obtain ⟨hv, hfin, hpm2, hcb, hok⟩ := h.pr _ (List.getElem_mem hj)
    have h5 := whittlerref3_texts p.procs[j].vars hv
    have h6 := whittlerref3_texts p.procs[j].fin hfin
    have h7 := whittlerref3_put (cntL p.procs[j].body + 1) p.procs[j].body (by omega) (by omega) hok
    have htl : ((p.procs.take j).map fun f => AV.agg f.cells).length = j := by rw [List.length_map, List.length_take]; omega
    have htk : ((p.procs.take (j + 1)).map fun f => AV.agg f.cells) = ((p.procs.take j).map fun f => AV.agg f.cells) ++ [.agg p.procs[j].cells] := by
      rw [List.take_succ_eq_append_getElem hj, List.map_append]
      rfl
    generalize ((p.procs.take j).map fun f => AV.agg f.cells) = acc at htl htk ⊢
    have hpa : (p.procs[j].params.map fun x => AV.agg x.cells).length = p.procs[j].params.length := List.length_map _
    conv => whnf
    repeat' (first | ((first | (refine DrawK.auto tabOK mixed (by kernel_rfl) ?_) | (refine And.intro rfl ?_) | (refine And.intro ⟨by decide, by decide⟩ ?_) | (refine IdxK.map (by omega) (fun _ => rfl) ?_) | (refine CallK.pure h5 (.cons (Sub.refl _) .nil) ?_; rintro _ rfl) | (refine CallK.pure h6 (.cons (Sub.refl _) .nil) ?_; rintro _ rfl) | (refine CallK.pure h7 (.cons (Sub.refl _) (.cons (Sub.refl _) .nil)) ?_; rintro _ rfl) | (refine AppK.mk rfl rfl (by rw [hpa]; show (0+p.procs[j].params.length) * 24 ≤ 140737488355328; omega) (by rw [hpa]; show 0+p.procs[j].params.length ≤ 9223372036854775807; omega) (fun x hx => by obtain ⟨y, _, rfl⟩ := List.mem_map.1 hx; exact ⟨rfl, rfl⟩) ?_)); conv => whnf) | (refine Br.dec (fun _ => ?_) (fun _ => ?_) <;> first | (exfalso; omega) | conv => whnf) | (refine And.intro ?_ ?_ <;> conv => whnf))
    all_goals
      refine OpK.layAgg tabOK (k := 4) 41 p.procs[j].cells rfl rfl rfl (fun q u c h1 h2 => ?_) ?_
      · match q, h1, h2 with
        | 0, h1, h2 => cases h1; cases h2; exact .inl ⟨_, rfl, Sub.refl _⟩
        | 1, h1, h2 => cases h1; cases h2; exact .inr ⟨_, rfl, by simp, rfl⟩
        | 2, h1, h2 => cases h1; cases h2; exact .inl ⟨_, rfl, Sub.refl _⟩
        | 3, h1, h2 => cases h1; cases h2; exact .inl ⟨_, rfl, Sub.refl _⟩
        | 4, h1, h2 => cases h1; cases h2; exact .inl ⟨_, rfl, Sub.refl _⟩
        | q + 5, h1, h2 => simp at h1
      conv => whnf
      repeat' ((first | (refine And.intro rfl ?_) | (refine And.intro ⟨by decide, by decide⟩ ?_) | (refine BsK.pure (fun x hx => by rcases List.mem_singleton.1 hx with rfl; rfl) rfl ?_) | (refine Wr.i64 (by omega) (by omega) ?_) | (refine AppK.mk htl.symm rfl (by show (j+1) * 112 ≤ 140737488355328; omega) (by show j+1 ≤ 9223372036854775807; omega) (fun x hx => by rcases List.mem_singleton.1 hx with rfl; exact ⟨rfl, rfl⟩) ?_)); conv => whnf)
      exact ⟨j + 1, hj, by omega, Le.of_eq (by rw [htk]; rfl)⟩
  · have hA : ((p.procs.take j).map fun f => AV.agg f.cells) = p.procs.map fun f => .agg f.cells := by
      rw [List.take_of_length_le hj]
    have hje : j = p.procs.length := by omega
    subst hje
    rw [hA]
    conv => whnf
    repeat' (first | (refine And.intro rfl ?_; conv => whnf) | (refine Br.dec (fun _ => ?_) (fun _ => ?_) <;> first | (exfalso; omega) | conv => whnf))
    exact ⟨_, LSub.refl _, rfl, rfl⟩
set_option maxHeartbeats 8000000 in
set_option maxRecDepth 100000 in
theorem whittlerref3_Copy (p : Pg) (h : CopyF p) : SpecH Tryz.prog 89 [.p (.agg p.cells)] [] (fun r H => r = .agg [.p (eStrs p.globals), .hd 6 0 p.procs.length] ∧ H = copyH p) := by
  refine SpecH.body I_whittlerref3_Copy tabOK Tryz.func89 rfl Tryz.call89 (by show 1 ≤ _; decide) ?_
  conv => whnf
  repeat' ((first | (refine And.intro rfl ?_) | (refine CallK.heap [] 5 (ArgsH.cons (LSub.refl _) (ArgsH.cons (LSub.refl _) ArgsH.nil)) BlksH.nil (whittlerref3_Put p h) rfl rfl ?_; rintro l' H' ⟨rfl, rfl⟩)); conv => whnf)
  exact ⟨_, LSub.refl _, rfl, rfl⟩
/-- The row while it is numbered. -/
def nmRow (p : Pg) (j : Nat) : List Pr := (nmPrs 0 p.procs).take j ++ p.procs.drop j
theorem nmPrs_get : ∀ (l : List Pr) (n j : Nat) (f : Pr), l[j]? = some f → (nmPrs n l)[j]? = some ⟨f.name, f.params, f.vars, nmL (n + offN l j) f.body, f.fin⟩
  | g :: r, n, 0, f, h => by cases h; rw [nmPrs]; rfl
  | g :: r, n, j + 1, f, h => by
    rw [nmPrs, List.getElem?_cons_succ, nmPrs_get r (n + cntL g.body) j f (by simpa using h), offN, Nat.add_assoc]
theorem nmPrs_len : ∀ (l : List Pr) (n : Nat), (nmPrs n l).length = l.length
  | [], n => rfl
  | g :: r, n => by rw [nmPrs, List.length_cons, List.length_cons, nmPrs_len r]
theorem nmRow_len (p : Pg) {j : Nat} (h : j ≤ p.procs.length) : (nmRow p j).length = p.procs.length := by
  unfold nmRow
  rw [List.length_append, List.length_take, List.length_drop, nmPrs_len]
  omega
theorem nmRow_get (p : Pg) {j : Nat} (hj : j < p.procs.length) : (nmRow p j)[j]? = some p.procs[j] := by
  unfold nmRow
  rw [List.getElem?_append_right (by rw [List.length_take, nmPrs_len]; omega), List.length_take, nmPrs_len, List.getElem?_drop]
  rw [show j + (j - min j p.procs.length) = j by omega, List.getElem?_eq_getElem hj]
theorem nmRow_succ (p : Pg) {j : Nat} (hj : j < p.procs.length) : nmRow p (j + 1) = (nmRow p j).set j ⟨p.procs[j].name, p.procs[j].params, p.procs[j].vars, nmL (offN p.procs j) p.procs[j].body, p.procs[j].fin⟩ := by
  have h1 := nmPrs_get p.procs 0 j _ (List.getElem?_eq_getElem hj)
  rw [Nat.zero_add] at h1
  unfold nmRow
  have hl : ((nmPrs 0 p.procs).take j).length = j := by rw [List.length_take, nmPrs_len]; omega
  rw [List.set_append_right _ _ (by omega), hl, Nat.sub_self, List.drop_eq_getElem_cons hj, List.set_cons_zero, List.take_add_one, h1]
  simp
theorem offN_step {l : List Pr} {j : Nat} (hj : j < l.length) : offN l (j + 1) = offN l j + cntL l[j].body := by
  induction l generalizing j with
  | nil => simp at hj
  | cons g r ih =>
    cases j with
    | zero => rw [offN, offN, offN]; simp
    | succ j =>
      rw [offN, offN, ih (by simpa using hj)]
      simp only [List.getElem_cons_succ]
      omega
set_option maxHeartbeats 8000000 in
set_option maxRecDepth 100000 in
theorem whittlerref3_Number (p : Pg) (h : CopyF p) (hc : cntP p.procs ≤ 100000) : SpecP Tryz.prog 91 [.agg p.cells] (fun r => r = .agg (nmPg p).cells) := by
  refine SpecP.body I_whittlerref3_Number tabOK Tryz.func91 rfl Tryz.call91 (by show 1 ≤ _; decide) ?_
  conv => whnf
  have hpm : (p.procs.map fun f => AV.agg f.cells).length = p.procs.length := List.length_map _
  have hpl := h.procs
  repeat' ((first | (intro (_ : _ ≤ 9223372036854775807)) | (refine And.intro rfl ?_) | (refine CallK.heap [] 20 (ArgsH.cons (LSub.refl _) ArgsH.nil) BlksH.nil (whittlerref3_Copy p h) rfl rfl ?_; rintro l' H' ⟨rfl, rfl⟩)); conv => whnf)
  refine LoopK.inv tabOK (fun j : Nat => ⟨[(1, .p (.ip p.cells)), (2, .ptr 1 0), (3, .ptr 0 0), (4, .p (.int .i64 (offN p.procs j))), (10, .p (.int .i64 p.procs.length)), (11, .p (.int .i64 j))], [(0, .obj 25 [.p (eStrs p.globals), .hd 26 0 p.procs.length]), (26, .own 75 5 ((nmRow p j).map fun f => .agg f.cells)), (1, .obj 25 [.p .nils, .p .nils])]⟩) (fun j => j ≤ p.procs.length) (fun j => p.procs.length - j) 0
    (Le.of_eq (by rw [show nmRow p 0 = p.procs from rfl, show offN p.procs 0 = 0 by rw [offN]]; rfl)) (Nat.zero_le _) ?_
  intro j h2
  have hrl := nmRow_len p h2
  rcases Nat.lt_or_ge j p.procs.length with hj | hj
  · obtain ⟨hv, hfin, hpm2, hcb, hok⟩ := h.pr _ (List.getElem_mem hj)
    have hle := offN_le p.procs j
    have h5 := whittlerref3_numbered (cntL p.procs[j].body + 1) p.procs[j].body (by omega) (offN p.procs j) (by omega) fun t ht => (hok t ht).1
    have hget : ((nmRow p j).map fun f => AV.agg f.cells)[j]? = some (.agg p.procs[j].cells) := by rw [List.getElem?_map, nmRow_get p hj]; rfl
    have hset : ((nmRow p j).map fun f => AV.agg f.cells).set j (.agg (Pr.mk p.procs[j].name p.procs[j].params p.procs[j].vars (nmL (offN p.procs j) p.procs[j].body) p.procs[j].fin).cells) = (nmRow p (j + 1)).map fun f => AV.agg f.cells := by
      rw [nmRow_succ p hj, ← List.map_set]
    have hst := offN_step hj
    generalize ((nmRow p j).map fun f => AV.agg f.cells) = row at hget hset ⊢
    conv => whnf
    repeat' (first | ((first | (refine And.intro rfl ?_) | (refine IdxK.map (by omega) (fun _ => rfl) ?_) | (refine Wr.i64 (by omega) (by omega) ?_) | (refine DrawK.of tabOK mixed (.cons 3 false (.cons 4 false (.cons 5 false (.cons 6 false (.cons 7 false (.cons 8 false (.cons 9 false (.cons 0 false (.cons 2 false (.fork 1 (.cons 10 true (.cons 11 false (.cons 12 false (.cons 14 true (.cons 15 true (.cons 13 false (.cons 16 true (.cons 17 true .nil)))))))) 10 (.cons 1 true (.cons 11 false (.cons 12 false (.cons 14 true (.cons 15 true (.cons 13 false (.cons 16 true (.cons 17 true .nil)))))))))))))))))) (by kernel_rfl) ?_) | (refine CallK.pure h5 (.cons (Sub.refl _) (.cons (Sub.refl _) .nil)) ?_; rintro _ rfl) | (refine IdxL.mk j rfl hj ?_) | (refine StOwn.mk j 3 (.agg p.procs[j].cells) (.agg (Pr.mk p.procs[j].name p.procs[j].params p.procs[j].vars (nmL (offN p.procs j) p.procs[j].body) p.procs[j].fin).cells) (by show (0+j)*5+3 = j*5+3; omega) hget (Nat.le_of_ble_eq_true rfl) rfl ?_)); conv => whnf) | (refine Br.dec (fun _ => ?_) (fun _ => ?_) <;> first | (exfalso; omega) | conv => whnf) | (refine And.intro ?_ ?_ <;> conv => whnf))
    all_goals exact ⟨j + 1, hj, by omega, Le.of_eq (by rw [← hset, hst]; rfl)⟩
  · have hje : j = p.procs.length := by omega
    subst hje
    have hA : nmRow p p.procs.length = (nmPg p).procs := by
      unfold nmRow nmPg
      rw [List.take_of_length_le (by rw [nmPrs_len]; exact Nat.le_refl _), List.drop_eq_nil_of_le (Nat.le_refl _), List.append_nil]
    have hcl : p.procs.length = ((nmPg p).procs.map fun f => AV.agg f.cells).length := by rw [List.length_map, ← hA, hrl]
    rw [hA]
    conv => whnf
    repeat' (first | (refine And.intro rfl ?_; conv => whnf) | (refine Br.dec (fun _ => ?_) (fun _ => ?_) <;> first | (exfalso; omega) | conv => whnf))
    refine ⟨_, .agg (cs := (nmPg p).cells) rfl fun i l c h1 h3 => ?_, rfl⟩
    match i, h1, h3 with
    | 0, h1, h3 => cases h1; cases h3; exact .p (Sub.refl _)
    | 1, h1, h3 =>
      cases h1
      cases h3
      exact .hd rfl hcl
    | i + 2, h1, h3 => simp at h1
end Go.Ab
namespace Go.Ab
open Go.Proofs
theorem getS_kill {k : Nat} : ∀ {sl : List (Nat × LV)}, (∀ x ∈ sl, x.2.kill k = x.2) → ∀ j, (getS sl j).kill k = getS sl j
  | [], _, _ => rfl
  | (i, l) :: r, h, j => by
    simp only [getS]
    cases i == j with
    | true => exact h _ List.mem_cons_self
    | false => exact getS_kill (fun x hx => h x (List.mem_cons_of_mem _ hx)) j
theorem Le.rowObj {N : Nat} {sl : List (Nat × LV)} {H H' : Heap} {k q : Nat} {e e' : TypeId} {sz : Nat} {es : List AV} {ls : List LV} {cs : List AV} (hg : getH H k = some (.own e sz es)) (hq : getH H q = some (.obj e' ls)) (hln : ls.length = cs.length)
    (hcs : ∀ (j : Nat) (l : LV) (c : AV), ls[j]? = some l → cs[j]? = some c → (∃ a, l = .p a ∧ Sub a c) ∨ (∃ n, l = .hd k 0 n ∧ n = es.length ∧ c = .sl es)) (hsl : ∀ j, (getS sl j).kill k = getS sl j)
    (hsub : (H'.map (·.1)).Sublist (H.map (·.1))) (hH : ∀ j c', (j, c') ∈ H' → j ≠ k ∧ ((j = q ∧ c' = .obj e' (cs.map .p)) ∨ ((j, c') ∈ H ∧ c'.kill k = c'))) : Le N ⟨sl, H⟩ ⟨sl, H'⟩ := fun σ β a w hr => by
  have obj : ∀ {τ : Mem}, σ.le τ → (∀ v, RepL σ β (.hd k 0 es.length) v → Rep τ (.sl es) v) → (Chunk.obj e' ls).holds σ β w q → (Chunk.obj e' (cs.map .p)).holds τ β w q := fun {τ} hle hrow hold => by
    obtain ⟨i', vs', hi', hh', hn', hc'⟩ := hold
    refine ⟨i', vs', hi', hh', by simpa [hln] using hn', fun j l hj => ?_⟩
    rw [List.getElem?_map] at hj
    cases hc : cs[j]? with
    | none => rw [hc] at hj; cases hj
    | some c =>
      rw [hc] at hj; cases hj
      have hlt : j < ls.length := by rw [hln]; exact (List.getElem?_eq_some_iff.1 hc).1
      obtain ⟨u, h3, h4⟩ := hc' j _ (List.getElem?_eq_getElem hlt)
      refine ⟨u, h3, ?_⟩
      rcases hcs j _ c (List.getElem?_eq_getElem hlt) hc with ⟨a', h5, h6⟩ | ⟨n, h5, rfl, rfl⟩
      · rw [h5] at h4
        cases h4 with
        | p hp => exact .p (h6 _ _ (hp.mono hle))
      · rw [h5] at h4
        exact .p (hrow _ h4)
  have hc0 := hr.heap.chunks q _ (getH_mem hq)
  rcases own_holds.1 (hr.heap.chunks k _ (getH_mem hg)) with ⟨hb0, rfl⟩ | ⟨i, vs, hi, hisz, hh, hn, hle', hmax, hE⟩
  · refine ⟨σ, β, ⟨hr.size, hr.defers, hr.slots, ⟨hr.heap.mem, fun j c' hj => ?_, hsub.nodup hr.heap.nodup, fun j hj => hr.heap.apart j (hsub.subset hj), fun j hj j' hj' => hr.heap.inj j (hsub.subset hj) j' (hsub.subset hj')⟩⟩, Mem.le_refl σ, Frm.refl _ _, fun _ h0 h1 => absurd h0 h1, fun b ⟨j, hj, r⟩ => .inl ⟨j, hsub.subset hj, r⟩, fun _ _ _ => rfl⟩
    rcases (hH j c' hj).2 with ⟨rfl, rfl⟩ | ⟨h1, _⟩
    · refine obj (Mem.le_refl σ) (fun v hv => ?_) hc0
      rcases hv.hdI with ⟨_, _, _, he⟩ | ⟨i, _, hk, _⟩
      · rw [he]; exact .nilsl
      · rw [hb0] at hk; cases hk
    · exact hr.heap.chunks j _ h1
  · refine hr.lay hi (getH_label hg) hh (fun τ hle hτ j v hv => ?_) (fun τ hle hτ j c' hj => ?_) (hsub.nodup hr.heap.nodup)
    · show RepL τ β (getS sl j) v
      rw [← hsl j]
      exact (hv.kill k).mono hle
    · obtain ⟨h1, h2⟩ := hH j c' hj
      rcases h2 with ⟨rfl, rfl⟩ | ⟨h2, h3⟩
      · refine ⟨h1, _, getH_mem hq, obj hle fun v hv => ?_⟩
        rcases hv.hdI with ⟨hk, _⟩ | ⟨i', oo, hk, hl, ho, rfl⟩
        · rw [hi] at hk; cases hk
        · rw [hi] at hk; cases hk
          have hoo : oo = 0 := by
            rcases ho with ho | ho
            · simpa using ho
            · omega
          subst hoo
          obtain ⟨u, hu⟩ : ∃ u : Nat → Nat → Value, ∀ (m : Nat) (x : AV) (j : Nat) (c : AV), es[m]? = some x → x.cells[j]? = some c → vs[m * sz + j]? = some (u m j) ∧ Rep σ c (u m j) := by
            refine ⟨fun m j => (vs[m * sz + j]?).getD undef, fun m x j c hx hj => ?_⟩
            obtain ⟨v, h1, h2⟩ := hE.rep m x j c hx hj
            rw [List.getElem?_take] at h1
            split at h1
            · have h1' : vs[m * sz + j]? = some v := by simpa using h1
              exact ⟨by simp [h1'], by simpa [h1'] using h2⟩
            · cases h1
          exact .sl es i.blk 0 _ sz vs u hτ (by omega) (by omega) hE.size (fun m x j c hx hj => by simpa using (hu m x j c hx hj).1) fun m x j c hx hj => (hu m x j c hx hj).2.mono hle
      · refine ⟨h1, c', h2, fun hold => ?_⟩
        have := (hold.kill k).mono hle fun _ _ _ _ => rfl
        rwa [h3] at this
end Go.Ab
namespace Go.Ab
open Go.Proofs
def onRow (b : Bool) (p : Pg) (j : Nat) : List Pr := ((p.procs.take j).filter fun f => f.name == mainS).map (onPr b)
theorem onRow_succ (b : Bool) (p : Pg) {j : Nat} (hj : j < p.procs.length) : onRow b p (j + 1) = onRow b p j ++ (if p.procs[j].name == mainS then [onPr b p.procs[j]] else []) := by
  unfold onRow
  rw [List.take_succ_eq_append_getElem hj, List.filter_append, List.map_append]
  congr 1
  cases h : p.procs[j].name == mainS <;> simp [h]
theorem onRow_len (b : Bool) (p : Pg) (j : Nat) : (onRow b p j).length ≤ j := by
  unfold onRow
  rw [List.length_map]
  exact Nat.le_trans (List.length_filter_le _ _) (by rw [List.length_take]; omega)
/-- While the row grows; when it is laid by. -/
def onSt (b : Bool) (p : Pg) (j : Nat) : St := ⟨[(1, .p (.bool b)), (4, .ptr 1 0), (5, .ptr 0 0), (14, .hd 26 0 p.procs.length), (15, .p (.int .i64 p.procs.length)), (16, .p (.int .i64 j))], [(26, .own 75 5 (p.procs.map fun f => .agg f.cells)), (0, .obj 25 [.p (eStrs p.globals), .hd 2 0 (onRow b p j).length]), (1, .obj 25 [.p .nils, .p .nils]), (2, .own 75 5 ((onRow b p j).map fun f => .agg f.cells))]⟩
def onFz (b : Bool) (p : Pg) (j : Nat) : St := ⟨[(1, .p (.bool b)), (4, .ptr 1 0), (5, .ptr 0 0), (14, .hd 26 0 p.procs.length), (15, .p (.int .i64 p.procs.length)), (16, .p (.int .i64 j))], [(26, .own 75 5 (p.procs.map fun f => .agg f.cells)), (0, .obj 25 [.p (eStrs p.globals), .p (.sl ((onRow b p j).map fun f => .agg f.cells))]), (1, .obj 25 [.p .nils, .p .nils])]⟩
theorem on_fz {N : Nat} (b : Bool) (p : Pg) (j : Nat) : Le N (onSt b p j) (onFz b p j) := by
  refine Le.rowObj (k := 2) (q := 0) (cs := [eStrs p.globals, .sl ((onRow b p j).map fun f => .agg f.cells)]) rfl rfl rfl (fun i l c h1 h2 => ?_) (fun i => ?_) ?_ fun i c' hm => ?_
  · match i, h1, h2 with
    | 0, h1, h2 => cases h1; cases h2; exact .inl ⟨_, rfl, Sub.refl _⟩
    | 1, h1, h2 => cases h1; cases h2; exact .inr ⟨_, rfl, by rw [List.length_map], rfl⟩
    | i + 2, h1, h2 => simp at h1
  · refine getS_kill (fun x hx => ?_) i
    simp only [List.mem_cons, List.not_mem_nil, or_false] at hx
    rcases hx with rfl | rfl | rfl | rfl | rfl | rfl <;> rfl
  · show [26, 0, 1].Sublist [26, 0, 1, 2]
    decide
  · simp only [List.mem_cons, List.not_mem_nil, or_false, Prod.mk.injEq] at hm
    rcases hm with ⟨rfl, rfl⟩ | ⟨rfl, rfl⟩ | ⟨rfl, rfl⟩
    · exact ⟨by decide, .inr ⟨List.mem_cons_self, rfl⟩⟩
    · exact ⟨by decide, .inl ⟨rfl, rfl⟩⟩
    · exact ⟨by decide, .inr ⟨List.mem_cons_of_mem _ (List.mem_cons_of_mem _ List.mem_cons_self), rfl⟩⟩
set_option maxHeartbeats 8000000 in
set_option maxRecDepth 100000 in
theorem whittlerref3_Only (b : Bool) (p : Pg) (h : CopyF p) (hn : 0 < p.procs.length) (hN : CopyF (onlyRaw b p)) (hc : cntP (onlyRaw b p).procs ≤ 100000) : SpecP Tryz.prog 33 [.agg p.cells, .bool b] (fun r => r = .agg (onlyPg b p).cells) := by
  refine SpecP.body I_whittlerref3_Only tabOK Tryz.func33 rfl Tryz.call33 (by show 2 ≤ _; decide) ?_
  conv => whnf
  have hgt := whittlerref3_texts p.globals h.globals
  have hpm : (p.procs.map fun f => AV.agg f.cells).length = p.procs.length := List.length_map _
  have hpl := h.procs
  repeat' ((first | (intro (_ : _ ≤ 9223372036854775807)) | (refine And.intro rfl ?_) | (refine CallK.pure hgt (.cons (Sub.refl _) .nil) ?_; rintro _ rfl) | (refine CallK.heap [] 20 (ArgsH.cons (LSub.refl _) ArgsH.nil) BlksH.nil (whittlerref3_Copy p h) rfl rfl ?_; rintro l' H' ⟨rfl, rfl⟩)); conv => whnf)
  refine LoopK.inv tabOK (fun x : Nat × Bool => if x.2 then onFz b p x.1 else onSt b p x.1) (fun x => x.1 ≤ p.procs.length ∧ (x.2 = false → x.1 < p.procs.length) ∧ (x.2 = true → x.1 = p.procs.length)) (fun x => p.procs.length - x.1) (0, false)
    (Le.mk [(2, .own 75 5 [])] (by simp [Chunk.new0]; rfl) (by simp) (by simp) (.cons (.refl _) (.cons (.refl _) (.cons (.refl _) (.cons (.refl _) (.cons (.refl _) (.cons (.refl _) .nil)))))) (.cons rfl (.refl _) (.cons rfl (.obj (.cons (.refl _) (.cons (.nil List.mem_cons_self) .nil))) (.cons rfl (.refl _) (.new List.mem_cons_self .nil))))) ⟨Nat.zero_le _, fun _ => hn, fun h => by cases h⟩ ?_
  rintro ⟨j, m⟩ ⟨h2, h3, h4⟩
  simp only at h2 h3 h4
  cases m with
  | false =>
    have hj := h3 rfl
    obtain ⟨hv, hfin, hpm2, hcb, hok⟩ := h.pr _ (List.getElem_mem hj)
    have h7 := whittlerref3_only b (cntL p.procs[j].body + 1) p.procs[j].body (by omega) (by omega) fun t ht => (hok t ht).1
    have hget : (p.procs.map fun f => AV.agg f.cells)[j]? = some (.agg p.procs[j].cells) := by rw [List.getElem?_map, List.getElem?_eq_getElem hj]; rfl
    have hsucc := onRow_succ b p hj
    have hlr := onRow_len b p j
    have fin : ∃ x : Nat × Bool, (x.1 ≤ p.procs.length ∧ (x.2 = false → x.1 < p.procs.length) ∧ (x.2 = true → x.1 = p.procs.length)) ∧ p.procs.length - x.1 < p.procs.length - j ∧ Le Tryz.f33.ntmps (onSt b p (j + 1)) (if x.2 then onFz b p x.1 else onSt b p x.1) := by
      rcases Nat.lt_or_ge (j + 1) p.procs.length with hj1 | hj1
      · exact ⟨(j + 1, false), ⟨by simp only; omega, fun _ => hj1, fun h => by cases h⟩, by simp only; omega, Le.of_eq rfl⟩
      · exact ⟨(j + 1, true), ⟨by simp only; omega, (fun h => by cases h), fun _ => by simp only; omega⟩, by simp only; omega, on_fz b p (j + 1)⟩
    obtain ⟨x, hx1, hx2, hx3⟩ := fin
    unfold onSt at hx3 ⊢
    rw [hsucc] at hx3
    have hrl : ((onRow b p j).map fun f => AV.agg f.cells).length = (onRow b p j).length := List.length_map _
    generalize onRow b p j = row at hx3 hlr hrl ⊢
    cases hm : p.procs[j].name == mainS with
    | true =>
      rw [hm, if_pos rfl, List.map_append, List.length_append] at hx3
      have hm' : (p.procs[j].name == ([109, 97, 105, 110] : Str)) = true := hm
      cases b <;>
      conv => whnf
      repeat' (first | ((first | (refine And.intro rfl ?_) | (refine And.intro ⟨by decide, by decide⟩ ?_) | (refine BsK.pure (fun x hx => by rcases List.mem_singleton.1 hx with rfl; rfl) rfl ?_) | (refine Wr.i64 (by omega) (by omega) ?_) | (refine LdOwn.mk j 0 (.agg p.procs[j].cells) (by show (0+j)*5 = j*5+0; omega) hget ?_) | (refine IdxL.mk j rfl hj ?_) | (refine CallK.pure h7 (.cons (Sub.refl _) (.cons (by first | exact Sub.refl _ | exact Sub.tt rfl | exact Sub.ff rfl) .nil)) ?_; rintro _ rfl) | (refine AppK.mk hrl.symm rfl (by show (row.length+1) * 112 ≤ 140737488355328; omega) (by show row.length+1 ≤ 9223372036854775807; omega) (fun x hx => by rcases List.mem_singleton.1 hx with rfl; exact ⟨rfl, rfl⟩) ?_)); conv => whnf) | (refine Br.dec (fun _ => ?_) (fun _ => ?_) <;> first | (exfalso; omega) | conv => whnf) | (refine Br.n (fun _ => ?_) (fun _ => ?_) <;> conv => whnf) | (refine Br.b (fun _ => ?_) (fun _ => ?_) <;> conv => whnf))
      all_goals first
        | exact ⟨x, hx1, hx2, (Le.of_eq rfl).trans hx3⟩
        | (exfalso; simp_all; done)
        | exact ⟨x, hx1, hx2, (Le.els (.same (.same (.same (.els (ElS.snoc (ElS.refl (row.map fun f => AV.agg f.cells)) (x' := .agg (onPr false p.procs[j]).cells) (by rfl) (fun i c' hc => by
             match i, hc with
             | 0, hc => cases hc; exact ⟨_, rfl, Sub.refl _⟩
             | 1, hc => cases hc; exact ⟨_, rfl, Sub.refl _⟩
             | 2, hc => cases hc; exact ⟨_, rfl, Sub.refl _⟩
             | 3, hc => cases hc; exact ⟨_, rfl, Sub.refl _⟩
             | 4, hc => cases hc; exact ⟨_, rfl, Sub.nils⟩
             | i + 5, hc => simp [AV.cells, Pr.cells] at hc)) .nil))))).trans ((Le.of_eq (by rfl)).trans hx3)⟩
        | (refine ⟨x, hx1, hx2, (Le.els (.same (.same (.same (.els (ElS.snoc (ElS.refl (row.map fun f => AV.agg f.cells)) (x' := .agg (onPr false p.procs[j]).cells) ?_ ?_) .nil))))).trans ((Le.of_eq ?_).trans hx3)⟩ <;> trace_state)
    | false =>
      rw [hm, if_neg (by decide), List.append_nil] at hx3
      have hm' : (p.procs[j].name == ([109, 97, 105, 110] : Str)) = false := hm
      conv => whnf
      repeat' (first | ((first | (refine And.intro rfl ?_) | (refine And.intro ⟨by decide, by decide⟩ ?_) | (refine BsK.pure (fun x hx => by rcases List.mem_singleton.1 hx with rfl; rfl) rfl ?_) | (refine Wr.i64 (by omega) (by omega) ?_) | (refine LdOwn.mk j 0 (.agg p.procs[j].cells) (by show (0+j)*5 = j*5+0; omega) hget ?_) | (refine IdxL.mk j rfl hj ?_) | (refine CallK.pure h7 (.cons (Sub.refl _) (.cons (by first | exact Sub.refl _ | exact Sub.tt rfl | exact Sub.ff rfl) .nil)) ?_; rintro _ rfl) | (refine AppK.mk hrl.symm rfl (by show (row.length+1) * 112 ≤ 140737488355328; omega) (by show row.length+1 ≤ 9223372036854775807; omega) (fun x hx => by rcases List.mem_singleton.1 hx with rfl; exact ⟨rfl, rfl⟩) ?_)); conv => whnf) | (refine Br.dec (fun _ => ?_) (fun _ => ?_) <;> first | (exfalso; omega) | conv => whnf) | (refine Br.n (fun _ => ?_) (fun _ => ?_) <;> conv => whnf) | (refine Br.b (fun _ => ?_) (fun _ => ?_) <;> conv => whnf))
      all_goals first
        | exact ⟨x, hx1, hx2, (Le.of_eq rfl).trans hx3⟩
        | (exfalso; simp_all; done)
        | trace_state
  | true =>
    have hje := h4 rfl
    subst hje
    have hA : onRow b p p.procs.length = (onlyRaw b p).procs := by
      unfold onRow onlyRaw
      rw [List.take_of_length_le (Nat.le_refl _)]
    unfold onFz
    rw [hA]
    have hNum := whittlerref3_Number (onlyRaw b p) hN hc
    conv => whnf
    repeat' (first | ((first | (refine And.intro rfl ?_) | (refine CallK.pure hNum (.cons (Sub.refl _) .nil) ?_; rintro _ rfl)); conv => whnf) | (refine Br.dec (fun _ => ?_) (fun _ => ?_) <;> first | (exfalso; omega) | conv => whnf))
    exact ⟨_, .p (Sub.refl _), rfl⟩
end Go.Ab
namespace Go.Ab
open Go.Proofs
theorem ValO.stepsNe {hr : Bool} {s : St} {o : Oper} {K : LV → Prop} {x y : Operand} {u : TypeId} (hop : o.op = .binOp .neq 49 x y u) {a b : Step} (hx : evalO s.sl x = .p (.agg a.cells)) (hy : evalO s.sl y = .p (.agg b.cells))
    (hK : K (.p (.bool (!decide (a = b))))) : ValO Tryz.prog hr s o K := by
  refine ⟨fun σ β ac w hs _ => ⟨_, .bool (!decide (a = b)), hK, .p (.bool _), fun w' _ _ => ?_⟩⟩
  have h1 : ac.eval x = .agg #[.int .i64 a.src, .int .i64 a.dst, .int .i64 a.kind] := by
    have := evalO_rep hs x
    rw [hx] at this
    cases this with
    | p h => exact step_rep h
  have h2 : ac.eval y = .agg #[.int .i64 b.src, .int .i64 b.dst, .int .i64 b.kind] := by
    have := evalO_rep hs y
    rw [hy] at this
    cases this with
    | p h => exact step_rep h
  have hu : Tryz.prog.underlying 49 = some (.struct (Tryz.prog.fieldsOf 49)) := by kernel_rfl
  have hi : Tryz.prog.underlying 3 = some (.int .i64) := by kernel_rfl
  have hf : (Tryz.prog.fieldsOf 49).toList = (match ty49.desc with | .struct fs => fs.toList | _ => []) := by kernel_rfl
  have he : (Op.equalIn 10000 49 (.agg #[.int .i64 a.src, .int .i64 a.dst, .int .i64 a.kind]) (.agg #[.int .i64 b.src, .int .i64 b.dst, .int .i64 b.kind])).run Tryz.prog w' = .ok (decide (a = b)) w' := by
    rw [run_equalIn_struct w' 9999 _ _ _ hu (by kernel_rfl), hf]
    simp only [ty49, Op.eqFields]
    have p0 : ∀ x y z : Int, (part 3 #[.int .i64 x, .int .i64 y, .int .i64 z] 0).run Tryz.prog w' = .ok (.int .i64 x) w' := fun x y z => run_part_plain w' (by kernel_rfl) rfl
    have p1 : ∀ x y z : Int, (part 3 #[.int .i64 x, .int .i64 y, .int .i64 z] 1).run Tryz.prog w' = .ok (.int .i64 y) w' := fun x y z => run_part_plain w' (by kernel_rfl) rfl
    have p2 : ∀ x y z : Int, (part 3 #[.int .i64 x, .int .i64 y, .int .i64 z] 2).run Tryz.prog w' = .ok (.int .i64 z) w' := fun x y z => run_part_plain w' (by kernel_rfl) rfl
    have ei : ∀ x y : Int, (Op.equalIn 9999 3 (.int .i64 x) (.int .i64 y)).run Tryz.prog w' = .ok (x == y) w' := fun a b => run_equalIn_int (P := Tryz.prog) w' 9998 3 .i64 .i64 a b hi
    have e : decide (a = b) = ((a.src == b.src) && ((a.dst == b.dst) && (a.kind == b.kind))) := by
      cases a; cases b
      simp only [Step.mk.injEq, Bool.decide_and]
      rfl
    simp only [ne_eq, show ¬ ("From" = "_") by decide, show ¬ ("To" = "_") by decide, show ¬ ("Kind" = "_") by decide, not_false_eq_true, if_true, Sem.run_bind, p0, p1, p2, Result.andThen_ok, ei, Sem.run_ite, Sem.run_pure, e]
    cases (a.src == b.src) <;> cases (a.dst == b.dst) <;> cases (a.kind == b.kind) <;> simp
  simp only [execOp, hop, h1, h2, Sem.run_bind, run_eqGuard_agg _ _ _ _ _ _ _ (show Tryz.prog.eqGuardType Tryz.prog.depth 49 = false by kernel_rfl), Result.andThen_ok, run_neq_struct, he, Sem.run_pure]
theorem take_same {α : Type} {l m : List α} {j : Nat} (h : l.take j = m.take j) (hl : j < l.length) (hm : j < m.length) (he : l[j] = m[j]) : l.take (j + 1) = m.take (j + 1) := by
  rw [List.take_succ_eq_append_getElem hl, List.take_succ_eq_append_getElem hm, h, he]
theorem all_same {α : Type} {l m : List α} {j : Nat} (h : l.take j = m.take j) (hl : l.length ≤ j) (hm : m.length ≤ j) : l = m := by
  rwa [List.take_of_length_le hl, List.take_of_length_le hm] at h
set_option maxRecDepth 100000 in
theorem whittlerref14_EqSteps (l m : List Step) : SpecP Tryz.prog 22 [eSteps l, eSteps m] (fun r => r = .bool (decide (l = m))) := by
  refine SpecP.body I_whittlerref14_EqSteps tabOK Tryz.func22 rfl Tryz.call22 (by show 2 ≤ _; decide) ?_
  conv => whnf
  have h1 : (l.map fun s => AV.agg s.cells).length = l.length := List.length_map _
  have h2 : (m.map fun s => AV.agg s.cells).length = m.length := List.length_map _
  repeat' (first | (intro (_ : _ ≤ 9223372036854775807); conv => whnf) | (refine Br.dec2 (fun _ => ?_) (fun _ => ?_) <;> first | (exfalso; omega) | conv => whnf))
  all_goals first
    | exact RetK.ff (decide_eq_false fun h => by subst h; omega)
    | skip
  have hlen : l.length = m.length := by omega
  refine LoopK.inv tabOK (fun j : Nat => ⟨[(0, .p (eSteps l)), (1, .p (eSteps m)), (12, .p (.int .i64 (l.map fun s => AV.agg s.cells).length)), (13, .p (.int .i64 j))], []⟩) (fun j => j ≤ l.length ∧ l.take j = m.take j) (fun j => l.length - j) 0 (Le.of_eq rfl) ⟨Nat.zero_le _, rfl⟩ ?_
  rintro j ⟨h3, h4⟩
  rcases Nat.lt_or_ge j l.length with hj | hj
  · conv => whnf
    repeat' (first | ((first | (refine DrawK.auto tabOK mixed (by kernel_rfl) ?_) | (refine IdxK.map (by omega) (fun _ => rfl) ?_) | (refine Wr.i64 (by omega) (by omega) ?_) | (refine ValO.stepsNe rfl rfl rfl ?_)); conv => whnf) | (refine Br.dec (fun _ => ?_) (fun _ => ?_) <;> first | (exfalso; omega) | conv => whnf) | (refine Br.dec2 (fun _ => ?_) (fun _ => ?_) <;> first | (exfalso; omega) | conv => whnf))
    all_goals first
      | exact RetK.ff (decide_eq_false fun h => by subst h; simp_all)
      | exact ⟨j + 1, ⟨by omega, take_same h4 hj (by omega) (by simp_all)⟩, by omega, Le.of_eq rfl⟩
  · conv => whnf
    repeat' (refine Br.dec (fun _ => ?_) (fun _ => ?_) <;> first | (exfalso; omega) | conv => whnf)
    exact RetK.tt (decide_eq_true (all_same h4 hj (by omega)))
end Go.Ab
namespace Go.Ab
open Go.Proofs
end Go.Ab
namespace Go.Ab
open Go.Proofs
theorem okC_of {p : Pg} (h : Fit p) {f : Pr} (hf : f ∈ p.procs) : ∀ t ∈ flL f.body, okC t := fun t ht => by
  have h1 := h.pr hf
  unfold wPr at h1
  have h2 := flL_w _ _ ht
  have h3 := wS_eq t
  have h4 := wTxs_len t.labels
  have h5 := wArgs_len t.args
  refine ⟨by omega, by omega, by omega, fun a ha => ?_⟩
  have key : ∀ (l : List Arg), a ∈ l → wX a.x ≤ wArgs l := fun l => by
    induction l with
    | nil => intro h; cases h
    | cons b r ih =>
      intro h
      rw [wArgs]
      rcases List.mem_cons.1 h with rfl | h
      · omega
      · have := ih h; omega
  have := key _ ha
  omega
theorem swap_ok {p : Pg} (h : Fit p) (hc : chkB p = true) : p.procs.length ≤ 1000 ∧ p.globals.length ≤ 1000000 ∧ ∀ f ∈ p.procs, f.vars.length ≤ 1000000 ∧ f.fin.length ≤ 1000000 ∧ f.params.length ≤ 1000000 ∧ cntL f.body ≤ 1000000 ∧ ∀ t ∈ flL f.body, okC t := by
  obtain ⟨h1, h2, h3⟩ := chk_cnt hc
  refine ⟨by omega, by omega, fun f hf => ?_⟩
  have h4 := h.pr hf
  unfold wPr at h4
  have h5 := wTxs_len f.vars
  have h6 := wTxs_len f.fin
  have h7 := wPms_len f.params
  have h8 := cnt_wL f.body
  exact ⟨by omega, by omega, by omega, by omega, okC_of h hf⟩
end Go.Ab
namespace Go.Ab
open Go.Proofs
theorem okC_on {b : Bool} {s : S} (h : okC s ∧ s.id ≠ -1) : okC (onS b s) ∧ (onS b s).id ≠ -1 := by
  have hl : ∀ l : List Str, l.length ≤ 1000000 → (if b then l else []).length ≤ 1000000 := fun l hl => by
    split
    · exact hl
    · simp
  rw [onS_eq]
  split
  · refine ⟨⟨by show wX (.mk 1 7 [] []) ≤ 20000; rw [wX, wXs]; omega, hl _ h.1.2.1, by show ([] : List Arg).length ≤ 1000000; simp, fun a ha => by cases ha⟩, by show (0 : Int) ≠ -1; decide⟩
  · exact ⟨⟨h.1.1, hl _ h.1.2.1, h.1.2.2.1, h.1.2.2.2⟩, h.2⟩
theorem on_thn' (b : Bool) (s : S) : (onS b s).thn = onL b s.thn ∧ (onS b s).els = onL b s.els := by
  rw [onS_eq]
  split <;> exact ⟨rfl, rfl⟩
mutual
theorem okS_on {b : Bool} : ∀ (s : S), (∀ t ∈ flS s, okC t ∧ t.id ≠ -1) → ∀ t ∈ flS (onS b s), okC t ∧ t.id ≠ -1
  | .mk id kind labels name proc x has args thn els, h, t, ht => by
    obtain ⟨h1, h2⟩ := on_thn' b (.mk id kind labels name proc x has args thn els)
    rw [flS_eq, h1, h2] at ht
    rcases List.mem_cons.1 ht with rfl | ht
    · exact okC_on (h _ (by rw [flS]; exact List.mem_cons_self))
    · rcases List.mem_append.1 ht with ht | ht
      · exact okL_on thn (fun u hu => h u (by rw [flS]; exact List.mem_cons_of_mem _ (List.mem_append.2 (.inl hu)))) t ht
      · exact okL_on els (fun u hu => h u (by rw [flS]; exact List.mem_cons_of_mem _ (List.mem_append.2 (.inr hu)))) t ht
theorem okL_on {b : Bool} : ∀ (l : List S), (∀ t ∈ flL l, okC t ∧ t.id ≠ -1) → ∀ t ∈ flL (onL b l), okC t ∧ t.id ≠ -1
  | [], h, t, ht => by rw [onL, flL] at ht; cases ht
  | s :: r, h, t, ht => by
    rw [onL, flL] at ht
    rcases List.mem_append.1 ht with ht | ht
    · exact okS_on s (fun u hu => h u (by rw [flL]; exact List.mem_append.2 (.inl hu))) t ht
    · exact okL_on r (fun u hu => h u (by rw [flL]; exact List.mem_append.2 (.inr hu))) t ht
end
theorem copyF {p : Pg} (hf : Fit p) (hc : chkB p = true) : CopyF p := by
  obtain ⟨h1, h2, h3⟩ := swap_ok hf hc
  have hcn := (chk_cnt hc).2.2
  refine ⟨h1, h2, fun f hf' => ?_⟩
  obtain ⟨a1, a2, a3, _, a5⟩ := h3 f hf'
  have a4 := cntP_mem _ _ hf'
  obtain ⟨j, hj, hje⟩ := List.mem_iff_getElem.1 hf'
  have hj' : p.procs[j]? = some f := by rw [List.getElem?_eq_getElem hj, hje]
  exact ⟨a1, a2, a3, by omega, fun t ht => ⟨a5 t ht, by have := (body_id (chk_parts hc).1 hj' ht).1; omega⟩⟩
theorem copyF_raw {p : Pg} {b : Bool} (hf : Fit p) (hc : chkB p = true) {f : Pr} (hm : p.procs.filter (fun f => f.name == mainS) = [f]) : CopyF (onlyRaw b p) ∧ cntP (onlyRaw b p).procs ≤ 100000 := by
  have hC := copyF hf hc
  have hmem : f ∈ p.procs := (List.mem_filter.1 (by rw [hm]; exact List.mem_cons_self)).1
  obtain ⟨a1, a2, a3, a4, a5⟩ := hC.pr f hmem
  have e : onlyRaw b p = ⟨p.globals, [onPr b f]⟩ := by
    unfold onlyRaw
    rw [hm]
    rfl
  rw [e]
  refine ⟨⟨by simp, hC.globals, fun g hg => ?_⟩, ?_⟩
  · rcases List.mem_singleton.1 hg with rfl
    refine ⟨a1, ?_, a3, ?_, okL_on f.body a5⟩
    · show (if b then f.fin else []).length ≤ 1000000
      split
      · exact a2
      · simp
    · show cntL (onL b f.body) ≤ 100000
      rw [cntL_on]
      exact a4
  · show cntL (onL b f.body) + 0 ≤ 100000
    rw [cntL_on]
    omega
mutual
theorem wS_on : ∀ (s : S) (n : Nat), wS (nmS n (onS false s)) ≤ wS s
  | .mk id kind labels name proc x has args thn els, n => by
    have h1 := wL_on thn (n + 1)
    have h2 := wL_on els (n + 1 + cntL thn)
    have h3 := wX_pos x
    obtain ⟨e1, e2, _⟩ := on_thn (.mk id kind labels name proc x has args thn els) n
    rw [wS_eq, e1, e2, (on_own _ n).labels, wS]
    by_cases hk : kind = 4 ∨ 7 ≤ kind
    · obtain ⟨_, _, k3, k4⟩ := (on_own (.mk id kind labels name proc x has args thn els) n).off hk
      rw [k3, k4, wX, wXs, wTxs, wArgs]
      show 1 + 0 + 0 + 1 + 1 + 0 + wL (nmL (n + 1) (onL false thn)) + wL (nmL (n + 1 + cntL thn) (onL false els)) ≤ _
      omega
    · obtain ⟨_, _, k3, k4⟩ := (on_own (.mk id kind labels name proc x has args thn els) n).on hk
      rw [k3, k4, wTxs]
      show wX x + 0 + 1 + 1 + wArgs args + wL (nmL (n + 1) (onL false thn)) + wL (nmL (n + 1 + cntL thn) (onL false els)) ≤ _
      omega
theorem wL_on : ∀ (l : List S) (n : Nat), wL (nmL n (onL false l)) ≤ wL l
  | [], n => by rw [onL, nmL]; exact Nat.le_refl _
  | s :: r, n => by
    have h1 := wS_on s n
    have h2 := wL_on r (n + cntS s)
    rw [onL, nmL, wL, wL, cntS_on]
    omega
end
theorem g_fit {p : Pg} (hf : Fit p) {f : Pr} (hmem : f ∈ p.procs) : Fit ⟨p.globals, [gOf false f]⟩ := by
  have h1 := wPr_mem hmem
  have h2 := wL_on f.body 0
  unfold Fit wPg at *
  simp only [wPrs]
  have e : wPr (gOf false f) = 1 + wTxs f.vars + 0 + wPms f.params + wL (nmL 0 (onL false f.body)) := rfl
  rw [e]
  unfold wPr at h1
  omega
/-- All that is told of main alone, without jumps. -/
structure FreeF (p q : Pg) (g : Pr) : Prop where
  only : onlyPg false p = q
  chk : chkB q = true
  fit : Fit q
  at0 : q.procs[0]? = some g
  way : wayO q mainS = some (newWay q 0 g)
  kind : ∀ u ∈ flL g.body, u.kind < 7
  cnt : cntP q.procs = cntL g.body
  ends : endsR q = [mainS]
  copy : CopyF p
  raw : CopyF (onlyRaw false p) ∧ cntP (onlyRaw false p).procs ≤ 100000
  pos : 0 < p.procs.length
theorem free_facts {p : Pg} (hf : Fit p) (hc : chkB p = true) : ∃ (q : Pg) (g : Pr), FreeF p q g := by
  obtain ⟨k, f, hk, hm, hn, hp⟩ := main_one hc
  have hmem : f ∈ p.procs := List.mem_of_getElem? hk
  have hq := g_chk hc hk hn hp
  exact ⟨⟨p.globals, [gOf false f]⟩, gOf false f, only_eq hm, hq, g_fit hf hmem, rfl, g_way hq hn, fun u hu => g_kind hu, g_cntP, g_ends hq hn, copyF hf hc, copyF_raw hf hc hm, by have := (List.getElem?_eq_some_iff.1 hk).1; omega⟩
theorem FreeF.live {p q : Pg} {g : Pr} (h : FreeF p q g) : (liveR q mainS).length = cntP q.procs := by
  unfold liveR
  rw [h.way]
  show (liveL (newWay q 0 g)).length = _
  rw [live_len h.chk h.at0 h.kind, h.cnt]
end Go.Ab
namespace Go.Ab
open Go.Proofs
end Go.Ab
namespace Go.Ab
open Go.Proofs
theorem FreeF.steps {p q : Pg} {g : Pr} (h : FreeF p q g) : ∃ (d : Int) (r : List Step), ofR q mainS = ⟨0, d, 1⟩ :: r ∧ augO q mainS = wantR (⟨0, d, 1⟩ :: r) ∧ dataO q mainS = ⟨0, d, 1⟩ :: r ∧ trapsO q mainS = [] := by
  obtain ⟨r, hr, _⟩ := real_head h.chk h.at0
  refine ⟨fstI q 0 g, r, ?_, ?_, ?_, ?_⟩
  · unfold ofR
    rw [h.way]
    exact hr
  · rw [augO_some h.way h.at0, free_aug h.chk h.at0 h.kind, hr]
  · rw [dataO_some h.way h.at0, free_data h.chk h.at0 h.kind, hr]
  · rw [trapsO_some h.way h.at0, free_traps h.chk h.at0 h.kind]
set_option maxHeartbeats 8000000 in
set_option maxRecDepth 100000 in
theorem whittlerlaw16_AugFree (p : Pg) : SpecP Tryz.prog 6 [.agg p.cells] (fun r => r = .tt) := by
  refine SpecP.body I_whittlerlaw16_AugFree tabOK Tryz.func6 rfl Tryz.call6 (by show 1 ≤ _; decide) ?_
  conv => whnf
  cases hfb : fitB p with
  | false =>
    have hno : ¬ gPg p ≤ 20000 := by unfold fitB at hfb; simpa using hfb
    repeat' (first | ((first | (refine CallK.pure (whittlerref3_Fits _) (by repeat' (first | exact ArgP.nil | refine ArgP.cons ?_ ?_ | exact Sub.refl _ | exact Sub.tt rfl | exact Sub.ff rfl)) ?_; rintro _ rfl) | (refine CallK.pure whittlerlaw16_more .nil ?_; rintro _ rfl)); conv => whnf) | (refine Br.dec2 (fun _ => ?_) (fun _ => ?_) <;> first | (exfalso; omega) | conv => whnf))
    all_goals first
      | exact ⟨_, .p (Sub.refl _), rfl⟩
      | (exfalso; simp_all; done)
  | true =>
    have hf : Fit p := fit_of hfb
    have hfit : gPg p ≤ 20000 := by unfold fitB at hfb; simpa using hfb
    have hC := check_May p hf
    cases hc : chkB p with
    | false =>
      rw [hc] at hC
      repeat' (first | ((first | (refine CallK.pure (whittlerref3_Fits _) (by repeat' (first | exact ArgP.nil | refine ArgP.cons ?_ ?_ | exact Sub.refl _ | exact Sub.tt rfl | exact Sub.ff rfl)) ?_; rintro _ rfl) | (refine CallK.pure whittlerlaw16_more .nil ?_; rintro _ rfl) | (refine CallK.pure hC (.cons (Sub.refl _) .nil) ?_; rintro _ rfl)); conv => whnf) | (refine Br.dec2 (fun _ => ?_) (fun _ => ?_) <;> first | (exfalso; omega) | conv => whnf) | (refine Br.n (fun _ => ?_) (fun _ => ?_) <;> conv => whnf))
      all_goals first
        | contradiction
        | exact ⟨_, .p (Sub.refl _), rfl⟩
        | trace_state
    | true =>
      rw [hc] at hC
      obtain ⟨q, g, F⟩ := free_facts hf hc
      have hS := whittlerref3_Only false p F.copy F.pos F.raw.1 F.raw.2
      rw [F.only] at hS
      obtain ⟨d, r, e1, e2, e3, e4⟩ := F.steps
      have hO := cfg_Of q F.fit mainS
      have hA := aug_Of q F.fit mainS
      have hD := aug_Data q F.fit mainS
      have hT := aug_Traps q F.fit mainS
      have hrl : r.length ≤ 100000 := by
        have h1 := real_len F.at0 (chk_cnt F.chk).2.2
        have h2 : ofR q mainS = (newWay q 0 g).real := by unfold ofR; rw [F.way]
        rw [← h2, e1] at h1
        simp at h1
        omega
      rw [e1] at hO
      rw [e2] at hA
      rw [e3] at hD
      rw [e4] at hT
      have hQ1 := whittlerref14_EqSteps (wantR (⟨0, d, 1⟩ :: r)) (wantR (⟨0, d, 1⟩ :: r))
      have hQ2 := whittlerref14_EqSteps (⟨0, d, 1⟩ :: r) (⟨0, d, 1⟩ :: r)
      simp only [decide_true] at hQ1 hQ2
      clear e1 e2 e3 e4
      have hm : ((⟨0, d, 1⟩ :: r : List Step).map fun s => AV.agg s.cells).length = r.length + 1 := by simp
      have hel : ∀ x ∈ ((⟨0, d, 1⟩ :: r : List Step).map fun s => AV.agg s.cells), x.cells.length = 3 ∧ True := fun x hx => by obtain ⟨y, _, rfl⟩ := List.mem_map.1 hx; exact ⟨rfl, trivial⟩
      by_cases hd : d = -1
      · have hw : wantR (⟨0, d, 1⟩ :: r) = ⟨0, d, 1⟩ :: r := by unfold wantR; simp only; rw [if_pos hd]
        rw [hw] at hA hQ1
        subst hd
        repeat' (first | ((first | (intro (_ : _ ≤ 9223372036854775807)) | (refine CallK.pure (whittlerref3_Fits _) (by repeat' (first | exact ArgP.nil | refine ArgP.cons ?_ ?_ | exact Sub.refl _ | exact Sub.tt rfl | exact Sub.ff rfl)) ?_; rintro _ rfl) | (refine DrawK.auto tabOK mixed (by kernel_rfl) ?_) | (refine And.intro rfl ?_) | (refine And.intro ⟨by decide, by decide⟩ ?_) | (refine CallK.pure whittlerlaw16_more .nil ?_; rintro _ rfl) | (refine CallK.pure hC (.cons (Sub.refl _) .nil) ?_; rintro _ rfl) | (refine CallK.pure hS (.cons (Sub.refl _) (.cons (by first | exact Sub.refl _ | exact Sub.ff rfl) .nil)) ?_; rintro _ rfl) | (refine CallK.pure hO (.cons (Sub.refl _) (.cons (Sub.refl _) .nil)) ?_; rintro _ rfl) | (refine BsK.own (fun x hx => absurd hx List.not_mem_nil) rfl ?_) | (refine IdxK.at (k := 0) (e := .agg (Step.mk 0 (-1) 1).cells) rfl rfl rfl ?_) | (refine AppK.mk rfl rfl (by rw [hm]; show (0+(r.length+1)) * 24 ≤ 140737488355328; omega) (by rw [hm]; show 0+(r.length+1) ≤ 9223372036854775807; omega) (fun x hx => by obtain ⟨y, _, rfl⟩ := List.mem_map.1 hx; exact ⟨rfl, rfl⟩) ?_) | (refine CallK.pure hA (.cons (Sub.refl _) (.cons (Sub.refl _) .nil)) ?_; rintro _ rfl) | (refine CallK.borrow hQ1 (.cons (.p (Sub.refl _)) (.cons (.hd rfl (by simp)) .nil)) (by rintro _ rfl; rfl) ?_; rintro _ rfl) | (refine CallK.pure hD (.cons (Sub.refl _) (.cons (Sub.refl _) .nil)) ?_; rintro _ rfl) | (refine CallK.pure hQ2 (.cons (Sub.refl _) (.cons (Sub.refl _) .nil)) ?_; rintro _ rfl) | (refine CallK.pure hT (.cons (Sub.refl _) (.cons (Sub.refl _) .nil)) ?_; rintro _ rfl)); conv => whnf) | (refine Br.dec (fun _ => ?_) (fun _ => ?_) <;> first | (exfalso; omega) | conv => whnf) | (refine Br.dec2 (fun _ => ?_) (fun _ => ?_) <;> first | (exfalso; omega) | conv => whnf) | (refine Br.n (fun _ => ?_) (fun _ => ?_) <;> conv => whnf) | (refine Br.b (fun _ => ?_) (fun _ => ?_) <;> conv => whnf))
        all_goals first
          | exact ⟨_, .p (Sub.tt' rfl), rfl⟩
          | (exfalso; simp_all; done)
          | (exfalso; omega)
          | trace_state
      · have hw : wantR (⟨0, d, 1⟩ :: r) = ⟨0, d, 1⟩ :: ⟨0, -1, 2⟩ :: r := by unfold wantR; simp only; rw [if_neg hd]
        rw [hw] at hA hQ1
        repeat' (first | ((first | (intro (_ : _ ≤ 9223372036854775807)) | (refine CallK.pure (whittlerref3_Fits _) (by repeat' (first | exact ArgP.nil | refine ArgP.cons ?_ ?_ | exact Sub.refl _ | exact Sub.tt rfl | exact Sub.ff rfl)) ?_; rintro _ rfl) | (refine DrawK.auto tabOK mixed (by kernel_rfl) ?_) | (refine And.intro rfl ?_) | (refine And.intro ⟨by decide, by decide⟩ ?_) | (refine CallK.pure whittlerlaw16_more .nil ?_; rintro _ rfl) | (refine CallK.pure hC (.cons (Sub.refl _) .nil) ?_; rintro _ rfl) | (refine CallK.pure hS (.cons (Sub.refl _) (.cons (by first | exact Sub.refl _ | exact Sub.ff rfl) .nil)) ?_; rintro _ rfl) | (refine CallK.pure hO (.cons (Sub.refl _) (.cons (Sub.refl _) .nil)) ?_; rintro _ rfl) | (refine BsK.own (fun x hx => absurd hx List.not_mem_nil) rfl ?_) | (refine BsK.own (fun x hx => by rcases List.mem_cons.1 hx with h | h <;> first | (rw [h]; rfl) | (rw [List.mem_singleton.1 h]; rfl)) rfl ?_) | (refine IdxK.at (k := 0) (e := .agg (Step.mk 0 d 1).cells) rfl rfl rfl ?_) | (refine AppK.mk rfl rfl (by rw [hm]; show (0+(r.length+1)) * 24 ≤ 140737488355328; omega) (by rw [hm]; show 0+(r.length+1) ≤ 9223372036854775807; omega) (fun x hx => by obtain ⟨y, _, rfl⟩ := List.mem_map.1 hx; exact ⟨rfl, rfl⟩) ?_) | (refine And.intro (fun e he => by obtain ⟨x, _, rfl⟩ := List.mem_map.1 he; rfl) (SlK.mk 1 (r.length+1) rfl (by rw [hm]; rfl) (by omega) (by omega) ?_))); conv => whnf) | (refine Br.dec (fun _ => ?_) (fun _ => ?_) <;> first | (exfalso; omega) | conv => whnf) | (refine Br.dec2 (fun _ => ?_) (fun _ => ?_) <;> first | (exfalso; omega) | conv => whnf) | (refine Br.n (fun _ => ?_) (fun _ => ?_) <;> conv => whnf))
        all_goals first
          | (exfalso; simp_all; done)
          | skip
        have hx : List.drop 1 (List.take (r.length + 1) ((⟨0, d, 1⟩ :: r : List Step).map fun s => AV.agg s.cells)) = r.map fun s => .agg s.cells := by
          rw [List.map_cons, List.take_succ_cons, List.drop_succ_cons, List.drop_zero, List.take_of_length_le (by simp)]
        have hxl : (r.map fun s => AV.agg s.cells).length = r.length := List.length_map _
        all_goals
          rw [hx]
          refine AppK.mk rfl rfl (by rw [hxl]; show (2+r.length) * 24 ≤ 140737488355328; omega) (by rw [hxl]; show 2+r.length ≤ 9223372036854775807; omega) (fun x hx => by obtain ⟨y, _, rfl⟩ := List.mem_map.1 hx; exact ⟨rfl, rfl⟩) ?_
          conv => whnf
          repeat' (first | ((first | (intro (_ : _ ≤ 9223372036854775807)) | (refine CallK.pure hA (.cons (Sub.refl _) (.cons (Sub.refl _) .nil)) ?_; rintro _ rfl) | (refine CallK.borrow hQ1 (.cons (.p (Sub.refl _)) (.cons (.hd rfl (by simp; omega)) .nil)) (by rintro _ rfl; rfl) ?_; rintro _ rfl) | (refine CallK.pure hD (.cons (Sub.refl _) (.cons (Sub.refl _) .nil)) ?_; rintro _ rfl) | (refine CallK.pure hQ2 (.cons (Sub.refl _) (.cons (Sub.refl _) .nil)) ?_; rintro _ rfl) | (refine CallK.pure hT (.cons (Sub.refl _) (.cons (Sub.refl _) .nil)) ?_; rintro _ rfl)); conv => whnf) | (refine Br.b (fun _ => ?_) (fun _ => ?_) <;> conv => whnf))
          all_goals first
            | exact ⟨_, .p (Sub.tt' rfl), rfl⟩
            | (exfalso; simp_all; done)
            | trace_state
end Go.Ab
