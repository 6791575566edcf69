/- The reference's small program goes on where it should. -/
import Derived.Test.YtngohbblmlokoaaGreatCdpI10
import Derived.Test.YtngohbblmlokoaaGreatCdpI14
import Derived.Test.YtngohbblmlokoaaGreatCdpI15
import Derived.Test.YtngohbblmlokoaaGreatCdpI16
set_option linter.unusedSimpArgs false
set_option linter.unusedVariables false
namespace Go.Ab
open Go.Proofs
theorem some_fit : Fit someP := by unfold Fit; decide
theorem some_chk : chkB someP = true := by kernel_rfl
def f0 : Pr := someP.procs[0]'(by decide)
def f1 : Pr := someP.procs[1]'(by decide)
theorem norm0 : normS (stepsRaw someP 0 f0) = [⟨0, 1, 1⟩, ⟨1, 2, 1⟩, ⟨2, 3, 1⟩, ⟨3, 4, 1⟩, ⟨4, -1, 1⟩] := by
  have h1 : stepsRaw someP 0 f0 = [⟨0, 1, 1⟩, ⟨1, 2, 1⟩, ⟨2, 3, 1⟩, ⟨3, 4, 1⟩, ⟨4, -1, 1⟩] := by kernel_rfl
  unfold normS sortSt
  rw [h1, List.mergeSort_of_pairwise (by decide)]
  rfl
theorem norm1 : normS (stepsRaw someP 1 f1) = [⟨0, 5, 1⟩, ⟨5, 6, 1⟩, ⟨6, 7, 1⟩, ⟨6, 8, 1⟩, ⟨7, -1, 1⟩, ⟨8, -1, 1⟩] := by
  have h1 : stepsRaw someP 1 f1 = [⟨0, 5, 1⟩, ⟨5, 6, 1⟩, ⟨6, 7, 1⟩, ⟨6, 8, 1⟩, ⟨7, -1, 1⟩, ⟨8, -1, 1⟩] := by kernel_rfl
  unfold normS sortSt
  rw [h1, List.mergeSort_of_pairwise (by decide)]
  rfl
theorem some_way : wayO someP [112] = some (newWay someP 1 f1) := by
  unfold wayO
  rw [some_chk]
  rfl
end Go.Ab
namespace Go.Ab
open Go.Proofs
end Go.Ab
namespace Go.Ab
open Go.Proofs
end Go.Ab
namespace Go.Ab
open Go.Proofs
set_option maxHeartbeats 1000000 in
set_option maxRecDepth 100000 in
theorem tree_count : ∀ (k : Nat) (l : List S) (_ : cntL l < k) (_ : cntL l ≤ 1000000), SpecP Tryz.prog 76 [eSs l] (fun r => r = .int .i64 (cntL l)) := by
  intro k
  induction k with
  | zero => intro l h; omega
  | succ k ih =>
    intro l hk hl
    have hll := S.avs_len l
    have hlc : l.length ≤ cntL l := by
      clear hk hl hll
      induction l with
      | nil => simp
      | cons t r ihr => rw [cntL, cntS_eq, List.length_cons]; omega
    refine SpecP.body I_tree_count tabOK Tryz.func76 rfl Tryz.call76 (by show 1 ≤ _; decide) ?_
    conv => whnf
    repeat' (intro (_ : _ ≤ 9223372036854775807); conv => whnf)
    refine LoopK.inv tabOK (fun y : Nat × Nat => ⟨[(0, .p (eSs l)), (3, .p (.int .i64 y.2)), (8, .p (.int .i64 (S.avs l).length)), (9, .p (.int .i64 y.1))], []⟩) (fun y => y.1 ≤ l.length ∧ y.2 + cntL (l.drop y.1) = cntL l + (l.length - y.1)) (fun y => l.length - y.1) (0, l.length) (Le.of_eq (by simp only [S.avs_len]; rfl)) ⟨Nat.zero_le _, by simp; omega⟩ ?_
    rintro ⟨j, n⟩ ⟨h2, h3⟩
    simp only at h2 h3 ⊢
    rcases Nat.lt_or_ge j l.length with hj | hj
    · have hst := cntL_step hj
      have hcs := cntS_eq l[j]
      have h4 : cntL (l.drop j) ≤ cntL l := by
        have : ∀ (l : List S) (j : Nat), cntL (l.drop j) ≤ cntL l := fun l => by
          induction l with
          | nil => intro j; simp
          | cons t r ihr =>
            intro j
            cases j with
            | zero => simp
            | succ j => rw [List.drop_succ_cons, cntL]; have := ihr j; omega
        exact this l j
      conv => whnf
      repeat' (first | ((first | (refine DrawK.auto tabOK mixed (by kernel_rfl) ?_) | (refine IdxK.ss (by omega) ?_) | (refine Wr.i64 (by omega) (by omega) ?_) | (refine CallK.pure (ih l[j].thn (by omega) (by omega)) (.cons (Sub.refl _) .nil) ?_; rintro _ rfl) | (refine CallK.pure (ih l[j].els (by omega) (by omega)) (.cons (Sub.refl _) .nil) ?_; rintro _ rfl)); conv => whnf) | (refine Br.dec (fun _ => ?_) (fun _ => ?_) <;> first | (exfalso; omega) | conv => whnf))
      all_goals exact ⟨(j + 1, n + (cntL l[j].thn + cntL l[j].els)), ⟨by simp only; omega, by simp only; omega⟩, by simp only; omega, Le.of_eq rfl⟩
    · conv => whnf
      rw [List.drop_eq_nil_of_le hj, cntL] at h3
      repeat' (refine Br.dec (fun _ => ?_) (fun _ => ?_) <;> first | (exfalso; omega) | conv => whnf)
      exact RetK.int (by omega)
set_option maxRecDepth 100000 in
theorem tree_Count (p : Pg) (hc : cntP p.procs ≤ 1000) : SpecP Tryz.prog 27 [.agg p.cells] (fun r => r = .int .i64 (cntP p.procs)) := by
  refine SpecP.body I_tree_Count tabOK Tryz.func27 rfl Tryz.call27 (by show 1 ≤ _; decide) ?_
  conv => whnf
  have hl2 : (p.procs.map fun f => AV.agg f.cells).length = p.procs.length := List.length_map _
  repeat' (intro (_ : _ ≤ 9223372036854775807); conv => whnf)
  refine LoopK.inv tabOK (fun y : Nat × Nat => ⟨[(3, .p (.int .i64 y.2)), (7, .p (.sl (p.procs.map fun f => .agg f.cells))), (8, .p (.int .i64 (p.procs.map fun f => AV.agg f.cells).length)), (9, .p (.int .i64 y.1))], []⟩) (fun y => y.1 ≤ p.procs.length ∧ y.2 + cntP (p.procs.drop y.1) = cntP p.procs) (fun y => p.procs.length - y.1) (0, 0) (Le.of_eq rfl) ⟨Nat.zero_le _, by simp⟩ ?_
  rintro ⟨j, n⟩ ⟨h2, h3⟩
  simp only at h2 h3 ⊢
  rcases Nat.lt_or_ge j p.procs.length with hj | hj
  · have hst := cntP_step hj
    have hcm := cntP_mem _ _ (List.getElem_mem hj)
    conv => whnf
    repeat' (first | ((first | (refine And.intro rfl ?_) | (refine IdxK.map (by omega) (fun _ => rfl) ?_) | (refine Wr.i64 (by omega) (by omega) ?_) | (refine CallK.pure (tree_count (cntL p.procs[j].body+1) p.procs[j].body (by omega) (by omega)) (.cons (Sub.refl _) .nil) ?_; rintro _ rfl)); conv => whnf) | (refine Br.dec (fun _ => ?_) (fun _ => ?_) <;> first | (exfalso; omega) | conv => whnf))
    exact ⟨(j + 1, n + cntL p.procs[j].body), ⟨by simp only; omega, by simp only; omega⟩, by simp only; omega, Le.of_eq rfl⟩
  · conv => whnf
    rw [List.drop_eq_nil_of_le hj, cntP] at h3
    repeat' (refine Br.dec (fun _ => ?_) (fun _ => ?_) <;> first | (exfalso; omega) | conv => whnf)
    exact RetK.int (by omega)
def smallB (p : Pg) (most : Int) : Bool := chkB p && decide ((cntP p.procs : Int) ≤ most)
end Go.Ab
namespace Go.Ab
open Go.Proofs
/-- A step that may be taken: from the beginning, or past none of some. -/
def frR (steps : List Step) (at_ : Int) (but : List Int) (a b : Int) : Prop := (a = at_ ∨ hasI but a = false) ∧ ∃ s ∈ steps, s.src = a ∧ s.dst = b
structure FrI (steps : List Step) (at_ : Int) (but : List Int) (n : Nat) (l : List Int) : Prop where
  le : n ≤ l.length
  hd : l[0]? = some at_
  nd : l.Nodup
  sub : ∀ x ∈ l, x ∈ at_ :: steps.map Step.dst
  snd : ∀ x ∈ l, Rch (frR steps at_ but) at_ x
  cl : ∀ (m : Nat) (a : Int), m < n → l[m]? = some a → ∀ b, frR steps at_ but a b → b ∈ l
theorem FrI.len {steps : List Step} {at_ : Int} {but : List Int} {n : Nat} {l : List Int} (h : FrI steps at_ but n l) : l.length ≤ steps.length + 1 := by
  have := nodup_len h.nd h.sub
  simpa using this
theorem FrI.start (steps : List Step) (at_ : Int) (but : List Int) : FrI steps at_ but 0 [at_] := ⟨Nat.zero_le _, rfl, by simp, by simp, fun x hx => by rw [List.mem_singleton.1 hx]; exact .refl, fun m a hm => by omega⟩
theorem FrI.add {steps : List Step} {at_ : Int} {but : List Int} {n : Nat} {l : List Int} (h : FrI steps at_ but n l) {a b : Int} (ha : a ∈ l) (hb : frR steps at_ but a b) (hn : hasI l b = false) : FrI steps at_ but n (l ++ [b]) := by
  have hnm : b ∉ l := fun hm => by rw [hasI_iff.2 hm] at hn; cases hn
  have h0 : 0 < l.length := (List.getElem?_eq_some_iff.1 h.hd).1
  refine ⟨by rw [List.length_append]; have := h.le; omega, by rw [List.getElem?_append_left h0]; exact h.hd, ?_, fun x hx => ?_, fun x hx => ?_, fun m c hm hc d hd => ?_⟩
  · rw [List.nodup_append]
    refine ⟨h.nd, by simp, fun x hx y hy => ?_⟩
    rw [List.mem_singleton.1 hy]
    exact fun e => hnm (e ▸ hx)
  · rcases List.mem_append.1 hx with hx | hx
    · exact h.sub x hx
    · rw [List.mem_singleton.1 hx]
      obtain ⟨_, s, hs, _, h2⟩ := hb
      exact List.mem_cons_of_mem _ (List.mem_map.2 ⟨s, hs, h2⟩)
  · rcases List.mem_append.1 hx with hx | hx
    · exact h.snd x hx
    · rw [List.mem_singleton.1 hx]
      exact .tail (h.snd a ha) hb
  · rcases Nat.lt_or_ge m l.length with hml | hml
    · rw [List.getElem?_append_left hml] at hc
      exact List.mem_append.2 (.inl (h.cl m c hm hc d hd))
    · have := h.le
      omega
theorem FrI.fin {steps : List Step} {at_ : Int} {but : List Int} {l : List Int} (h : FrI steps at_ but l.length l) (x : Int) : x ∈ l ↔ Rch (frR steps at_ but) at_ x := by
  refine ⟨h.snd x, fun hr => hr.closed (S := fun x => x ∈ l) (fun a b ha hb => ?_) (List.mem_of_getElem? h.hd)⟩
  obtain ⟨m, hm⟩ := List.mem_iff_getElem?.1 ha
  exact h.cl m a (List.getElem?_eq_some_iff.1 hm).1 hm b hb
theorem FrI.next {steps : List Step} {at_ : Int} {but : List Int} {n : Nat} {l : List Int} (h : FrI steps at_ but n l) (hn : n < l.length) (hc : ∀ b, frR steps at_ but l[n] b → b ∈ l) : FrI steps at_ but (n + 1) l := by
  refine ⟨hn, h.hd, h.nd, h.sub, h.snd, fun m a hm ha b hb => ?_⟩
  rcases Nat.lt_or_ge m n with hmn | hmn
  · exact h.cl m a hmn ha b hb
  · obtain rfl : m = n := by omega
    rw [List.getElem?_eq_getElem hn] at ha
    cases ha
    exact hc b hb
end Go.Ab
namespace Go.Ab
open Go.Proofs
theorem DrawK.frz {P : Program} {T : Tab} {N : Nat} {ops : Array Oper} {info : Info} {id : Nat} {K : St → Prop} {s : St} (gs : List (List Nat)) (h : frzK gs s fun s' => DrawK P T N info id ops K s') : DrawK P T N info id ops K s := by
  obtain ⟨s', h1, h2⟩ := frzK_spec (N := N) h
  exact DrawK.le h2 h1
/-- A statement's own item, by its number. -/
theorem stAt_own {p : Pg} (h : chkB p = true) {j : Nat} {f : Pr} (hj : p.procs[j]? = some f) {a : Int} (h1 : (offN p.procs j : Int) + 1 ≤ a) (h2 : a ≤ (offN p.procs j + cntL f.body : Nat)) : ∃ t ∈ flL f.body, stAt p a = some t ∧ t.id = a := by
  obtain ⟨it, h3, h4⟩ := sheet_its hj (k := (a - 1).toNat) (by omega) (by omega)
  refine ⟨it.s, its_s h4, by unfold stAt; rw [h3]; rfl, ?_⟩
  obtain ⟨_, _, _, hlen, hsp⟩ := sheet_spec p
  obtain ⟨_, _, hle, hd⟩ := hsp j f hj
  have hids := its_ids (chk_parts h).1 hj
  have h5 : (itsOf p j f)[(a - 1).toNat - offN p.procs j]? = some it := by
    unfold itsOf
    rw [← hd, List.getElem?_drop, List.getElem?_take, if_pos (by omega), show offN p.procs j + ((a - 1).toNat - offN p.procs j) = (a - 1).toNat by omega]
    exact h3
  have h6 : ((itsOf p j f).map fun it => it.s.id)[(a - 1).toNat - offN p.procs j]? = some it.s.id := by rw [List.getElem?_map, h5]; rfl
  rw [hids] at h6
  unfold idsN at h6
  rw [List.getElem?_map, List.getElem?_range' (by omega)] at h6
  simp at h6
  omega
end Go.Ab
namespace Go.Ab
open Go.Proofs
def atP (sh : Sheet) (n : Nat) (l : List Item) : Prop := ∀ (i : Nat) (it : Item), l[i]? = some it → sh.l[n + i]? = some it
theorem atP.right {sh : Sheet} {n : Nat} {a b : List Item} (h : atP sh n (a ++ b)) : atP sh (n + a.length) b := fun i it hi => by
  rw [Nat.add_assoc]
  exact h (a.length + i) it (by rw [List.getElem?_append_right (by omega), Nat.add_sub_cancel_left]; exact hi)
end Go.Ab
namespace Go.Ab
open Go.Proofs
theorem sheet_id {p : Pg} (h : chkB p = true) {j : Nat} {f : Pr} (hj : p.procs[j]? = some f) {k : Nat} {it : Item} (h1 : offN p.procs j ≤ k) (h2 : k < offN p.procs j + cntL f.body) (hk : (sheetOf p).l[k]? = some it) : it.s.id = (k : Int) + 1 := by
  obtain ⟨t, _, h4, h5⟩ := stAt_own h hj (a := (k : Int) + 1) (by omega) (by omega)
  unfold stAt at h4
  rw [show ((k : Int) + 1 - 1).toNat = k by omega, hk] at h4
  cases h4
  exact h5
theorem raw_go {p : Pg} {j : Nat} {f : Pr} {it : Item} (hi : it ∈ itsOf p j f) {y : Int} (hy : y ∈ goesI (sheetOf p) f it) : (⟨it.s.id, y, 1⟩ : Step) ∈ stepsRaw p j f := by
  unfold stepsRaw
  exact List.mem_cons_of_mem _ (List.mem_flatMap.2 ⟨it, hi, List.mem_map.2 ⟨y, hy, rfl⟩⟩)
theorem openF_iff {n : Nat} {part : List Int} (hp : ∀ k, k < n → 0 ≤ part.getD k 0 ∧ part.getD k 0 < n) {i : Nat} (hi : i < n) : ∀ (l : List (Int × Int)) {o : List Bool}, o.length = n → (∀ t ∈ l, 0 ≤ t.1 ∧ t.1 < n) →
    ((l.foldl (openS part) o).getD i false = true ↔ o.getD i false = true ∨ ∃ t ∈ l, part.getD t.1.toNat 0 ≠ part.getD t.2.toNat 0 ∧ part.getD t.1.toNat 0 = i)
  | [], o, _, _ => by simp
  | t :: r, o, ho, hr => by
    rw [List.foldl_cons, openF_iff hp hi r (by rw [openS_len]; exact ho) fun u hu => hr u (List.mem_cons_of_mem _ hu)]
    have h1 := hr t List.mem_cons_self
    have h2 := hp t.1.toNat (by omega)
    have key : (openS part o t).getD i false = true ↔ o.getD i false = true ∨ (part.getD t.1.toNat 0 ≠ part.getD t.2.toNat 0 ∧ part.getD t.1.toNat 0 = i) := by
      unfold openS
      split
      · rename_i he
        constructor
        · exact .inl
        · rintro (h3 | ⟨h3, _⟩)
          · exact h3
          · exact absurd he h3
      · rename_i he
        rw [getD_set (by omega)]
        split
        · rename_i h3
          constructor
          · intro _
            exact .inr ⟨he, by omega⟩
          · intro _
            rfl
        · rename_i h3
          constructor
          · exact .inl
          · rintro (h4 | ⟨_, h4⟩)
            · exact h4
            · exact absurd (by omega) h3
    rw [key, or_assoc]
    constructor
    · rintro (h3 | ⟨h3, h4⟩ | ⟨u, hu, h3⟩)
      · exact .inl h3
      · exact .inr ⟨t, List.mem_cons_self, h3, h4⟩
      · exact .inr ⟨u, List.mem_cons_of_mem _ hu, h3⟩
    · rintro (h3 | ⟨u, hu, h3⟩)
      · exact .inl h3
      · rcases List.mem_cons.1 hu with rfl | hu
        · exact .inr (.inl h3)
        · exact .inr (.inr ⟨u, hu, h3⟩)
theorem open_iff {n : Nat} {part : List Int} (hn : 0 < n) (hp : ∀ k, k < n → 0 ≤ part.getD k 0 ∧ part.getD k 0 < n) {i : Nat} (hi : i < n) {l : List (Int × Int)} (hr : ∀ t ∈ l, 0 ≤ t.1 ∧ t.1 < n) :
    (openB n part l).getD i false = true ↔ part.getD 0 0 = i ∨ part.getD (n - 1) 0 = i ∨ ∃ t ∈ l, part.getD t.1.toNat 0 ≠ part.getD t.2.toNat 0 ∧ part.getD t.1.toNat 0 = i := by
  have h0 := hp 0 hn
  have h1 := hp (n - 1) (by omega)
  unfold openB
  rw [openF_iff hp hi l (by simp [open0]) hr]
  have key : (open0 n part).getD i false = true ↔ part.getD 0 0 = i ∨ part.getD (n - 1) 0 = i := by
    unfold open0
    rw [getD_set (by rw [List.length_set, List.length_replicate]; omega), getD_set (by rw [List.length_replicate]; omega)]
    split
    · exact ⟨fun _ => .inr (by omega), fun _ => rfl⟩
    · split
      · exact ⟨fun _ => .inl (by omega), fun _ => rfl⟩
      · have : (List.replicate n false).getD i false = false := by
          rw [List.getD_eq_getElem?_getD, List.getElem?_replicate]; split <;> rfl
        rw [this]
        constructor
        · intro h; cases h
        · rintro (h | h) <;> omega
  rw [key, or_assoc]
end Go.Ab
namespace Go.Ab
open Go.Proofs
section
variable {p : Pg} {j : Nat} {f : Pr}
theorem ix_place {i : Int} (h : 0 ≤ i ∧ i < (cntL f.body + 2 : Nat)) : plP p j f (placeI p j (cntL f.body + 2 : Nat) i) ∧ ixI p j f (placeI p j (cntL f.body + 2 : Nat) i) = i := by
  unfold placeI ixI indexI plP loI hiI
  constructor
  · (repeat' split) <;> omega
  · (repeat' split) <;> omega
theorem place_ix {x : Int} (h : plP p j f x) : placeI p j (cntL f.body + 2 : Nat) (ixI p j f x) = x := by
  have h1 := ix_place (p := p) (j := j) (f := f) (ix_rng h)
  exact ix_inj h1.1 h h1.2
theorem prs_new : prsW (newWay p j f) f = (newWay p j f).real.map (ixP p j f (cntL f.body + 2 : Nat)) := rfl
theorem prs_in (h : chkB p = true) (hj : p.procs[j]? = some f) : ∀ t ∈ prsW (newWay p j f) f, (0 ≤ t.1 ∧ t.1 < (cntL f.body + 2 : Nat)) ∧ 0 ≤ t.2 ∧ t.2 < (cntL f.body + 2 : Nat) := fun t ht => by
  rw [prs_new] at ht
  obtain ⟨s, hs, rfl⟩ := List.mem_map.1 ht
  obtain ⟨h1, h2⟩ := real_places h hj s hs
  exact ⟨ix_rng h1, ix_rng h2⟩
/-- The procedure's graph, by numbers. -/
def wE (p : Pg) (j : Nat) (f : Pr) : Int → Int → Prop := rowE (graphE (cntL f.body + 2) (prsW (newWay p j f) f)).1
def wR (p : Pg) (j : Nat) (f : Pr) : Int → Int → Prop := stR (newWay p j f).real
theorem E_iff (h : chkB p = true) (hj : p.procs[j]? = some f) {i k : Int} : wE p j f i k ↔ ∃ a b, wR p j f a b ∧ ixI p j f a = i ∧ ixI p j f b = k := by
  unfold wE wR
  rw [graph_rowE]
  constructor
  · rintro ⟨h1, _, _⟩
    rw [prs_new] at h1
    obtain ⟨s, hs, he⟩ := List.mem_map.1 h1
    exact ⟨s.src, s.dst, ⟨s, hs, rfl, rfl⟩, congrArg Prod.fst he, congrArg Prod.snd he⟩
  · rintro ⟨a, b, ⟨s, hs, rfl, rfl⟩, rfl, rfl⟩
    obtain ⟨h1, h2⟩ := real_places h hj s hs
    exact ⟨List.mem_map.2 ⟨s, hs, rfl⟩, hasB_of (ix_rng h1), hasB_of (ix_rng h2)⟩
theorem R_pl (h : chkB p = true) (hj : p.procs[j]? = some f) {a b : Int} (hr : wR p j f a b) : plP p j f a ∧ plP p j f b := by
  obtain ⟨s, hs, rfl, rfl⟩ := hr
  exact real_places h hj s hs
theorem rch_ix (h : chkB p = true) (hj : p.procs[j]? = some f) {a b : Int} (ha : plP p j f a) (hb : plP p j f b) : Rch (wE p j f) (ixI p j f a) (ixI p j f b) ↔ Rch (wR p j f) a b := by
  constructor
  · intro hr
    obtain ⟨c, h1, h2, h3⟩ := hr.closed (S := fun k => ∃ c, plP p j f c ∧ ixI p j f c = k ∧ Rch (wR p j f) a c) (by
      rintro i k ⟨c, h1, h2, h3⟩ h4
      obtain ⟨x, y, h5, h6, h7⟩ := (E_iff h hj).1 h4
      have h8 := R_pl h hj h5
      have : x = c := ix_inj h8.1 h1 (by rw [h6, h2])
      subst this
      exact ⟨y, h8.2, h7, .tail h3 h5⟩) ⟨a, ha, rfl, .refl⟩
    rw [← ix_inj h1 hb h2]
    exact h3
  · intro hr
    exact (hr.closed (S := fun c => plP p j f c ∧ Rch (wE p j f) (ixI p j f a) (ixI p j f c)) (fun x y ⟨h1, h2⟩ h3 => ⟨(R_pl h hj h3).2, .tail h2 ((E_iff h hj).2 ⟨x, y, h3, rfl, rfl⟩)⟩) ⟨ha, .refl⟩).2
theorem scc_ix (h : chkB p = true) (hj : p.procs[j]? = some f) {a b : Int} (ha : plP p j f a) (hb : plP p j f b) : sccP (wE p j f) (ixI p j f a) (ixI p j f b) ↔ sccP (wR p j f) a b := by
  unfold sccP
  rw [rch_ix h hj ha hb, rch_ix h hj hb ha]
/-- A place's part. -/
def partI (p : Pg) (j : Nat) (f : Pr) (i : Int) : Int := (partW (newWay p j f) f).getD i.toNat 0
theorem partW_new : partW (newWay p j f) f = partR (cntL f.body + 2) (graphE (cntL f.body + 2) (prsW (newWay p j f) f)).1 := rfl
theorem part_min {i : Int} (hi : 0 ≤ i ∧ i < (cntL f.body + 2 : Nat)) : MinP (wE p j f) i (partI p j f i) := by
  unfold partI
  rw [partW_new]
  exact partR_spec (graphE_in _ _).1 hi
theorem part_rng {k : Nat} (hk : k < cntL f.body + 2) : 0 ≤ (partW (newWay p j f) f).getD k 0 ∧ (partW (newWay p j f) f).getD k 0 < (cntL f.body + 2 : Nat) := by
  rw [partW_new]
  exact partR_in (graphE_in _ _).1 hk
theorem part_len : (partW (newWay p j f) f).length = cntL f.body + 2 := by rw [partW_new, partR_len]
theorem MinP.same {E : Int → Int → Prop} {x y v : Int} (h : MinP E x v) (hs : sccP E x y) : MinP E y v := ⟨hs.symm.trans h.scc, fun z hz => h.le z (hs.trans hz)⟩
theorem part_iff {i k : Int} (hi : 0 ≤ i ∧ i < (cntL f.body + 2 : Nat)) (hk : 0 ≤ k ∧ k < (cntL f.body + 2 : Nat)) : partI p j f i = partI p j f k ↔ sccP (wE p j f) i k := by
  have h1 := part_min (p := p) (j := j) hi
  have h2 := part_min (p := p) (j := j) hk
  constructor
  · intro he
    rw [← he] at h2
    exact h1.scc.trans h2.scc.symm
  · intro hs
    exact (h1.same hs).uniq h2
theorem part_pl (h : chkB p = true) (hj : p.procs[j]? = some f) {a b : Int} (ha : plP p j f a) (hb : plP p j f b) : partI p j f (ixI p j f a) = partI p j f (ixI p j f b) ↔ sccP (wR p j f) a b := by
  rw [part_iff (ix_rng ha) (ix_rng hb), scc_ix h hj ha hb]
/-- A trap: a part out of which no step goes, without the entry and the exit. -/
structure TrapP (p : Pg) (j : Nat) (f : Pr) (l : List Int) (r : Int) : Prop where
  pl : plP p j f r
  mem : ∀ b, b ∈ l ↔ plP p j f b ∧ sccP (wR p j f) r b
  cl : ∀ b c, sccP (wR p j f) r b → wR p j f b c → sccP (wR p j f) r c
  n0 : ¬ sccP (wR p j f) r 0
  nx : ¬ sccP (wR p j f) r (-1)
theorem trapR_mem {plc : Int → Int} {part : List Int} {i q : Nat} {b : Int} : b ∈ trapR plc part i q ↔ ∃ k : Nat, k < q ∧ part.getD k 0 = i ∧ plc k = b := by
  unfold trapR
  constructor
  · intro h
    obtain ⟨k, hk, rfl⟩ := List.mem_map.1 h
    obtain ⟨h1, h2⟩ := List.mem_filter.1 hk
    exact ⟨k, List.mem_range.1 h1, beq_iff_eq.1 h2, rfl⟩
  · rintro ⟨k, h1, h2, rfl⟩
    exact List.mem_map.2 ⟨k, List.mem_filter.2 ⟨List.mem_range.2 h1, beq_iff_eq.2 h2⟩, rfl⟩
theorem ix0 : ixI p j f 0 = 0 := by unfold ixI indexI; rw [if_pos rfl]
theorem ix1 : ixI p j f (-1) = ((cntL f.body + 2 : Nat) : Int) - 1 := by unfold ixI indexI; rw [if_neg (by omega), if_pos rfl]
theorem pl0 : plP p j f 0 := .inl rfl
theorem pl1 : plP p j f (-1) := .inr (.inl rfl)
theorem part_nat (k : Nat) : (partW (newWay p j f) f).getD k 0 = partI p j f k := by
  unfold partI
  rw [Int.toNat_natCast]
theorem open_pl (h : chkB p = true) (hj : p.procs[j]? = some f) {i : Nat} (hi : i < cntL f.body + 2) : (openB (cntL f.body + 2) (partW (newWay p j f) f) (prsW (newWay p j f) f)).getD i false = true ↔
    partI p j f (ixI p j f 0) = i ∨ partI p j f (ixI p j f (-1)) = i ∨ ∃ a b, wR p j f a b ∧ ¬ sccP (wR p j f) a b ∧ partI p j f (ixI p j f a) = i := by
  rw [open_iff (by omega) (fun k hk => part_rng hk) hi fun t ht => (prs_in h hj t ht).1, ix0, ix1]
  have e1 : (partW (newWay p j f) f).getD (cntL f.body + 2 - 1) 0 = partI p j f (((cntL f.body + 2 : Nat) : Int) - 1) := by
    unfold partI
    congr 1
    omega
  have e0 : (partW (newWay p j f) f).getD 0 0 = partI p j f 0 := rfl
  rw [e0, e1]
  refine or_congr Iff.rfl (or_congr Iff.rfl ?_)
  constructor
  · rintro ⟨t, ht, h1, h2⟩
    rw [prs_new] at ht
    obtain ⟨s, hs, rfl⟩ := List.mem_map.1 ht
    obtain ⟨h3, h4⟩ := real_places h hj s hs
    exact ⟨s.src, s.dst, ⟨s, hs, rfl, rfl⟩, fun hsc => h1 ((part_pl h hj h3 h4).2 hsc), h2⟩
  · rintro ⟨a, b, ⟨s, hs, rfl, rfl⟩, h1, h2⟩
    obtain ⟨h3, h4⟩ := real_places h hj s hs
    exact ⟨ixP p j f (cntL f.body + 2 : Nat) s, by rw [prs_new]; exact List.mem_map.2 ⟨s, hs, rfl⟩, fun he => h1 ((part_pl h hj h3 h4).1 he), h2⟩
/-- The traps that are told, by the root. -/
theorem traps_mem {l : List Int} : l ∈ trapsW (newWay p j f) f ↔ ∃ i : Nat, i < cntL f.body + 2 ∧ partI p j f i = i ∧ (openB (cntL f.body + 2) (partW (newWay p j f) f) (prsW (newWay p j f) f)).getD i false = false ∧ l = trapR (placeI p j (cntL f.body + 2 : Nat)) (partW (newWay p j f) f) i (cntL f.body + 2) := by
  unfold trapsW trapL
  rw [part_len]
  constructor
  · intro hl
    obtain ⟨i, hi, rfl⟩ := List.mem_map.1 hl
    obtain ⟨h1, h2⟩ := List.mem_filter.1 hi
    unfold trapT at h2
    rw [Bool.and_eq_true, beq_iff_eq, Bool.not_eq_true', part_nat] at h2
    exact ⟨i, List.mem_range.1 h1, h2.1, h2.2, rfl⟩
  · rintro ⟨i, h1, h2, h3, rfl⟩
    refine List.mem_map.2 ⟨i, List.mem_filter.2 ⟨List.mem_range.2 h1, ?_⟩, rfl⟩
    unfold trapT
    rw [Bool.and_eq_true, beq_iff_eq, Bool.not_eq_true', part_nat]
    exact ⟨h2, h3⟩
theorem trap_mem (h : chkB p = true) (hj : p.procs[j]? = some f) {i : Nat} (hi : i < cntL f.body + 2) (hp : partI p j f i = i) (b : Int) :
    b ∈ trapR (placeI p j (cntL f.body + 2 : Nat)) (partW (newWay p j f) f) i (cntL f.body + 2) ↔ plP p j f b ∧ sccP (wR p j f) (placeI p j (cntL f.body + 2 : Nat) i) b := by
  obtain ⟨h1, h2⟩ := ix_place (p := p) (j := j) (f := f) (i := i) (by omega)
  rw [trapR_mem]
  constructor
  · rintro ⟨k, h3, h4, rfl⟩
    obtain ⟨h5, h6⟩ := ix_place (p := p) (j := j) (f := f) (i := k) (by omega)
    refine ⟨h5, (part_pl h hj h1 h5).1 ?_⟩
    rw [h2, h6, hp, ← part_nat, h4]
  · rintro ⟨h3, h4⟩
    have h5 := ix_rng h3
    refine ⟨(ixI p j f b).toNat, by omega, ?_, ?_⟩
    · rw [part_nat, show (((ixI p j f b).toNat : Nat) : Int) = ixI p j f b by omega, ← (part_pl h hj h1 h3).2 h4, h2, hp]
    · rw [show (((ixI p j f b).toNat : Nat) : Int) = ixI p j f b by omega, place_ix h3]
theorem trap_spec (h : chkB p = true) (hj : p.procs[j]? = some f) {l : List Int} (hl : l ∈ trapsW (newWay p j f) f) : ∃ r, TrapP p j f l r := by
  obtain ⟨i, hi, hp, ho, rfl⟩ := traps_mem.1 hl
  obtain ⟨h1, h2⟩ := ix_place (p := p) (j := j) (f := f) (i := i) (by omega)
  have ho2 : ¬ _ := fun hx => by
    have := (open_pl h hj hi).2 hx
    rw [ho] at this
    cases this
  have hpr : partI p j f (ixI p j f (placeI p j (cntL f.body + 2 : Nat) i)) = i := by rw [h2, hp]
  refine ⟨_, h1, trap_mem h hj hi hp, fun b c hb hbc => ?_, fun hs => ho2 (.inl ?_), fun hs => ho2 (.inr (.inl ?_))⟩
  · have h3 := R_pl h hj hbc
    by_cases hsc : sccP (wR p j f) b c
    · exact hb.trans hsc
    · refine absurd (.inr (.inr ⟨b, c, hbc, hsc, ?_⟩)) ho2
      rw [← (part_pl h hj h1 h3.1).2 hb, hpr]
  · rw [← (part_pl h hj h1 pl0).2 hs, hpr]
  · rw [← (part_pl h hj h1 pl1).2 hs, hpr]
end
end Go.Ab
namespace Go.Ab
open Go.Proofs
theorem real_len {p : Pg} {j : Nat} {f : Pr} (hj : p.procs[j]? = some f) (hcn : cntP p.procs ≤ 200) : (newWay p j f).real.length ≤ 100000 := by
  obtain ⟨_, _, _, hlen, hsp⟩ := sheet_spec p
  obtain ⟨_, _, hle, _⟩ := hsp j f hj
  have h9 := normS_len (stepsRaw p j f)
  have h10 := stepsRaw_len p j f
  show (normS (stepsRaw p j f)).length ≤ 100000
  omega
theorem nextR_ok {p : Pg} (h : chkB p = true) {j : Nat} {f : Pr} (hj : p.procs[j]? = some f) : ∀ it ∈ itsOf p j f, ∀ s ∈ fOf it, okSt s := fun it hi s hs => by
  obtain ⟨hm, _⟩ := chk_parts h
  obtain ⟨_, _, hcn⟩ := chk_cnt h
  obtain ⟨_, _, _, hlen, hsp⟩ := sheet_spec p
  obtain ⟨_, _, hle, _⟩ := hsp j f hj
  have h1 := body_id hm hj (its_s hi)
  have h2 := (its_rng hi).1
  unfold fOf at hs
  split at hs
  · rw [List.mem_singleton.1 hs]
    unfold okI at h2
    unfold okSt
    constructor
    · show it.s.id ≠ _
      omega
    · show it.next ≠ _
      omega
  · cases hs
theorem trap_row {p : Pg} (h : chkB p = true) {j : Nat} {f : Pr} (hj : p.procs[j]? = some f) {l : List Int} (hl : l ∈ trapsW (newWay p j f) f) : l.length ≤ cntL f.body + 2 ∧ ∀ id ∈ l, (offN p.procs j : Int) + 1 ≤ id ∧ id ≤ (offN p.procs j + cntL f.body : Nat) := by
  constructor
  · obtain ⟨i, _, _, _, rfl⟩ := traps_mem.1 hl
    exact trapR_len _ _ _ _
  · intro id hid
    obtain ⟨r, ht⟩ := trap_spec h hj hl
    obtain ⟨h1, h2⟩ := (ht.mem id).1 hid
    rcases h1 with rfl | rfl | h1
    · exact absurd h2 ht.n0
    · exact absurd h2 ht.nx
    · exact h1
theorem wayT {p : Pg} (h : chkB p = true) {j : Nat} {f : Pr} (hj : p.procs[j]? = some f) : WayT (newWay p j f) f (cntL f.body + 2) := by
  obtain ⟨_, _, hcn⟩ := chk_cnt h
  obtain ⟨_, _, _, hlen, hsp⟩ := sheet_spec p
  obtain ⟨_, _, hle, _⟩ := hsp j f hj
  refine ⟨rfl, hj, by show cntP p.procs ≤ 1000; omega, by omega, by omega, Nat.le_trans (real_len hj hcn) (by decide), prs_in h hj, ?_, fun l hl => ?_, fun s hs => (chk_way h hj).2.2 s (((real_spec h hj).2 s).1 hs), nextR_ok h hj⟩
  · have := trapL_len (placeI p j (cntL f.body + 2 : Nat)) (partW (newWay p j f) f) (openB (cntL f.body + 2) (partW (newWay p j f) f) (prsW (newWay p j f) f)) (cntL f.body + 2)
    have e : trapsW (newWay p j f) f = trapL (placeI p j (cntL f.body + 2 : Nat)) (partW (newWay p j f) f) (openB (cntL f.body + 2) (partW (newWay p j f) f) (prsW (newWay p j f) f)) (cntL f.body + 2) := by
      unfold trapsW
      rw [part_len]
      rfl
    rw [e]
    omega
  · obtain ⟨h1, h2⟩ := trap_row h hj hl
    refine ⟨by omega, fun id hid => ?_⟩
    have := h2 id hid
    show 1 ≤ id ∧ id ≤ (sheetOf p).l.length
    omega
end Go.Ab
namespace Go.Ab
open Go.Proofs
instance (a b : Step) : Decidable (ltSt a b) := inferInstanceAs (Decidable (_ ∨ _))
instance : DecidableEq Step := fun a b => decidable_of_iff (a.src = b.src ∧ a.dst = b.dst ∧ a.kind = b.kind) ⟨fun h => Step.eq_of h.1 h.2.1 h.2.2, fun h => by rw [h]; exact ⟨rfl, rfl, rfl⟩⟩
theorem same_of {a b : Step} (ha : okSt a) (hb : okSt b) (h : stepLt b a = false) : (a.src = b.src ∧ a.dst = b.dst ∧ a.kind ≤ b.kind) ∨ ltSt a b := by
  rw [Bool.eq_false_iff, ne_eq, stepLt_iff] at h
  unfold ltSt
  by_cases h1 : rankI a.src = rankI b.src
  · by_cases h2 : rankI a.dst = rankI b.dst
    · exact .inl ⟨rankI_inj ha.1 hb.1 h1, rankI_inj ha.2 hb.2 h2, by omega⟩
    · exact .inr (by omega)
  · exact .inr (by omega)
theorem compFrom_gen : ∀ (l : List Step) (a : Step), okSt a → (∀ s ∈ l, okSt s) → (a :: l).Pairwise (fun a b => stepLt b a = false) →
    (∀ s ∈ compFrom a l, ltSt a s) ∧ (compFrom a l).Pairwise ltSt ∧ (∀ s ∈ compFrom a l, s ∈ l) ∧ ∀ s ∈ l, (s.src = a.src ∧ s.dst = a.dst ∧ a.kind ≤ s.kind) ∨ ∃ s' ∈ compFrom a l, s'.src = s.src ∧ s'.dst = s.dst ∧ s'.kind ≤ s.kind
  | [], a, _, _, _ => by simp [compFrom]
  | b :: r, a, ha, hl, h => by
    have hb := hl b List.mem_cons_self
    have hr : ∀ s ∈ r, okSt s := fun s hs => hl s (List.mem_cons_of_mem _ hs)
    rw [List.pairwise_cons] at h
    obtain ⟨h1, h2⟩ := h
    obtain ⟨i1, i2, i3, i4⟩ := compFrom_gen r b hb hr h2
    have hab := same_of ha hb (h1 b List.mem_cons_self)
    rw [compFrom]
    cases hs : sameStep b a with
    | true =>
      unfold sameStep at hs
      simp only [Bool.and_eq_true, decide_eq_true_eq] at hs
      have hk : a.kind ≤ b.kind := by
        rcases hab with h3 | h3
        · exact h3.2.2
        · unfold ltSt at h3
          rw [hs.1, hs.2] at h3
          omega
      rw [cond_true]
      refine ⟨fun s hs' => ?_, i2, fun s hs' => List.mem_cons_of_mem _ (i3 s hs'), fun s hs' => ?_⟩
      · have := i1 s hs'
        unfold ltSt at this ⊢
        rwa [← hs.1, ← hs.2]
      · rcases List.mem_cons.1 hs' with rfl | hs'
        · exact .inl ⟨hs.1, hs.2, hk⟩
        · rcases i4 s hs' with ⟨h3, h4, h5⟩ | h3
          · exact .inl ⟨by rw [h3, hs.1], by rw [h4, hs.2], by omega⟩
          · exact .inr h3
    | false =>
      have hlt : ltSt a b := by
        rcases hab with h3 | h3
        · unfold sameStep at hs
          simp [h3.1, h3.2.1] at hs
        · exact h3
      rw [cond_false]
      refine ⟨fun s hs' => ?_, List.pairwise_cons.2 ⟨i1, i2⟩, fun s hs' => ?_, fun s hs' => ?_⟩
      · rcases List.mem_cons.1 hs' with rfl | hs'
        · exact hlt
        · exact ltSt_trans hlt (i1 s hs')
      · rcases List.mem_cons.1 hs' with rfl | hs'
        · exact List.mem_cons_self
        · exact List.mem_cons_of_mem _ (i3 s hs')
      · rcases List.mem_cons.1 hs' with rfl | hs'
        · exact .inr ⟨s, List.mem_cons_self, rfl, rfl, Int.le_refl _⟩
        · rcases i4 s hs' with ⟨h3, h4, h5⟩ | ⟨s', h3, h4⟩
          · exact .inr ⟨b, List.mem_cons_self, h3.symm, h4.symm, h5⟩
          · exact .inr ⟨s', List.mem_cons_of_mem _ h3, h4⟩
theorem normS_gen {l : List Step} (hok : ∀ s ∈ l, okSt s) : (normS l).Pairwise ltSt ∧ (∀ s ∈ normS l, s ∈ l) ∧ ∀ s ∈ l, ∃ s' ∈ normS l, s'.src = s.src ∧ s'.dst = s.dst ∧ s'.kind ≤ s.kind := by
  have hp : ∀ s, s ∈ sortSt l ↔ s ∈ l := fun s => (sortSt_perm l).mem_iff
  have hs := sortSt_sorted l
  unfold normS
  cases hq : sortSt l with
  | nil =>
    rw [hq] at hp
    refine ⟨by simp [compF], by simp [compF], fun s hs => ?_⟩
    have := (hp s).2 hs
    cases this
  | cons a r =>
    rw [hq] at hp hs
    have hok' : ∀ s ∈ a :: r, okSt s := fun s h => hok s ((hp s).1 h)
    obtain ⟨h1, h2, h3, h4⟩ := compFrom_gen r a (hok' a List.mem_cons_self) (fun s h => hok' s (List.mem_cons_of_mem _ h)) hs
    rw [compF]
    refine ⟨List.pairwise_cons.2 ⟨h1, h2⟩, fun s hs' => ?_, fun s hs' => ?_⟩
    · rcases List.mem_cons.1 hs' with rfl | hs'
      · exact (hp s).1 List.mem_cons_self
      · exact (hp s).1 (List.mem_cons_of_mem _ (h3 s hs'))
    · rcases List.mem_cons.1 ((hp s).2 hs') with rfl | hs'
      · exact ⟨s, List.mem_cons_self, rfl, rfl, Int.le_refl _⟩
      · rcases h4 s hs' with ⟨h5, h6, h7⟩ | ⟨s', h5, h6⟩
        · exact ⟨a, List.mem_cons_self, h5.symm, h6.symm, h7⟩
        · exact ⟨s', List.mem_cons_of_mem _ h5, h6⟩
theorem lt_uniq {l : List Step} (h : l.Pairwise ltSt) {a b : Step} (ha : a ∈ l) (hb : b ∈ l) (h1 : a.src = b.src) (h2 : a.dst = b.dst) : a = b := by
  have hn : ∀ {x y : Step}, x.src = y.src → x.dst = y.dst → ¬ ltSt x y := fun {x y} e1 e2 hlt => by
    unfold ltSt at hlt
    rw [e1, e2] at hlt
    omega
  induction h with
  | nil => cases ha
  | @cons c r hc hr ih =>
    rcases List.mem_cons.1 ha with e1 | ha'
    · rcases List.mem_cons.1 hb with e2 | hb'
      · rw [e1, e2]
      · exact absurd (hc b hb') (by rw [← e1]; exact hn h1 h2)
    · rcases List.mem_cons.1 hb with e2 | hb'
      · exact absurd (hc a ha') (by rw [← e2]; exact hn h1.symm h2.symm)
      · exact ih ha' hb'
theorem normS_eq {l m : List Step} (hok : ∀ s ∈ l, okSt s) (h1 : m.Pairwise ltSt) (h2 : ∀ s ∈ m, s ∈ l) (h3 : ∀ s ∈ l, ∃ s' ∈ m, s'.src = s.src ∧ s'.dst = s.dst ∧ s'.kind ≤ s.kind) : normS l = m := by
  obtain ⟨g1, g2, g3⟩ := normS_gen hok
  refine sorted_ext g1 h1 fun s => ⟨fun hs => ?_, fun hs => ?_⟩
  · obtain ⟨a, ha, h4, h5, h6⟩ := h3 s (g2 s hs)
    obtain ⟨b, hb, h7, h8, h9⟩ := g3 a (h2 a ha)
    have := lt_uniq g1 hb hs (h7.trans h4) (h8.trans h5)
    subst this
    have : a = b := Step.eq_of h4 h5 (by omega)
    rw [← this]
    exact ha
  · obtain ⟨a, ha, h4, h5, h6⟩ := g3 s (h2 s hs)
    obtain ⟨b, hb, h7, h8, h9⟩ := h3 a (g2 a ha)
    have := lt_uniq h1 hb hs (h7.trans h4) (h8.trans h5)
    subst this
    have : a = b := Step.eq_of h4 h5 (by omega)
    rw [← this]
    exact ha
end Go.Ab
namespace Go.Ab
open Go.Proofs
theorem real1 : (newWay someP 1 f1).real = [⟨0, 5, 1⟩, ⟨5, 6, 1⟩, ⟨6, 7, 1⟩, ⟨6, 8, 1⟩, ⟨7, -1, 1⟩, ⟨8, -1, 1⟩] := norm1
theorem real0 : (newWay someP 0 f0).real = [⟨0, 1, 1⟩, ⟨1, 2, 1⟩, ⟨2, 3, 1⟩, ⟨3, 4, 1⟩, ⟨4, -1, 1⟩] := norm0
theorem prs1 : prsW (newWay someP 1 f1) f1 = [(0, 1), (1, 2), (2, 3), (2, 4), (3, 5), (4, 5)] := by
  unfold prsW
  rw [real1]
  kernel_rfl
theorem prs0 : prsW (newWay someP 0 f0) f0 = [(0, 1), (1, 2), (2, 3), (3, 4), (4, 5)] := by
  unfold prsW
  rw [real0]
  kernel_rfl
theorem traps1 : trapsW (newWay someP 1 f1) f1 = [] := by
  unfold trapsW partW
  rw [prs1]
  kernel_rfl
theorem traps0 : trapsW (newWay someP 0 f0) f0 = [] := by
  unfold trapsW partW
  rw [prs0]
  kernel_rfl
theorem aug1 : augW (newWay someP 1 f1) f1 = [⟨0, 5, 1⟩, ⟨0, -1, 2⟩, ⟨5, 6, 1⟩, ⟨6, 7, 1⟩, ⟨6, 8, 1⟩, ⟨7, 8, 2⟩, ⟨7, -1, 1⟩, ⟨8, -1, 1⟩] := by
  have h1 : augRaw (newWay someP 1 f1) f1 = [⟨0, 5, 1⟩, ⟨5, 6, 1⟩, ⟨6, 7, 1⟩, ⟨6, 8, 1⟩, ⟨7, -1, 1⟩, ⟨8, -1, 1⟩, ⟨0, -1, 2⟩, ⟨7, 8, 2⟩, ⟨8, -1, 2⟩] := by
    unfold augRaw virtW
    rw [traps1, real1]
    kernel_rfl
  unfold augW
  rw [h1]
  exact normS_eq (by unfold okSt; decide) (by decide) (by decide) (by decide)
theorem aug0 : augW (newWay someP 0 f0) f0 = [⟨0, 1, 1⟩, ⟨0, -1, 2⟩, ⟨1, 2, 1⟩, ⟨2, 3, 1⟩, ⟨3, 4, 1⟩, ⟨4, -1, 1⟩] := by
  have h1 : augRaw (newWay someP 0 f0) f0 = [⟨0, 1, 1⟩, ⟨1, 2, 1⟩, ⟨2, 3, 1⟩, ⟨3, 4, 1⟩, ⟨4, -1, 1⟩, ⟨0, -1, 2⟩] := by
    unfold augRaw virtW
    rw [traps0, real0]
    kernel_rfl
  unfold augW
  rw [h1]
  exact normS_eq (by unfold okSt; decide) (by decide) (by decide) (by decide)
theorem some_way0 : wayO someP [109, 97, 105, 110] = some (newWay someP 0 f0) := by
  unfold wayO
  rw [some_chk]
  rfl
end Go.Ab
namespace Go.Ab
open Go.Proofs
/-- No step leads to the entry. -/
theorem no_entry {p : Pg} (h : chkB p = true) {j : Nat} {f : Pr} (hj : p.procs[j]? = some f) {a : Int} : ¬ wR p j f a 0 := fun ⟨s, hs, _, hd⟩ => by
  have h1 := ((chk_way h hj).2.1 s (((real_spec h hj).2 s).1 hs)).2
  unfold okI at h1
  omega
theorem entry_go {p : Pg} (h : chkB p = true) {j : Nat} {f : Pr} (hj : p.procs[j]? = some f) : wR p j f 0 (fstI p j f) := ⟨⟨0, fstI p j f, 1⟩, ((real_spec h hj).2 _).2 (by unfold stepsRaw fstI; exact List.mem_cons_self), rfl, rfl⟩
theorem stAt_id {p : Pg} (h : chkB p = true) {j : Nat} {f : Pr} (hj : p.procs[j]? = some f) {t : S} (ht : t ∈ flL f.body) : stAt p t.id = some t := by
  have hb := body_id (chk_parts h).1 hj ht
  obtain ⟨u, hu, h1, h2⟩ := stAt_own h hj hb.1 hb.2
  obtain ⟨it, hi, rfl⟩ := it_of (p := p) (j := j) ht
  obtain ⟨iu, hiu, rfl⟩ := it_of (p := p) (j := j) hu
  rw [it_inj (chk_parts h).1 hj hiu hi h2] at h1
  exact h1
theorem virt_mem {p : Pg} (h : chkB p = true) {j : Nat} {f : Pr} (hj : p.procs[j]? = some f) {s : Step} : s ∈ virtW (newWay p j f) f ↔ ∃ l ∈ trapsW (newWay p j f) f, ∃ t ∈ flL f.body, t.id ∈ l ∧ t.kind = 10 ∧ s = ⟨t.id, -1, 3⟩ := by
  unfold virtW
  constructor
  · intro hs
    obtain ⟨l, hl, hs⟩ := List.mem_flatMap.1 hs
    obtain ⟨id, hid, hs⟩ := List.mem_flatMap.1 hs
    have hb := (trap_row h hj hl).2 id hid
    obtain ⟨t, ht, h1, h2⟩ := stAt_own h hj hb.1 hb.2
    have e : (newWay p j f).p = p := rfl
    unfold vOf at hs
    rw [e, h1] at hs
    simp only at hs
    split at hs
    · rename_i hk
      exact ⟨l, hl, t, ht, by rw [h2]; exact hid, hk, by rw [h2]; simpa using hs⟩
    · cases hs
  · rintro ⟨l, hl, t, ht, hid, hk, rfl⟩
    refine List.mem_flatMap.2 ⟨l, hl, List.mem_flatMap.2 ⟨t.id, hid, ?_⟩⟩
    have e : (newWay p j f).p = p := rfl
    unfold vOf
    rw [e, stAt_id h hj ht]
    simp [hk]
theorem data_ok {p : Pg} (h : chkB p = true) {j : Nat} {f : Pr} (hj : p.procs[j]? = some f) : ∀ s ∈ virtW (newWay p j f) f ++ (newWay p j f).real, okSt s := fun s hs =>
  (List.mem_append.1 hs).elim ((wayT h hj).virt_ok s) ((wayT h hj).hok s)
end Go.Ab
namespace Go.Ab
open Go.Proofs
theorem flat_pl {p : Pg} (h : chkB p = true) {j : Nat} {f : Pr} (hj : p.procs[j]? = some f) {x : RI} (hx : x ∈ flatR f) : x.s ∈ flL f.body := by
  rw [flatR_eq (chk_parts h).1 (List.mem_of_getElem? hj)] at hx
  rw [← show (flatU f).map RI.s = flL f.body from fuL_s 1 0 false f.body]
  exact List.mem_map.2 ⟨x, hx, rfl⟩
end Go.Ab
namespace Go.Ab
open Go.Proofs
def RI0 : RI := ⟨.mk 0 0 [] [] [] (.mk 0 0 [] []) false [] [] [], 0, 0, false⟩
def findF (id : Int) (f : Pr) : Option (RI × Str) := ((flatR f).find? fun x => decide (x.s.id = id)).map fun x => (x, f.name)
def findR (p : Pg) (id : Int) : Option (RI × Str) := p.procs.findSome? (findF id)
def findO (p : Pg) (id : Int) : RI × Str × Bool := match findR p id with
  | some (x, n) => (x, n, true)
  | none => (RI0, [], false)
theorem sub_RI0 : Sub (.agg [.int .i64 0, .int .i64 0, .nils, .str [], .str [], .int .i64 0, .int .i64 0, .str [], .nils, .ff, .nils, .nils, .nils, .int .i64 0, .int .i64 0, .ff]) (.agg RI0.cells) :=
  Sub.agg (by repeat' (first | exact SubL.nil | refine SubL.cons ?_ ?_ | exact Sub.nils | exact Sub.ff rfl | exact Sub.refl _))
theorem drop_find {l : List RI} {q : RI → Bool} {k : Nat} (hk : k < l.length) : (l.drop k).find? q = if q l[k] then some l[k] else (l.drop (k + 1)).find? q := by
  rw [drop_cons hk, List.find?_cons]
  cases q l[k] <;> rfl
set_option maxHeartbeats 4000000 in
set_option maxRecDepth 100000 in
theorem whittlerref6_Find (p : Pg) (id : Int) : SpecP Tryz.prog 77 [.agg p.cells, .int .i64 id] (fun r => r = .tup [.agg (findO p id).1.cells, .str (findO p id).2.1, .bool (findO p id).2.2]) := by
  refine SpecP.body I_whittlerref6_Find tabOK Tryz.func77 rfl Tryz.call77 (by show 2 ≤ _; decide) ?_
  conv => whnf
  have hpl : (p.procs.map fun f => AV.agg f.cells).length = p.procs.length := List.length_map _
  repeat' (intro (_ : _ ≤ 9223372036854775807); conv => whnf)
  refine LoopK.inv tabOK (fun j : Nat => ⟨[(1, .p (.int .i64 id)), (4, .ptr 1 0), (12, .p (.sl (p.procs.map fun f => .agg f.cells))), (13, .p (.int .i64 (p.procs.map fun f => AV.agg f.cells).length)), (14, .p (.int .i64 j))], [(1, .obj 109 [.p (.int .i64 0), .p (.int .i64 0), .p .nils, .p (.str []), .p (.str []), .p (.int .i64 0), .p (.int .i64 0), .p (.str []), .p .nils, .p .ff, .p .nils, .p .nils, .p .nils, .p (.int .i64 0), .p (.int .i64 0), .p .ff])]⟩) (fun j => j ≤ p.procs.length ∧ (p.procs.drop j).findSome? (findF id) = findR p id) (fun j => p.procs.length - j) 0 (Le.of_eq rfl) ⟨Nat.zero_le _, rfl⟩ ?_
  rintro j ⟨h2, h3⟩
  rcases Nat.lt_or_ge j p.procs.length with hj | hj
  rotate_left 1
  · rw [List.drop_eq_nil_of_le hj, List.findSome?_nil] at h3
    have hO : findO p id = (RI0, [], false) := by unfold findO; rw [← h3]
    rw [hO]
    conv => whnf
    repeat' (first | (refine And.intro rfl ?_; conv => whnf) | (refine Br.dec (fun _ => ?_) (fun _ => ?_) <;> first | (exfalso; omega) | conv => whnf))
    exact ⟨_, .p (Sub.tup (SubL.cons sub_RI0 (SubL.cons (Sub.refl _) (SubL.cons (Sub.ff rfl) SubL.nil)))), rfl⟩
  rw [drop_cons hj, List.findSome?_cons] at h3
  conv => whnf
  repeat' (first | ((first | (intro (_ : _ ≤ 9223372036854775807)) | (refine And.intro rfl ?_) | (refine IdxK.map (by omega) (fun _ => rfl) ?_) | (refine CallK.pure (whittlerref3_Flat _) (.cons (Sub.refl _) .nil) ?_; rintro _ rfl)); conv => whnf) | (refine Br.dec (fun _ => ?_) (fun _ => ?_) <;> first | (exfalso; omega) | conv => whnf))
  have hrl : ((flatR p.procs[j]).map fun i => AV.agg i.cells).length = (flatR p.procs[j]).length := List.length_map _
  have hff : findF id p.procs[j] = ((flatR p.procs[j]).find? fun x => decide (x.s.id = id)).map fun x => (x, p.procs[j].name) := rfl
  rw [hff] at h3
  have hfl := flatR_len p.procs[j]
  generalize flatR p.procs[j] = F at hrl hfl h3 ⊢
  refine LoopK.inv tabOK (fun k : Nat => ⟨[(1, .p (.int .i64 id)), (4, .ptr 1 0), (8, .p (.ip p.procs[j].cells)), (12, .p (.sl (p.procs.map fun f => .agg f.cells))), (13, .p (.int .i64 (p.procs.map fun f => AV.agg f.cells).length)), (14, .p (.int .i64 j)), (19, .p (eRIs F)), (20, .p (.int .i64 (F.map fun i => AV.agg i.cells).length)), (21, .p (.int .i64 k))], [(1, .obj 109 [.p (.int .i64 0), .p (.int .i64 0), .p .nils, .p (.str []), .p (.str []), .p (.int .i64 0), .p (.int .i64 0), .p (.str []), .p .nils, .p .ff, .p .nils, .p .nils, .p .nils, .p (.int .i64 0), .p (.int .i64 0), .p .ff])]⟩) (fun k => k ≤ F.length ∧ (F.drop k).find? (fun x => decide (x.s.id = id)) = F.find? fun x => decide (x.s.id = id)) (fun k => F.length - k) 0 (Le.of_eq rfl) ⟨Nat.zero_le _, rfl⟩ ?_
  rintro k ⟨h4, h5⟩
  rcases Nat.lt_or_ge k F.length with hk | hk
  rotate_left 1
  · rw [List.drop_eq_nil_of_le hk, List.find?_nil] at h5
    rw [← h5] at h3
    conv => whnf
    repeat' (first | (refine Wr.i64 (by omega) (by omega) ?_; conv => whnf) | (refine Br.dec (fun _ => ?_) (fun _ => ?_) <;> first | (exfalso; omega) | conv => whnf))
    exact ⟨j + 1, ⟨hj, h3⟩, by omega, Le.of_eq rfl⟩
  rw [drop_find hk] at h5
  conv => whnf
  repeat' (first | ((first | (refine DrawK.auto tabOK mixed (by kernel_rfl) ?_) | (refine And.intro rfl ?_) | (refine IdxK.map (by omega) (fun _ => rfl) ?_) | (refine Wr.i64 (by omega) (by omega) ?_)); conv => whnf) | (refine Br.dec (fun _ => ?_) (fun _ => ?_) <;> first | (exfalso; omega) | conv => whnf))
  · have hid : F[k].s.id = id := by assumption
    rw [if_pos (decide_eq_true hid)] at h5
    rw [← h5] at h3
    have hO : findO p id = (F[k], p.procs[j].name, true) := by unfold findO; rw [← h3]; rfl
    rw [hO]
    exact ⟨_, .p (Sub.tup (SubL.cons (Sub.refl _) (SubL.cons (Sub.refl _) (SubL.cons (Sub.tt rfl) SubL.nil)))), rfl⟩
  · have hid : ¬ F[k].s.id = id := by assumption
    rw [if_neg (by simpa using hid)] at h5
    exact ⟨k + 1, ⟨hk, h5⟩, by omega, Le.of_eq rfl⟩
end Go.Ab
namespace Go.Ab
open Go.Proofs
/-- A row of which the first i and the last i are turned. -/
def revI (l : List Int) (i : Nat) : List Int := (List.range l.length).map fun k => if k < i ∨ l.length - i ≤ k then l.getD (l.length - 1 - k) 0 else l.getD k 0
theorem revI_len (l : List Int) (i : Nat) : (revI l i).length = l.length := by unfold revI; simp
theorem revI_get {l : List Int} {i k : Nat} (hk : k < l.length) : (revI l i)[k]? = some (if k < i ∨ l.length - i ≤ k then l.getD (l.length - 1 - k) 0 else l.getD k 0) := by
  unfold revI
  rw [List.getElem?_map, List.getElem?_range hk]
  rfl
theorem revI_zero (l : List Int) : revI l 0 = l := by
  refine List.ext_getElem? fun k => ?_
  rcases Nat.lt_or_ge k l.length with hk | hk
  · rw [revI_get hk, if_neg (by omega), List.getD_eq_getElem?_getD, List.getElem?_eq_getElem hk]
    rfl
  · rw [List.getElem?_eq_none (by rw [revI_len]; exact hk), List.getElem?_eq_none hk]
theorem revI_end {l : List Int} {i : Nat} (h : l.length ≤ 2 * i + 1) : revI l i = l.reverse := by
  refine List.ext_getElem? fun k => ?_
  rcases Nat.lt_or_ge k l.length with hk | hk
  · rw [revI_get hk, List.getElem?_reverse hk, List.getElem?_eq_getElem (by omega)]
    split
    · rw [List.getD_eq_getElem?_getD, List.getElem?_eq_getElem (by omega)]
      rfl
    · rw [List.getD_eq_getElem?_getD, List.getElem?_eq_getElem (by omega)]
      simp only [Option.getD_some]
      congr 2
      omega
  · rw [List.getElem?_eq_none (by rw [revI_len]; exact hk), List.getElem?_eq_none (by rw [List.length_reverse]; exact hk)]
theorem revI_step {l : List Int} {i : Nat} (h : 2 * i + 1 < l.length) : ((revI l i).set i (l.getD (l.length - 1 - i) 0)).set (l.length - 1 - i) (l.getD i 0) = revI l (i + 1) := by
  refine List.ext_getElem? fun k => ?_
  rcases Nat.lt_or_ge k l.length with hk | hk
  · rw [revI_get hk, List.getElem?_set, List.getElem?_set]
    simp only [List.length_set, revI_len]
    by_cases h1 : l.length - 1 - i = k
    · rw [if_pos h1, if_pos (by omega), if_pos (by omega)]
      congr 2
      omega
    · rw [if_neg h1]
      by_cases h2 : i = k
      · rw [if_pos h2, if_pos (by omega), if_pos (by omega)]
        congr 2
        omega
      · rw [if_neg h2, revI_get hk]
        by_cases h3 : k < i ∨ l.length - i ≤ k
        · rw [if_pos h3, if_pos (by omega)]
        · rw [if_neg h3, if_neg (by omega)]
  · rw [List.getElem?_eq_none (by simp [revI_len]; exact hk), List.getElem?_eq_none (by rw [revI_len]; exact hk)]
set_option maxHeartbeats 4000000 in
set_option maxRecDepth 100000 in
theorem slices_Reverse_int_int_ (l : List Int) (hl : l.length ≤ 1000000) : SpecH Tryz.prog 96 [.hd 1000 0 l.length] [(1000, .own 3 1 (l.map (.int .i64)))] (fun r H => r = .p (.tup []) ∧ H = [(1000, .own 3 1 (l.reverse.map (.int .i64)))]) := by
  refine SpecH.body I_slices_Reverse_int_int_ tabOK Tryz.func96 rfl Tryz.call96 (by show 1 ≤ _; decide) ?_
  conv => whnf
  repeat' ((first | (intro (_ : _ ≤ 9223372036854775807)) | (refine Wr.i64 (by omega) (by omega) ?_)); conv => whnf)
  refine LoopK.inv tabOK (fun i : Nat => ⟨[(0, .hd 1000 0 l.length), (2, .p (.int .i64 i)), (3, .p (.int .i64 ((l.length : Int) - 1 - i)))], [(1000, .own 3 1 ((revI l i).map (.int .i64)))]⟩) (fun i => i ≤ l.length) (fun i => l.length - i) 0 (Le.of_eq (by rw [revI_zero, show (l.length : Int) - 1 - ((0 : Nat) : Int) = (l.length : Int) - 1 by omega]; rfl)) (Nat.zero_le _) ?_
  intro i h2
  have hlr := revI_len l i
  by_cases h3 : 2 * i + 1 < l.length
  · have e1 : ((revI l i).map (AV.int .i64))[i]? = some (.int .i64 (l.getD i 0)) := by rw [List.getElem?_map, revI_get (by omega), if_neg (by omega)]; rfl
    have e2 : ((revI l i).map (AV.int .i64))[l.length - 1 - i]? = some (.int .i64 (l.getD (l.length - 1 - i) 0)) := by rw [List.getElem?_map, revI_get (by omega), if_neg (by omega)]; rfl
    have hst := revI_step h3
    generalize revI l i = row at hlr e1 e2 hst ⊢
    generalize l.getD i 0 = x at e1 hst
    generalize l.getD (l.length - 1 - i) 0 = y at e2 hst
    have e3 : ((row.map (AV.int .i64)).set i (.int .i64 y))[l.length - 1 - i]? = some (.int .i64 y) := by rw [List.getElem?_set_ne (by omega)]; exact e2
    conv => whnf
    repeat' (first | ((first | (refine DrawK.auto tabOK mixed (by kernel_rfl) ?_) | (refine And.intro rfl ?_) | (refine Wr.i64 (by omega) (by omega) ?_) | (refine IdxL.mk (l.length-1-i) (by omega) (by omega) ?_) | (refine IdxL.mk i rfl (by omega) ?_) | (refine LdOwn.mk (l.length-1-i) 0 _ (by show (0+(l.length-1-i))*1 = (l.length-1-i)*1+0; omega) e2 ?_) | (refine LdOwn.mk i 0 _ (by show (0+i)*1 = i*1+0; omega) e1 ?_) | (refine StOwn.mk i 0 _ (.int .i64 y) (by show (0+i)*1 = i*1+0; omega) e1 (Nat.le_refl _) rfl ?_) | (refine StOwn.mk (l.length-1-i) 0 _ (.int .i64 x) (by show (0+(l.length-1-i))*1 = (l.length-1-i)*1+0; omega) e3 (Nat.le_refl _) rfl ?_)); conv => whnf) | (refine Br.dec (fun _ => ?_) (fun _ => ?_) <;> first | (exfalso; omega) | conv => whnf))
    exact ⟨i + 1, by omega, by omega, Le.of_eq (by rw [← hst, List.map_set, List.map_set, show (l.length : Int) - 1 - ((i + 1 : Nat) : Int) = (l.length : Int) - 1 - i - 1 by omega]; rfl)⟩
  · have hre := revI_end (l := l) (i := i) (by omega)
    rw [hre] at hlr ⊢
    conv => whnf
    repeat' (refine Br.dec (fun _ => ?_) (fun _ => ?_) <;> first | (exfalso; omega) | conv => whnf)
    exact ⟨_, LSub.refl _, rfl, rfl⟩
set_option maxRecDepth 100000 in
theorem whittlerref14_Has (l : List Int) (x : Int) : SpecP Tryz.prog 45 [eInts l, .int .i64 x] (fun r => r = .bool (hasI l x)) := by
  refine SpecP.body I_whittlerref14_Has tabOK Tryz.func45 rfl Tryz.call45 (by show 2 ≤ _; decide) ?_
  conv => whnf
  repeat' (refine CallK.pure (whittlerref14_has _ _) (by repeat' (first | exact ArgP.nil | refine ArgP.cons ?_ ?_ | exact Sub.refl _ | exact Sub.tt rfl | exact Sub.ff rfl)) ?_; rintro _ rfl; conv => whnf)
  exact RetK.bool rfl
def pickR (l : List Int) (n : Int) : Int := if l = [] then 0 else l.getD (modI n l.length).toNat 0
set_option maxRecDepth 100000 in
theorem whittlerref6_Pick (l : List Int) (n : Int) (hl : l.length ≤ 1000000) : SpecP Tryz.prog 40 [eInts l, .int .i64 n] (fun r => r = .int .i64 (pickR l n)) := by
  refine SpecP.body I_whittlerref6_Pick tabOK Tryz.func40 rfl Tryz.call40 (by show 2 ≤ _; decide) ?_
  conv => whnf
  have hll : (l.map (AV.int .i64)).length = l.length := List.length_map _
  have hr := fun h : 0 < (l.length : Int) => modI_rng (n := n) h
  repeat' (first | ((first | (intro (_ : _ ≤ 9223372036854775807)) | (refine CallK.pure (whittlerref3_Mod n (l.length : Int) (by omega)) (.cons (Sub.refl _) (.cons (Sub.int (by omega)) .nil)) ?_; rintro _ rfl)); conv => whnf) | (refine Br.dec (fun _ => ?_) (fun _ => ?_) <;> first | (exfalso; omega) | conv => whnf))
  all_goals first
    | exact RetK.p (by unfold pickR; rw [if_pos (List.length_eq_zero_iff.1 (by omega))]; rfl)
    | skip
  have h1 := hr (by omega)
  have hg : (l.map (AV.int .i64))[(modI n l.length).toNat]? = some (.int .i64 (pickR l n)) := by
    unfold pickR
    rw [if_neg (fun h => by subst h; simp at h1; omega), List.getD_eq_getElem?_getD, List.getElem?_map, List.getElem?_eq_getElem (by omega)]
    rfl
  refine IdxK.at (k := (modI n l.length).toNat) (by omega) hg rfl ?_
  conv => whnf
  skip
  exact RetK.int rfl
set_option maxRecDepth 100000 in
theorem whittlerref6_ProcOf (p : Pg) (id : Int) : SpecP Tryz.prog 43 [.agg p.cells, .int .i64 id] (fun r => r = .str (findO p id).2.1) := by
  refine SpecP.body I_whittlerref6_ProcOf tabOK Tryz.func43 rfl Tryz.call43 (by show 2 ≤ _; decide) ?_
  conv => whnf
  repeat' ((first | (refine CallK.pure (whittlerref6_Find _ _) (by repeat' (first | exact ArgP.nil | refine ArgP.cons ?_ ?_ | exact Sub.refl _ | exact Sub.tt rfl | exact Sub.ff rfl)) ?_; rintro _ rfl) | (refine And.intro rfl ?_)); conv => whnf)
  exact RetK.p rfl
set_option maxRecDepth 100000 in
theorem whittlerlaw18_small (p : Pg) (hf : Fit p) (most : Int) : SpecP Tryz.prog 39 [.agg p.cells, .int .i64 most] (fun r => r = .bool (smallB p most)) := by
  refine SpecP.body I_whittlerlaw18_small tabOK Tryz.func39 rfl Tryz.call39 (by show 2 ≤ _; decide) ?_
  conv => whnf
  have hC := check_May p hf
  unfold smallB
  cases hc : chkB p with
  | false =>
    rw [hc] at hC
    repeat' (first | (refine CallK.pure hC (.cons (Sub.refl _) .nil) ?_; rintro _ rfl; conv => whnf) | (refine Br.b (fun _ => ?_) (fun _ => ?_) <;> conv => whnf))
    all_goals first
      | contradiction
      | exact RetK.ff rfl
  | true =>
    rw [hc] at hC
    have hcn := (chk_cnt hc).2.2
    repeat' (first | ((first | (refine CallK.pure hC (.cons (Sub.refl _) .nil) ?_; rintro _ rfl) | (refine CallK.pure (tree_Count p (by omega)) (.cons (Sub.refl _) .nil) ?_; rintro _ rfl)); conv => whnf) | (refine Br.b (fun _ => ?_) (fun _ => ?_) <;> conv => whnf))
    all_goals first
      | contradiction
      | exact RetK.bool (by simp)
end Go.Ab
namespace Go.Ab
open Go.Proofs
end Go.Ab
namespace Go.Ab
open Go.Proofs
theorem aug_ok {p : Pg} (h : chkB p = true) {j : Nat} {f : Pr} (hj : p.procs[j]? = some f) : ∀ s ∈ augRaw (newWay p j f) f, okSt s := fun s hs => by
  unfold augRaw at hs
  rcases List.mem_append.1 hs with hs | hs
  · rcases List.mem_append.1 hs with hs | hs
    · exact data_ok h hj s hs
    · rw [List.mem_singleton.1 hs]
      exact ⟨by decide, by decide⟩
  · obtain ⟨it, hi, hs⟩ := List.mem_flatMap.1 hs
    exact nextR_ok h hj it hi s hs
theorem it_at {p : Pg} (h : chkB p = true) {j : Nat} {f : Pr} (hj : p.procs[j]? = some f) {it : Item} (hi : it ∈ itsOf p j f) : (sheetOf p).l[(it.s.id - 1).toNat]? = some it := by
  have hb := body_id (chk_parts h).1 hj (its_s hi)
  obtain ⟨it', h1, h2⟩ := sheet_its hj (k := (it.s.id - 1).toNat) (by omega) (by omega)
  have h3 := sheet_id h hj (by omega) (by omega) h1
  rw [h1, it_inj (chk_parts h).1 hj h2 hi (by omega)]
end Go.Ab
namespace Go.Ab
open Go.Proofs
end Go.Ab
namespace Go.Ab
open Go.Proofs
/-- Two names that may be changed for each other. -/
structure Ren (a b : Str) : Prop where
  na : isName a = true
  nb : isName b = true
  ma : a ≠ mainS
  mb : b ≠ mainS
theorem name_ne {s : Str} (h : isName s = true) : s ≠ [] := fun he => by
  subst he
  unfold isName at h
  rw [dif_neg (by simp)] at h
  cases h
theorem Ren.nil {a b : Str} (h : Ren a b) : otherS a b [] = [] := by
  unfold otherS
  rw [if_neg (by simpa using fun e => name_ne h.na e), if_neg (by simpa using fun e => name_ne h.nb e)]
theorem Ren.name {a b : Str} (h : Ren a b) (s : Str) : isName (otherS a b s) = isName s := by
  unfold otherS
  by_cases h1 : s = a
  · subst h1
    simp [h.na, h.nb]
  · rw [if_neg (by simpa using h1)]
    by_cases h2 : s = b
    · subst h2
      simp [h.na, h.nb]
    · rw [if_neg (by simpa using h2)]
end Go.Ab
namespace Go.Ab
open Go.Proofs
end Go.Ab
namespace Go.Ab
open Go.Proofs
/-- What is said of a statement that stands for another one. -/
structure OnR (s t : S) : Prop where
  labels : t.labels = []
  off : s.kind = 4 ∨ 7 ≤ s.kind → t.kind = 3 ∧ t.name = [] ∧ t.x = .mk 1 7 [] [] ∧ t.args = []
  on : ¬ (s.kind = 4 ∨ 7 ≤ s.kind) → t.kind = s.kind ∧ t.name = s.name ∧ t.x = s.x ∧ t.args = s.args
section
variable {p : Pg} {k : Nat} {f : Pr}
theorem OnR.kind {s t : S} (h : OnR s t) : t.kind ≠ 4 ∧ t.kind < 7 := by
  by_cases hk : s.kind = 4 ∨ 7 ≤ s.kind
  · have := (h.off hk).1
    omega
  · have := (h.on hk).1
    omega
end
end Go.Ab
namespace Go.Ab
open Go.Proofs
/-- What is closed under the steps of a row's statements. -/
def closedI (sh : Sheet) (f : Pr) (R : Int → Prop) (l : List Item) : Prop := ∀ it ∈ l, R it.s.id → ∀ y ∈ goesI sh f it, R y
theorem closedI.sub {sh : Sheet} {f : Pr} {R : Int → Prop} {l m : List Item} (h : closedI sh f R l) (hs : ∀ x ∈ m, x ∈ l) : closedI sh f R m := fun it hi => h it (hs it hi)
theorem mayPrs_row : ∀ (l : List Pr) {n : Nat} {m : Int}, mayPrs n l = some m → ∀ (j : Nat) (f : Pr), l[j]? = some f → ∃ m', rowL 1 ((n + offN l j : Nat) : Int) f.body = some m'
  | [], _, _, _, j, f, hj => by simp at hj
  | g :: r, n, m, h, j, f, hj => by
    rw [mayPrs] at h
    cases hm : mayPr g <;> rw [hm] at h
    · cases h
    simp only [cond_true] at h
    split at h
    · rename_i m1 h1
      cases j with
      | zero =>
        cases hj
        exact ⟨m1, h1⟩
      | succ j =>
        have h2 := rowL_cnt _ _ g.body h1
        have h' : mayPrs ((n + cntL g.body : Nat) : Int) r = some m := by rw [← h, h2]; rfl
        obtain ⟨m', h3⟩ := mayPrs_row r h' j f (by simpa using hj)
        exact ⟨m', by rw [← h3, offN]; congr 1; omega⟩
    · cases h
theorem may_row {p : Pg} (h : mayB p = true) {j : Nat} {f : Pr} (hj : p.procs[j]? = some f) : ∃ m, rowL 1 ((offN p.procs j : Nat) : Int) f.body = some m := by
  unfold mayB at h
  simp only [Bool.and_eq_true] at h
  obtain ⟨m, hm⟩ := Option.isSome_iff_exists.1 h.2
  obtain ⟨m', h'⟩ := mayPrs_row p.procs (n := 0) hm j f hj
  exact ⟨m', by rw [← h']; congr 1; omega⟩
section
variable {p : Pg} {k : Nat} {f : Pr}
end
end Go.Ab
namespace Go.Ab
open Go.Proofs
theorem FollowP.no {n : Nat} {nx : List (List Int)} {fm : List (List Bool)} (h : FollowP n nx fm) {a b : Nat} (hb : b < n) (ha : Avd nx n b a) : bitF fm a b = false := by
  have big : ∀ c, n ≤ c → bitF fm c b = false := fun c hc => by
    unfold bitF
    rw [List.getD_eq_getElem?_getD (l := fm), List.getElem?_eq_none (by rw [h.inv.len]; exact hc)]
    rfl
  have last : n - 1 ≠ b → bitF fm (n - 1) b = false := fun hne => by
    unfold bitF
    rw [h.inv.last, filRow_get hb, decide_eq_false hne, decide_eq_false (by omega)]
    rfl
  induction ha with
  | exit he => exact last (Ne.symm he)
  | @step a t hab ht _ ih =>
    rcases Nat.lt_trichotomy a (n - 1) with hlt | heq | hgt
    · have hbit : bitF fm a b = (rowF n nx fm a).getD b false := by
        unfold bitF
        rw [h.fix a hlt]
      rw [hbit, rowF_get hb, decide_eq_false hab]
      cases hs : sharedB fm (nx.getD a []) b with
      | false => rfl
      | true =>
        have := shared_iff.1 hs _ ht
        rw [Int.toNat_natCast, ih] at this
        cases this
    · subst heq
      exact last hab
    · exact big a (by omega)
theorem FollowP.iff {n : Nat} {nx : List (List Int)} {fm : List (List Bool)} (h : FollowP n nx fm) {a b : Nat} (ha : a < n) (hb : b < n) : bitF fm a b = true ↔ ¬ Avd nx n b a := by
  constructor
  · intro h1 h2
    rw [h.no hb h2] at h1
    cases h1
  · intro h1
    cases hq : bitF fm a b with
    | true => rfl
    | false => exact absurd (h.inv.min a b ha hb hq) h1
theorem bits_ext {n : Nat} {f g : List (List Bool)} (h1 : f.length = n) (h2 : g.length = n) (h3 : ∀ r ∈ f, r.length = n) (h4 : ∀ r ∈ g, r.length = n) (h : ∀ a b, a < n → b < n → bitF f a b = bitF g a b) : f = g := by
  refine List.ext_getElem (by omega) fun a ha hb => ?_
  have e1 := h3 _ (List.getElem_mem ha)
  have e2 := h4 _ (List.getElem_mem hb)
  refine List.ext_getElem (by omega) fun b hc hd => ?_
  have := h a b (by omega) (by omega)
  unfold bitF at this
  rw [List.getD_eq_getElem?_getD (l := f), List.getD_eq_getElem?_getD (l := g), List.getElem?_eq_getElem ha, List.getElem?_eq_getElem hb] at this
  simp only [Option.getD_some] at this
  rw [List.getD_eq_getElem?_getD, List.getD_eq_getElem?_getD, List.getElem?_eq_getElem hc, List.getElem?_eq_getElem hd] at this
  exact this
theorem FollowP.uniq {n : Nat} {nx : List (List Int)} {f g : List (List Bool)} (hf : FollowP n nx f) (hg : FollowP n nx g) : f = g := by
  refine bits_ext hf.inv.len hg.inv.len hf.inv.rows hg.inv.rows fun a b ha hb => ?_
  rw [Bool.eq_iff_iff, hf.iff ha hb, hg.iff ha hb]
noncomputable def folM (n : Nat) (nx : List (List Int)) : List (List Bool) := @Classical.epsilon _ ⟨[]⟩ (FollowP n nx)
theorem FollowP.eq {n : Nat} {nx : List (List Int)} {fm : List (List Bool)} (h : FollowP n nx fm) : fm = folM n nx := h.uniq (Classical.epsilon_spec ⟨fm, h⟩)
theorem foldN_mem : ∀ (l : List (Int × Int)) (rows : List (List Int)), (∀ t ∈ l, 0 ≤ t.1 ∧ t.1 < rows.length) → ∀ (a : Nat) (x : Int), x ∈ (l.foldl nxE rows).getD a [] ↔ x ∈ rows.getD a [] ∨ ∃ t ∈ l, t.1 = a ∧ t.2 = x
  | [], rows, _, a, x => by simp
  | t :: r, rows, h, a, x => by
    obtain ⟨h1, h2⟩ := h t List.mem_cons_self
    rw [List.foldl_cons, foldN_mem r (nxE rows t) (fun u hu => by rw [nxE_len]; exact h u (List.mem_cons_of_mem _ hu))]
    have e : x ∈ (nxE rows t).getD a [] ↔ x ∈ rows.getD a [] ∨ (t.1 = a ∧ t.2 = x) := by
      unfold nxE
      simp only [List.getD_eq_getElem?_getD, List.getElem?_set]
      by_cases he : t.1.toNat = a
      · subst he
        have e0 : t.1 = (t.1.toNat : Int) := by omega
        rw [if_pos rfl, if_pos (by omega)]
        simp only [Option.getD_some, List.mem_append, List.mem_singleton]
        constructor
        · rintro (h3 | h3)
          · exact .inl h3
          · exact .inr ⟨e0, h3.symm⟩
        · rintro (h3 | ⟨_, h3⟩)
          · exact .inl h3
          · exact .inr h3.symm
      · rw [if_neg he]
        constructor
        · exact .inl
        · rintro (h3 | ⟨h3, _⟩)
          · exact h3
          · omega
    rw [e]
    simp only [List.mem_cons, exists_eq_or_imp, or_assoc]
theorem nextR_mem {n : Nat} {l : List (Int × Int)} (h : ∀ t ∈ l, 0 ≤ t.1 ∧ t.1 < n) {a : Nat} {x : Int} : x ∈ (nextR n l).getD a [] ↔ ∃ t ∈ l, t.1 = a ∧ t.2 = x := by
  unfold nextR
  rw [foldN_mem l _ (by simpa using h)]
  have : (List.replicate n ([] : List Int)).getD a [] = [] := by
    rw [List.getD_eq_getElem?_getD, List.getElem?_replicate]
    split <;> rfl
  rw [this]
  simp
/-- A way to the exit that is off a place. -/
inductive AvdP (R : Int → Int → Prop) (b : Int) : Int → Prop
  | exit (h : b ≠ -1) : AvdP R b (-1)
  | step {a t : Int} (hab : a ≠ b) (hs : R a t) (h : AvdP R b t) : AvdP R b a
mutual
theorem rowS_one : ∀ (t : S) {nest seen m : Int}, rowS nest seen t = some m → ∀ u ∈ flS t, oneOk u = true
  | .mk id kind labels name pr x has args thn els, nest, seen, m, h, u, hu => by
    obtain ⟨h1, _, m1, h3, h4⟩ := rowS_parts h
    rw [flS] at hu
    rcases List.mem_cons.1 hu with rfl | hu
    · exact h1
    · rcases List.mem_append.1 hu with hu | hu
      · exact rowL_one thn h3 u hu
      · exact rowL_one els h4 u hu
theorem rowL_one : ∀ (l : List S) {nest seen m : Int}, rowL nest seen l = some m → ∀ u ∈ flL l, oneOk u = true
  | [], _, _, _, _, u, hu => by rw [flL] at hu; cases hu
  | t :: r, nest, seen, m, h, u, hu => by
    obtain ⟨_, m1, h1, h2⟩ := rowL_parts h
    rw [flL] at hu
    rcases List.mem_append.1 hu with hu | hu
    · exact rowS_one t h1 u hu
    · exact rowL_one r h2 u hu
end
theorem body_one {p : Pg} {j : Nat} {f : Pr} (h : chkB p = true) (hj : p.procs[j]? = some f) {t : S} (ht : t ∈ flL f.body) : OneF t := by
  obtain ⟨m, hr⟩ := may_row (chk_parts h).1 hj
  exact one_facts (rowL_one _ hr t ht)
section
variable {p : Pg} {j : Nat} {f : Pr}
/-- The steps, those of jumps, were they none, too. -/
def aR (p : Pg) (j : Nat) (f : Pr) : Int → Int → Prop := stR (augW (newWay p j f) f)
theorem aug_len (h : chkB p = true) (hj : p.procs[j]? = some f) : (augW (newWay p j f) f).length ≤ 200000 := by
  obtain ⟨_, _, hcn⟩ := chk_cnt h
  obtain ⟨_, _, _, hlen, hsp⟩ := sheet_spec p
  obtain ⟨_, _, hle, _⟩ := hsp j f hj
  obtain ⟨h1, h2, _⟩ := normS_gen (aug_ok h hj)
  have h3 := nodup_len (l := augW (newWay p j f) f) (m := ((newWay p j f).real ++ (idsN (offN p.procs j) (cntL f.body)).map fun id => ⟨id, -1, 3⟩) ++ [⟨0, -1, 2⟩] ++ (itsOf p j f).flatMap fOf) (lt_nodup h1) fun s hs => by
    rcases List.mem_append.1 (h2 s hs) with h4 | h4
    · refine List.mem_append.2 (.inl ?_)
      rcases List.mem_append.1 h4 with h4 | h4
      · refine List.mem_append.2 (.inl ?_)
        rcases List.mem_append.1 h4 with h4 | h4
        · obtain ⟨l, hl, t, ht, hid, hk, rfl⟩ := (virt_mem h hj).1 h4
          have hb := body_id (chk_parts h).1 hj ht
          exact List.mem_append.2 (.inr (List.mem_map.2 ⟨t.id, idsN_has hb.1 hb.2, rfl⟩))
        · exact List.mem_append.2 (.inl h4)
      · exact List.mem_append.2 (.inr h4)
    · exact List.mem_append.2 (.inr h4)
  have h4 := real_len hj hcn
  have h5 : (idsN (offN p.procs j) (cntL f.body)).length = cntL f.body := by unfold idsN; simp
  have h6 := flatMap_take_len (g := fOf) (c := 1) (itsOf p j f) fun it _ => fOf_len it
  have h7 : (itsOf p j f).length = cntL f.body := itL_len _ _ _ _ _ _
  simp only [List.length_append, List.length_map, List.length_singleton] at h3
  omega
theorem aR_iff (h : chkB p = true) (hj : p.procs[j]? = some f) {a b : Int} : aR p j f a b ↔ wR p j f a b ∨ (a = 0 ∧ b = -1) ∨ (∃ l ∈ trapsW (newWay p j f) f, ∃ t ∈ flL f.body, t.id ∈ l ∧ t.kind = 10 ∧ a = t.id ∧ b = -1) ∨ ∃ it ∈ itsOf p j f, 7 ≤ it.s.kind ∧ a = it.s.id ∧ b = it.next := by
  have hA := normS_gen (aug_ok h hj)
  have hraw : ∀ s, s ∈ augRaw (newWay p j f) f ↔ s ∈ virtW (newWay p j f) f ∨ s ∈ (newWay p j f).real ∨ s = ⟨0, -1, 2⟩ ∨ s ∈ (itsOf p j f).flatMap fOf := fun s => by
    have e : augRaw (newWay p j f) f = virtW (newWay p j f) f ++ (newWay p j f).real ++ [⟨0, -1, 2⟩] ++ (itsOf p j f).flatMap fOf := rfl
    rw [e]
    simp only [List.mem_append, List.mem_singleton, or_assoc]
  have hof : ∀ s ∈ augRaw (newWay p j f) f, aR p j f s.src s.dst := fun s hs => by
    obtain ⟨s', h1, h2, h3, _⟩ := hA.2.2 s hs
    exact ⟨s', h1, h2, h3⟩
  constructor
  · rintro ⟨s, hs, rfl, rfl⟩
    rcases (hraw s).1 (hA.2.1 s hs) with h1 | h1 | h1 | h1
    · obtain ⟨l, hl, t, ht, hid, hk, rfl⟩ := (virt_mem h hj).1 h1
      exact .inr (.inr (.inl ⟨l, hl, t, ht, hid, hk, rfl, rfl⟩))
    · exact .inl ⟨s, h1, rfl, rfl⟩
    · rw [h1]; exact .inr (.inl ⟨rfl, rfl⟩)
    · obtain ⟨it, hi, hs⟩ := List.mem_flatMap.1 h1
      unfold fOf at hs
      split at hs
      · rw [List.mem_singleton.1 hs]
        exact .inr (.inr (.inr ⟨it, hi, by omega, rfl, rfl⟩))
      · cases hs
  · rintro (⟨s, hs, rfl, rfl⟩ | ⟨rfl, rfl⟩ | ⟨l, hl, t, ht, hid, hk, rfl, rfl⟩ | ⟨it, hi, hk, rfl, rfl⟩)
    · exact hof s ((hraw s).2 (.inr (.inl hs)))
    · exact hof ⟨0, -1, 2⟩ ((hraw _).2 (.inr (.inr (.inl rfl))))
    · exact hof ⟨t.id, -1, 3⟩ ((hraw _).2 (.inl ((virt_mem h hj).2 ⟨l, hl, t, ht, hid, hk, rfl⟩)))
    · refine hof ⟨it.s.id, it.next, 2⟩ ((hraw _).2 (.inr (.inr (.inr (List.mem_flatMap.2 ⟨it, hi, ?_⟩)))))
      have hF := (body_one h hj (its_s hi)).hi
      unfold fOf
      rw [if_pos (by omega)]
      exact List.mem_singleton.2 rfl
theorem aR_pl (h : chkB p = true) (hj : p.procs[j]? = some f) {a b : Int} (hr : aR p j f a b) : plP p j f a ∧ plP p j f b ∧ a ≠ -1 ∧ b ≠ 0 := by
  have hst : ∀ t ∈ flL f.body, plP p j f t.id ∧ t.id ≠ -1 := fun t ht => by
    have hb := body_id (chk_parts h).1 hj ht
    exact ⟨.inr (.inr hb), by omega⟩
  rcases (aR_iff h hj).1 hr with h1 | ⟨rfl, rfl⟩ | ⟨l, hl, t, ht, hid, hk, rfl, rfl⟩ | ⟨it, hi, hk, rfl, rfl⟩
  · obtain ⟨h2, h3⟩ := R_pl h hj h1
    refine ⟨h2, h3, ?_, fun e => no_entry h hj (e ▸ h1)⟩
    obtain ⟨s, hs, rfl, rfl⟩ := h1
    rcases raw_src0 h hj (((real_spec h hj).2 s).1 hs) with h4 | h4
    · rw [h4]; show (0 : Int) ≠ -1; decide
    · omega
  · exact ⟨.inl rfl, .inr (.inl rfl), by decide, by decide⟩
  · exact ⟨(hst t ht).1, .inr (.inl rfl), (hst t ht).2, by decide⟩
  · have h1 := (its_rng hi).1
    unfold okI at h1
    refine ⟨(hst _ (its_s hi)).1, ?_, (hst _ (its_s hi)).2, by omega⟩
    rcases h1 with h1 | h1
    · exact .inr (.inl h1)
    · exact .inr (.inr h1)
theorem prsA_new : prsA (newWay p j f) f = (augW (newWay p j f) f).map (ixP p j f (cntL f.body + 2 : Nat)) := rfl
theorem prsA_in (h : chkB p = true) (hj : p.procs[j]? = some f) : ∀ t ∈ prsA (newWay p j f) f, (0 ≤ t.1 ∧ t.1 < (cntL f.body + 2 : Nat)) ∧ 0 ≤ t.2 ∧ t.2 < (cntL f.body + 2 : Nat) := fun t ht => by
  rw [prsA_new] at ht
  obtain ⟨s, hs, rfl⟩ := List.mem_map.1 ht
  obtain ⟨h1, h2, _⟩ := aR_pl h hj ⟨s, hs, rfl, rfl⟩
  exact ⟨ix_rng h1, ix_rng h2⟩
theorem prsA_mem (h : chkB p = true) (hj : p.procs[j]? = some f) {a b : Int} (ha : plP p j f a) (hb : plP p j f b) : (ixI p j f a, ixI p j f b) ∈ prsA (newWay p j f) f ↔ aR p j f a b := by
  rw [prsA_new]
  constructor
  · intro h1
    obtain ⟨s, hs, he⟩ := List.mem_map.1 h1
    obtain ⟨h2, h3, _⟩ := aR_pl h hj ⟨s, hs, rfl, rfl⟩
    have e1 : ixI p j f s.src = ixI p j f a := congrArg Prod.fst he
    have e2 : ixI p j f s.dst = ixI p j f b := congrArg Prod.snd he
    exact ⟨s, hs, ix_inj h2 ha e1, ix_inj h3 hb e2⟩
  · rintro ⟨s, hs, rfl, rfl⟩
    exact List.mem_map.2 ⟨s, hs, rfl⟩
theorem ix_exit : ixI p j f (-1) = (cntL f.body + 2 : Nat) - 1 := by
  unfold ixI indexI
  rw [if_neg (by decide), if_pos rfl]
theorem avd_iff (h : chkB p = true) (hj : p.procs[j]? = some f) {a b : Int} (ha : plP p j f a) (hb : plP p j f b) : Avd (nextR (cntL f.body + 2) (prsA (newWay p j f) f)) (cntL f.body + 2) (ixI p j f b).toNat (ixI p j f a).toNat ↔ AvdP (aR p j f) b a := by
  have hin := prsA_in h hj
  have hrb := ix_rng hb
  constructor
  · intro h1
    generalize hx : (ixI p j f a).toNat = x at h1
    induction h1 generalizing a with
    | exit hne =>
      have hra := ix_rng ha
      have : a = -1 := ix_inj ha (.inr (.inl rfl)) (by rw [ix_exit]; omega)
      subst this
      refine .exit fun e => ?_
      subst e
      rw [ix_exit] at hne
      omega
    | @step x t hne ht _ ih =>
      obtain ⟨u, hu, h2, h3⟩ := (nextR_mem (fun t ht => (hin t ht).1)).1 ht
      obtain ⟨s, hs, he⟩ := List.mem_map.1 hu
      obtain ⟨q2, q3, _⟩ := aR_pl h hj ⟨s, hs, rfl, rfl⟩
      have e1 : ixI p j f s.src = u.1 := congrArg Prod.fst he
      have e2 : ixI p j f s.dst = u.2 := congrArg Prod.snd he
      have hra := ix_rng ha
      have e3 : s.src = a := ix_inj q2 ha (by omega)
      refine .step (fun e => ?_) ⟨s, hs, e3, rfl⟩ (ih q3 (by omega))
      subst e
      exact hne hx.symm
  · intro h1
    induction h1 with
    | exit hne =>
      rw [ix_exit, show (((cntL f.body + 2 : Nat) : Int) - 1).toNat = cntL f.body + 2 - 1 by omega]
      refine .exit fun e => hne (ix_inj hb (.inr (.inl rfl)) (by rw [ix_exit]; omega))
    | @step a t hne hs _ ih =>
      obtain ⟨q2, q3, _⟩ := aR_pl h hj hs
      have hra := ix_rng q2
      have hrt := ix_rng q3
      refine .step (t := (ixI p j f t).toNat) (fun e => hne (ix_inj q2 hb (by omega))) ?_ (ih q3)
      refine (nextR_mem (fun t ht => (hin t ht).1)).2 ⟨_, (prsA_mem h hj q2 q3).2 hs, ?_, ?_⟩
      · show ixI p j f a = _
        omega
      · show ixI p j f t = _
        omega
/-- b follows a. -/
def folP (p : Pg) (j : Nat) (f : Pr) (a b : Int) : Prop := ¬ AvdP (aR p j f) b a
/-- a decides b. -/
def decP (p : Pg) (j : Nat) (f : Pr) (a b : Int) : Prop := ∃ t, aR p j f a t ∧ folP p j f t b ∧ (a = b ∨ ¬ folP p j f a b)
noncomputable def decL (w : Way) (f : Pr) (n : Nat) : List (Int × Int) := (List.range n).flatMap fun (x : Nat) => ((List.range n).filter fun y => mkM n (folM n (nextR n (prsA w f))) (prsA w f) x y).map fun (y : Nat) => (placeI w.p w.j w.n x, placeI w.p w.j w.n y)
theorem decL_eq {w : Way} {n : Nat} {fm M : List (List Bool)} (h1 : FollowP n (nextR n (prsA w f)) fm) (h2 : ∀ a b, a < n → b < n → bitF M a b = mkM n fm (prsA w f) a b) : outM (placeI w.p w.j w.n) M n n = decL w f n := by
  rw [h1.eq] at h2
  unfold outM decL
  have hf : ∀ x ∈ List.range n, ((List.range n).filter fun y => bitF M x y).map (fun (y : Nat) => (placeI w.p w.j w.n x, placeI w.p w.j w.n y)) = ((List.range n).filter fun y => mkM n (folM n (nextR n (prsA w f))) (prsA w f) x y).map fun (y : Nat) => (placeI w.p w.j w.n x, placeI w.p w.j w.n y) := fun x hx => by
    rw [List.filter_congr fun y hy => h2 x y (List.mem_range.1 hx) (List.mem_range.1 hy)]
  rw [List.flatMap_def, List.flatMap_def, List.map_congr_left hf]
theorem decL_len (w : Way) (n : Nat) : (decL w f n).length ≤ n * n := by
  unfold decL
  have h1 := flatMap_take_len (g := fun (x : Nat) => ((List.range n).filter fun y => mkM n (folM n (nextR n (prsA w f))) (prsA w f) x y).map fun (y : Nat) => (placeI w.p w.j w.n x, placeI w.p w.j w.n y)) (c := n) (List.range n) fun x _ => by
    rw [List.length_map]
    exact Nat.le_trans (List.length_filter_le _ _) (by simp)
  rw [List.length_range] at h1
  exact h1
theorem decL_nodup (h : chkB p = true) (hj : p.procs[j]? = some f) : (decL (newWay p j f) f (cntL f.body + 2)).Nodup := by
  have inj : ∀ x y : Nat, x < cntL f.body + 2 → y < cntL f.body + 2 → placeI p j (cntL f.body + 2 : Nat) x = placeI p j (cntL f.body + 2 : Nat) y → x = y := fun x y hx hy he => by
    have h1 := ix_place (p := p) (j := j) (f := f) (i := (x : Int)) (by omega)
    have h2 := ix_place (p := p) (j := j) (f := f) (i := (y : Int)) (by omega)
    rw [he, h2.2] at h1
    omega
  unfold decL
  show List.Pairwise _ _
  rw [List.pairwise_flatMap]
  constructor
  · intro x hx
    rw [List.pairwise_map]
    refine (List.Pairwise.filter _ List.nodup_range).imp_of_mem fun {y z} hy hz hne he => hne ?_
    exact inj y z (List.mem_range.1 (List.mem_filter.1 hy).1) (List.mem_range.1 (List.mem_filter.1 hz).1) (congrArg Prod.snd he)
  · refine List.nodup_range.imp_of_mem fun {x y} hx hy hne u hu v hv he => hne ?_
    obtain ⟨x', _, rfl⟩ := List.mem_map.1 hu
    obtain ⟨y', _, rfl⟩ := List.mem_map.1 hv
    exact inj x y (List.mem_range.1 hx) (List.mem_range.1 hy) (congrArg Prod.fst he)
end
theorem fol_bit {p : Pg} {j : Nat} {f : Pr} (h : chkB p = true) (hj : p.procs[j]? = some f) {fm : List (List Bool)} (hF : FollowP (cntL f.body + 2) (nextR (cntL f.body + 2) (prsA (newWay p j f) f)) fm) {a b : Int} (ha : plP p j f a) (hb : plP p j f b) : bitF fm (ixI p j f a).toNat (ixI p j f b).toNat = true ↔ folP p j f a b := by
  have hra := ix_rng ha
  have hrb := ix_rng hb
  unfold folP
  rw [hF.iff (by omega) (by omega), avd_iff h hj ha hb]
/-- Who decides whom. -/
theorem decL_mem {p : Pg} {j : Nat} {f : Pr} (h : chkB p = true) (hj : p.procs[j]? = some f) {fm : List (List Bool)} (hF : FollowP (cntL f.body + 2) (nextR (cntL f.body + 2) (prsA (newWay p j f) f)) fm) {a b : Int} : (a, b) ∈ decL (newWay p j f) f (cntL f.body + 2) ↔ plP p j f a ∧ plP p j f b ∧ 0 < b ∧ decP p j f a b := by
  have hin := prsA_in h hj
  have e : folM (cntL f.body + 2) (nextR (cntL f.body + 2) (prsA (newWay p j f) f)) = fm := hF.eq.symm
  have key : ∀ a b : Int, plP p j f a → plP p j f b → (mkM (cntL f.body + 2) fm (prsA (newWay p j f) f) (ixI p j f a).toNat (ixI p j f b).toNat = true ↔ 0 < b ∧ decP p j f a b) := fun a b ha hb => by
    have hra := ix_rng ha
    have hrb := ix_rng hb
    have hb0 : (decide (1 ≤ (ixI p j f b).toNat) && decide ((ixI p j f b).toNat < cntL f.body + 2 - 1)) = true ↔ 0 < b := by
      rw [Bool.and_eq_true, decide_eq_true_eq, decide_eq_true_eq]
      have hbb := hb
      unfold plP at hbb
      unfold ixI indexI loI hiI at hrb ⊢
      (repeat' split) <;> omega
    unfold mkM
    rw [Bool.and_eq_true, hb0, List.any_eq_true]
    refine and_congr_right fun _ => ?_
    unfold decP
    constructor
    · rintro ⟨t, ht, h1⟩
      rw [Bool.and_eq_true, decide_eq_true_eq] at h1
      obtain ⟨s, hs, he⟩ := List.mem_map.1 ht
      obtain ⟨q2, q3, _⟩ := aR_pl h hj ⟨s, hs, rfl, rfl⟩
      have e1 : ixI p j f s.src = t.1 := congrArg Prod.fst he
      have e2 : ixI p j f s.dst = t.2 := congrArg Prod.snd he
      have e3 : s.src = a := ix_inj q2 ha (by omega)
      have h2 := h1.2
      unfold decB at h2
      rw [Bool.and_eq_true, Bool.or_eq_true, decide_eq_true_eq, ← e2, ← e1, e3, fol_bit h hj hF q3 hb] at h2
      refine ⟨s.dst, ⟨s, hs, e3, rfl⟩, h2.1, ?_⟩
      rcases h2.2 with h4 | h4
      · exact .inl (ix_inj ha hb (by omega))
      · refine .inr fun h5 => ?_
        rw [(fol_bit h hj hF ha hb).2 h5] at h4
        cases h4
    · rintro ⟨t, ht, h1, h2⟩
      obtain ⟨q2, q3, _⟩ := aR_pl h hj ht
      refine ⟨_, (prsA_mem h hj q2 q3).2 ht, ?_⟩
      rw [Bool.and_eq_true, decide_eq_true_eq]
      refine ⟨by show ixI p j f a = _; omega, ?_⟩
      unfold decB
      rw [Bool.and_eq_true, Bool.or_eq_true, decide_eq_true_eq]
      refine ⟨(fol_bit h hj hF q3 hb).2 h1, ?_⟩
      rcases h2 with rfl | h2
      · exact .inl (by show ixI p j f a = _; omega)
      · refine .inr ?_
        cases hq : bitF fm (ixI p j f a).toNat (ixI p j f b).toNat with
        | false => rfl
        | true => exact absurd ((fol_bit h hj hF ha hb).1 hq) h2
  unfold decL
  rw [e, List.mem_flatMap]
  constructor
  · rintro ⟨x, hx, h1⟩
    obtain ⟨y, hy, he⟩ := List.mem_map.1 h1
    obtain ⟨hy1, hy2⟩ := List.mem_filter.1 hy
    rw [List.mem_range] at hx hy1
    obtain ⟨q1, q2⟩ := ix_place (p := p) (j := j) (f := f) (i := (x : Int)) (by omega)
    obtain ⟨q3, q4⟩ := ix_place (p := p) (j := j) (f := f) (i := (y : Int)) (by omega)
    have e1 : placeI p j (cntL f.body + 2 : Nat) x = a := congrArg Prod.fst he
    have e2 : placeI p j (cntL f.body + 2 : Nat) y = b := congrArg Prod.snd he
    rw [e1] at q1 q2
    rw [e2] at q3 q4
    have := key a b q1 q3
    rw [q2, q4, Int.toNat_natCast, Int.toNat_natCast] at this
    exact ⟨q1, q3, this.1 hy2⟩
  · rintro ⟨q1, q3, h1⟩
    have hra := ix_rng q1
    have hrb := ix_rng q3
    refine ⟨(ixI p j f a).toNat, List.mem_range.2 (by omega), List.mem_map.2 ⟨(ixI p j f b).toNat, List.mem_filter.2 ⟨List.mem_range.2 (by omega), (key a b q1 q3).2 h1⟩, ?_⟩⟩
    show (placeI p j (cntL f.body + 2 : Nat) _, placeI p j (cntL f.body + 2 : Nat) _) = _
    rw [Int.toNat_of_nonneg hra.1, Int.toNat_of_nonneg hrb.1, place_ix q1, place_ix q3]
end Go.Ab
