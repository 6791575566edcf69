/- The reference's expressions. -/
import Derived.Test.YtabdfngdamikiaaGreatCfg9
set_option linter.unusedSimpArgs false
set_option linter.unusedVariables false
namespace Go.Ab
open Go.Proofs
set_option maxRecDepth 100000 in
theorem whittlerref3_Arity (op : Int) : SpecP Tryz.prog 245 [.int .i64 op] (fun r => r = .int .i64 (kidsN op)) := by
  refine SpecP.body I_whittlerref3_Arity tabOK Tryz.func245 rfl Tryz.call245 (by show 1 ≤ _; decide) ?_
  conv => whnf
  repeat' (refine Br.dec (fun _ => ?_) (fun _ => ?_) <;> first | (exfalso; omega) | conv => whnf)
  all_goals exact RetK.int (by unfold kidsN; (repeat' split) <;> omega)
set_option maxRecDepth 100000 in
theorem whittlerref3_none (x : X) : SpecP Tryz.prog 156 [.agg x.cells] (fun r => r = .bool (noneB x)) := by
  refine SpecP.body I_whittlerref3_none tabOK Tryz.func156 rfl Tryz.call156 (by show 1 ≤ _; decide) ?_
  conv => whnf
  repeat' (first | (intro (_ : _ ≤ 9223372036854775807); conv => whnf) | (refine Br.dec (fun _ => ?_) (fun _ => ?_) <;> first | (exfalso; omega) | conv => whnf) | (refine Br.b (fun _ => ?_) (fun _ => ?_) <;> conv => whnf))
  all_goals have hk : ((X.avs x.kids).length : Int) = x.kids.length := by rw [X.avs_len]
  all_goals first
    | exact RetK.ff (by simp_all [noneB]; done)
    | exact RetK.bool (by simp_all [noneB]; done)
def okForm (x : X) : Bool := decide (kidsN x.op = (x.kids.length : Int)) && (decide (x.op = 1) || decide (x.n = 0)) && decide (0 ≤ x.n) && (decide (x.op = 2) == !(x.name == [])) && ((x.name == []) || isName x.name)
def formF : Nat → X → Bool
  | 0, _ => true
  | k + 1, x => okForm x && x.kids.all (formF k)
theorem wXs_mem : ∀ (l : List X) (y : X), y ∈ l → wX y ≤ wXs l
  | [], y, h => by cases h
  | a :: r, y, h => by
    rw [wXs]
    rcases List.mem_cons.1 h with rfl | h
    · omega
    · have := wXs_mem r y h; omega
set_option maxHeartbeats 4000000 in
set_option maxRecDepth 100000 in
theorem whittlerref3_form : ∀ (k : Nat) (x : X) (_ : wX x < k), SpecP Tryz.prog 215 [.agg x.cells] (fun r => r = .bool (formF k x)) := by
  intro k
  induction k with
  | zero => intro x h; omega
  | succ k ih =>
    intro x hx
    have hxe : wX x = 1 + x.name.length + wXs x.kids := by cases x; rw [wX]; rfl
    have hk : ((X.avs x.kids).length : Int) = x.kids.length := by rw [X.avs_len]
    refine SpecP.body I_whittlerref3_form tabOK Tryz.func215 rfl Tryz.call215 (by show 1 ≤ _; decide) ?_
    conv => whnf
    repeat' (first | ((first | (intro (_ : _ ≤ 9223372036854775807)) | (refine CallK.pure (whittlerref3_Arity _) (by repeat' (first | exact ArgP.nil | refine ArgP.cons ?_ ?_ | exact Sub.refl _ | exact Sub.tt rfl | exact Sub.ff rfl)) ?_; rintro _ rfl) | (refine CallK.pure (whittlerref1_Name _) (by repeat' (first | exact ArgP.nil | refine ArgP.cons ?_ ?_ | exact Sub.refl _ | exact Sub.tt rfl | exact Sub.ff rfl)) ?_; rintro _ rfl) | (refine DrawK.auto tabOK mixed (by kernel_rfl) ?_) | (refine ValO.boolNeq tabOK rfl rfl rfl rfl rfl ?_)); conv => whnf) | (refine Br.dec (fun _ => ?_) (fun _ => ?_) <;> first | (exfalso; omega) | conv => whnf) | (refine Br.dec2 (fun _ => ?_) (fun _ => ?_) <;> first | (exfalso; omega) | conv => whnf) | (refine Br.n (fun _ => ?_) (fun _ => ?_) <;> conv => whnf))
    all_goals simp only [show (ByteArray.mk #[]).data.toList = [] from rfl] at *
    all_goals first
      | (refine RetK.ff ?_
         rw [formF, Bool.and_eq_false_iff]
         left
         unfold okForm
         rw [show decide (0 ≤ x.n) = false from decide_eq_false (by omega)]
         simp
         done)
      | (refine RetK.ff ?_
         rw [formF, Bool.and_eq_false_iff]
         left
         rename_i h
         have hq : (decide (x.op = 2) == !(x.name == [])) = false := by
           have e : decide (x.op = 2) = (x.op == 2) := rfl
           rw [e]
           revert h
           cases (x.op == 2) <;> cases (x.name == []) <;> decide
         unfold okForm
         rw [hq]
         simp
         done)
      | (refine RetK.ff ?_
         rw [formF, Bool.and_eq_false_iff]
         left
         simp_all [okForm]
         done)
      | (refine RetK.ff ?_
         rw [formF, Bool.and_eq_false_iff]
         left
         simp_all [okForm]
         omega)
      | (have h0 : okForm x = true := by first
           | (simp_all [okForm]; done)
           | (simp_all [okForm]; omega)
         rw [show formF (k + 1) x = x.kids.all (formF k) by rw [formF, h0]; rfl])
    all_goals
      clear h0
      refine LoopK.inv tabOK (fun j : Nat => ⟨[(1, .p (.ip x.cells)), (48, .p (.int .i64 (X.avs x.kids).length)), (49, .p (.int .i64 j))], []⟩) (fun j => j ≤ x.kids.length ∧ (x.kids.drop j).all (formF k) = x.kids.all (formF k)) (fun j => x.kids.length - j) 0 (Le.of_eq rfl) ⟨Nat.zero_le _, rfl⟩ ?_
      rintro j ⟨h2, h3⟩
      rcases Nat.lt_or_ge j x.kids.length with hj | hj
      · have hw := wXs_mem x.kids _ (List.getElem_mem hj)
        conv => whnf
        repeat' (first | ((first | (refine IdxK.xs (by omega) ?_) | (refine Wr.i64 (by omega) (by omega) ?_) | (refine CallK.pure (ih (x.kids[j]'hj) (by omega)) (.cons (Sub.refl _) .nil) ?_; rintro _ rfl)); conv => whnf) | (refine Br.dec (fun _ => ?_) (fun _ => ?_) <;> first | (exfalso; omega) | conv => whnf) | (refine Br.n (fun _ => ?_) (fun _ => ?_) <;> conv => whnf))
        · exact ⟨j + 1, ⟨by omega, by rw [all_yes (by omega) (by assumption)]; exact h3⟩, by omega, Le.of_eq rfl⟩
        · exact RetK.ff (by rw [← h3, all_no (by omega) (by assumption)])
      · conv => whnf
        repeat' (refine Br.dec (fun _ => ?_) (fun _ => ?_) <;> first | (exfalso; omega) | conv => whnf)
        exact RetK.tt (by rw [← h3, all_end (by omega)])
end Go.Ab
namespace Go.Ab
open Go.Proofs
def maxN : List Nat → Nat
  | [] => 0
  | a :: r => max a (maxN r)
def deepI : Nat → X → Nat
  | 0, _ => 1
  | m + 1, x => 1 + maxN (x.kids.map (deepI m))
theorem maxN_le {l : List Nat} {m : Nat} (h : ∀ a ∈ l, a ≤ m) : maxN l ≤ m := by
  induction l with
  | nil => exact Nat.zero_le _
  | cons a r ih =>
    have := ih fun b hb => h b (List.mem_cons_of_mem _ hb)
    have := h a List.mem_cons_self
    rw [maxN]
    omega
theorem deepI_le : ∀ (m : Nat) (x : X), deepI m x ≤ m + 1
  | 0, _ => Nat.le_refl _
  | m + 1, x => by
    rw [deepI]
    have : maxN (x.kids.map (deepI m)) ≤ m + 1 := maxN_le fun a ha => by
      obtain ⟨y, _, rfl⟩ := List.mem_map.1 ha
      exact deepI_le m y
    omega
set_option maxHeartbeats 2000000 in
set_option maxRecDepth 100000 in
theorem whittlerref3_deep : ∀ (m : Nat) (_ : m ≤ 1000) (x : X), SpecP Tryz.prog 214 [.agg x.cells, .int .i64 m] (fun r => r = .int .i64 (deepI m x)) := by
  intro m
  induction m with
  | zero =>
    intro _ x
    refine SpecP.body I_whittlerref3_deep tabOK Tryz.func214 rfl Tryz.call214 (by show 2 ≤ _; decide) ?_
    conv => whnf
    repeat' (refine Br.dec (fun _ => ?_) (fun _ => ?_) <;> first | (exfalso; omega) | conv => whnf)
    exact RetK.int rfl
  | succ m ih =>
    intro hm x
    have hk : ((X.avs x.kids).length : Int) = x.kids.length := by rw [X.avs_len]
    refine SpecP.body I_whittlerref3_deep tabOK Tryz.func214 rfl Tryz.call214 (by show 2 ≤ _; decide) ?_
    conv => whnf
    repeat' (refine Br.dec (fun _ => ?_) (fun _ => ?_) <;> first | (exfalso; omega) | conv => whnf)
    have hmx : maxN (x.kids.map (deepI m)) ≤ m + 1 := maxN_le fun a ha => by
      obtain ⟨y, _, rfl⟩ := List.mem_map.1 ha
      exact deepI_le m y
    refine LoopK.inv tabOK (fun y : Nat × Nat => ⟨[(1, .p (.int .i64 (m + 1 : Nat))), (2, .p (.ip x.cells)), (5, .p (.int .i64 y.2)), (6, .p (.int .i64 y.1))], []⟩) (fun y => y.1 ≤ x.kids.length ∧ y.2 ≤ m + 1 ∧ max y.2 (maxN ((x.kids.drop y.1).map (deepI m))) = maxN (x.kids.map (deepI m))) (fun y => x.kids.length - y.1) (0, 0) (Le.of_eq rfl) ⟨Nat.zero_le _, Nat.zero_le _, by simp⟩ ?_
    rintro ⟨j, d⟩ ⟨h2, h3, h4⟩
    simp only at h2 h3 h4 ⊢
    rcases Nat.lt_or_ge j x.kids.length with hj | hj
    · rw [List.drop_eq_getElem_cons hj, List.map_cons, maxN] at h4
      have hd := deepI_le m x.kids[j]
      conv => whnf
      repeat' (first | ((first | (intro (_ : _ ≤ 9223372036854775807)) | (refine IdxK.xs (by omega) ?_) | (refine Wr.i64 (by omega) (by omega) ?_) | (refine CallK.pure (ih (by omega) (x.kids[j]'hj)) (.cons (Sub.refl _) (.cons (Sub.int (by omega)) .nil)) ?_; rintro _ rfl)); conv => whnf) | (refine Br.dec (fun _ => ?_) (fun _ => ?_) <;> first | (exfalso; omega) | conv => whnf))
      all_goals first
        | exact ⟨(j + 1, deepI m x.kids[j]), ⟨by simp only; omega, by simp only; omega, by simp only; omega⟩, by simp only; omega, Le.of_eq rfl⟩
        | exact ⟨(j + 1, d), ⟨by simp only; omega, by simp only; omega, by simp only; omega⟩, by simp only; omega, Le.of_eq rfl⟩
        | exact RetK.int (by rw [deepI]; omega)
    · rw [List.drop_eq_nil_of_le hj, List.map_nil, maxN] at h4
      conv => whnf
      repeat' (first | ((first | (intro (_ : _ ≤ 9223372036854775807)) | (refine Wr.i64 (by omega) (by omega) ?_)); conv => whnf) | (refine Br.dec (fun _ => ?_) (fun _ => ?_) <;> first | (exfalso; omega) | conv => whnf))
      exact RetK.int (by rw [deepI]; omega)
def mayXR (x : X) : Bool := decide (deepI 20 x ≤ 20) && formF (wX x + 1) x
set_option maxRecDepth 100000 in
theorem whittlerref3_MayExpr (x : X) : SpecP Tryz.prog 155 [.agg x.cells] (fun r => r = .bool (mayXR x)) := by
  refine SpecP.body I_whittlerref3_MayExpr tabOK Tryz.func155 rfl Tryz.call155 (by show 1 ≤ _; decide) ?_
  conv => whnf
  repeat' (first | ((first | (refine CallK.pure (whittlerref3_deep 20 (by omega) x) (.cons (Sub.refl _) (.cons (Sub.refl _) .nil)) ?_; rintro _ rfl) | (refine CallK.pure (whittlerref3_form (wX x+1) x (by omega)) (.cons (Sub.refl _) .nil) ?_; rintro _ rfl)); conv => whnf) | (refine Br.dec (fun _ => ?_) (fun _ => ?_) <;> first | (exfalso; omega) | conv => whnf))
  all_goals first
    | exact RetK.bool (by unfold mayXR; rw [decide_eq_true (by omega)]; rfl)
    | exact RetK.ff (by unfold mayXR; rw [decide_eq_false (by omega)]; rfl)
/-- What the program's own reading lets stand, the reference's lets stand. -/
theorem deepB_form : ∀ (n : Nat) (x : X), deepB n x = true → deepI n x ≤ n ∧ ∀ k, formF k x = true
  | 0, x, h => by rw [deepB] at h; cases h
  | n + 1, x, h => by
    rw [deepB] at h
    simp only [Bool.and_eq_true, decide_eq_true_eq] at h
    obtain ⟨h1, h2⟩ := h
    have hkids : (∀ y ∈ x.kids, deepB n y = true) ∧ okForm x = true := by
      split at h2
      · rename_i ho
        simp only [Bool.and_eq_true, decide_eq_true_eq] at h2
        have hk0 : x.kids = [] := by
          rw [ho] at h1
          have : kidsN 1 = 0 := by decide
          rw [this] at h1
          exact List.length_eq_zero_iff.1 (by omega)
        refine ⟨by rw [hk0]; simp, ?_⟩
        unfold okForm
        rw [h1, ho, h2.2]
        simp [h2.1]
      split at h2
      · rename_i ho
        simp only [Bool.and_eq_true, decide_eq_true_eq] at h2
        have hk0 : x.kids = [] := by
          rw [ho] at h1
          have : kidsN 2 = 0 := by decide
          rw [this] at h1
          exact List.length_eq_zero_iff.1 (by omega)
        have hne : (x.name == []) = false := by
          cases hq : x.name with
          | nil =>
            have := h2.2
            rw [hq] at this
            unfold isName at this
            rw [dif_neg (by simp)] at this
            cases this
          | cons a r => rfl
        refine ⟨by rw [hk0]; simp, ?_⟩
        unfold okForm
        rw [h1, ho, h2.2, hne, h2.1]
        simp
      · rename_i ho1 ho2
        simp only [Bool.and_eq_true, decide_eq_true_eq, List.all_eq_true] at h2
        refine ⟨h2.2, ?_⟩
        unfold okForm
        rw [h1, h2.1.1, h2.1.2]
        simp [ho1, ho2]
    refine ⟨?_, fun k => ?_⟩
    · rw [deepI]
      have : maxN (x.kids.map (deepI n)) ≤ n := maxN_le fun a ha => by
        obtain ⟨y, hy, rfl⟩ := List.mem_map.1 ha
        exact (deepB_form n y (hkids.1 y hy)).1
      omega
    · cases k with
      | zero => rfl
      | succ k =>
        rw [formF, hkids.2, Bool.true_and, List.all_eq_true]
        exact fun y hy => (deepB_form n y (hkids.1 y hy)).2 k
theorem mayX_R {x : X} (h : mayX x = true) : mayXR x = true := by
  obtain ⟨h1, h2⟩ := deepB_form 20 x h
  unfold mayXR
  rw [decide_eq_true h1, h2]
  rfl
end Go.Ab
namespace Go.Ab
open Go.Proofs
def argR (a : Arg) : Bool := bif a.ref then isName a.name && noneB a.x else (a.name == []) && mayXR a.x
set_option maxRecDepth 100000 in
theorem whittlerref3_arg (a : Arg) : SpecP Tryz.prog 157 [.agg a.cells] (fun r => r = .bool (argR a)) := by
  refine SpecP.body I_whittlerref3_arg tabOK Tryz.func157 rfl Tryz.call157 (by show 1 ≤ _; decide) ?_
  conv => whnf
  repeat' (first | ((first | (refine CallK.pure (whittlerref1_Name _) (by repeat' (first | exact ArgP.nil | refine ArgP.cons ?_ ?_ | exact Sub.refl _ | exact Sub.tt rfl | exact Sub.ff rfl)) ?_; rintro _ rfl) | (refine CallK.pure (whittlerref3_none _) (by repeat' (first | exact ArgP.nil | refine ArgP.cons ?_ ?_ | exact Sub.refl _ | exact Sub.tt rfl | exact Sub.ff rfl)) ?_; rintro _ rfl) | (refine CallK.pure (whittlerref3_MayExpr _) (by repeat' (first | exact ArgP.nil | refine ArgP.cons ?_ ?_ | exact Sub.refl _ | exact Sub.tt rfl | exact Sub.ff rfl)) ?_; rintro _ rfl)); conv => whnf) | (refine Br.b (fun _ => ?_) (fun _ => ?_) <;> conv => whnf))
  all_goals simp only [show (ByteArray.mk #[]).data.toList = [] from rfl] at *
  all_goals first
    | exact RetK.bool (by simp_all [argR])
    | exact RetK.ff (by simp_all [argR])
theorem handB_R {a : Arg} (h : handB a = true) : argR a = true := by
  unfold handB namedB worthB at h
  unfold argR
  cases hr : a.ref with
  | true =>
    rw [hr] at h
    simpa using h
  | false =>
    rw [hr] at h
    simp only [cond_false, Bool.not_false, cond_true, Bool.and_eq_true] at h
    rw [h.1, mayX_R h.2]
    rfl
end Go.Ab
namespace Go.Ab
open Go.Proofs
def oneOk (s : S) : Bool := fieldsB s && namesB s.labels
def hasXB (s : S) : Bool := decide (s.kind = 1) || decide (s.kind = 3) || decide (s.kind = 5) || decide (s.kind = 6) || (decide (s.kind = 9) && s.has)
structure OneF (s : S) : Prop where
  labels : namesB s.labels = true
  lo : 1 ≤ s.kind
  hi : s.kind ≤ 10
  x : hasXB s = true → mayXR s.x = true
  nox : hasXB s = false → noneB s.x = true
  has : s.has = true → s.kind = 9
  name : s.kind = 1 ∨ s.kind = 2 ∨ s.kind = 10 → isName s.name = true
  noname : ¬ (s.kind = 1 ∨ s.kind = 2 ∨ s.kind = 10) → (s.name == []) = true ∨ (s.kind = 4 ∧ isName s.name = true)
  proc : s.kind = 4 → isName s.proc = true
  noproc : s.kind ≠ 4 → (s.proc == []) = true
  args : s.args.all argR = true
  noargs : s.kind ≠ 4 → s.args.length = 0
  thn : s.thn.length = 0 ∨ s.kind = 5 ∨ s.kind = 6
  els : s.els.length = 0 ∨ s.kind = 5
theorem isName_nil {s : Str} (h : isName s = true) : (s == []) = false := by
  cases s with
  | nil => unfold isName at h; rw [dif_neg (by simp)] at h; cases h
  | cons a r => rfl
theorem one_facts {s : S} (h : oneOk s = true) : OneF s := by
  unfold oneOk at h
  rw [Bool.and_eq_true] at h
  obtain ⟨h, hlab⟩ := h
  have hargs : s.args.all handB = true → s.args.all argR = true := fun h => by
    rw [List.all_eq_true] at h ⊢
    exact fun a ha => handB_R (h a ha)
  have key : ∀ (k : Int) (f : Flds), s.kind = k → fldsOf s.kind s.has (s.name == []) = some f → f.has = false ∧ (f.thn = false → s.thn.length = 0) ∧ (f.els = false → s.els.length = 0) ∧ (s.kind ≠ 4 → s.args.length = 0) ∧ namedB s.name f.name = true ∧ namedB s.proc f.proc = true ∧ worthB s.x f.x = true ∧ s.args.all argR = true := fun k f hk hf => by
    rw [fieldsB_of hf] at h
    simp only [Bool.and_eq_true, Bool.not_eq_true', Bool.or_eq_false_iff, Bool.and_eq_false_iff, Bool.not_eq_false', decide_eq_false_iff_not, decide_eq_true_eq] at h
    obtain ⟨⟨⟨⟨⟨⟨⟨h1, h2⟩, h3⟩, h4⟩, h5⟩, h6⟩, h7⟩, h8⟩ := h
    refine ⟨h1, fun hq => ?_, fun hq => ?_, fun hq => ?_, h5, h6, h7, hargs h8⟩
    · rcases h2 with h2 | h2
      · rw [hq] at h2; cases h2
      · omega
    · rcases h3 with h3 | h3
      · rw [hq] at h3; cases h3
      · omega
    · rcases h4 with h4 | h4
      · exact absurd h4 hq
      · omega
  have hkind : s.kind = 1 ∨ s.kind = 2 ∨ s.kind = 3 ∨ s.kind = 4 ∨ s.kind = 5 ∨ s.kind = 6 ∨ s.kind = 7 ∨ s.kind = 8 ∨ s.kind = 9 ∨ s.kind = 10 := by
    unfold fieldsB at h
    split at h
    · cases h
    · rename_i f hf
      unfold fldsOf at hf
      (repeat' split at hf) <;> first | (cases hf; done) | omega
  have fin : ∀ (k : Int) (f : Flds), s.kind = k → fldsOf s.kind s.has (s.name == []) = some f → (1 ≤ k ∧ k ≤ 10) → f.x = hasXB s → (s.has = true → f.has = true ∨ k = 9) → ((k = 1 ∨ k = 2 ∨ k = 10) → f.name = true) → (¬ (k = 1 ∨ k = 2 ∨ k = 10) → f.name = false ∨ (k = 4 ∧ f.name = !(s.name == []))) → f.proc = decide (k = 4) → (f.thn = true → k = 5 ∨ k = 6) → (f.els = true → k = 5) → OneF s := fun k f hk hf hkk hfx hfh hfn hfnn hfp hft hfe => by
    obtain ⟨h1, h2, h3, h4, h5, h6, h7, h8⟩ := key k f hk hf
    unfold worthB at h7
    refine ⟨hlab, by omega, by omega, fun hq => ?_, fun hq => ?_, fun hq => ?_, fun hq => ?_, fun hq => ?_, fun hq => ?_, fun hq => ?_, h8, h4, ?_, ?_⟩
    · rw [hfx, hq] at h7; exact mayX_R h7
    · rw [hfx, hq] at h7; exact h7
    · rcases hfh hq with h9 | h9
      · rw [h1] at h9; cases h9
      · omega
    · rw [hfn (by omega)] at h5; exact h5
    · rcases hfnn (by omega) with h9 | ⟨h9, h10⟩
      · rw [h9] at h5; exact .inl h5
      · cases hq2 : s.name == [] with
        | true => exact .inl rfl
        | false =>
          rw [h10, hq2] at h5
          exact .inr ⟨by omega, h5⟩
    · rw [hfp, decide_eq_true (by omega)] at h6; exact h6
    · rw [hfp, decide_eq_false (by omega)] at h6; exact h6
    · cases ht : f.thn with
      | true => exact .inr (by have := hft ht; omega)
      | false => exact .inl (h2 ht)
    · cases he : f.els with
      | true => exact .inr (by have := hfe he; omega)
      | false => exact .inl (h3 he)
  rcases hkind with hk | hk | hk | hk | hk | hk | hk | hk | hk | hk
  · exact fin 1 ⟨true, false, true, s.has, false, false⟩ hk (by rw [hk]; rfl) (by omega) (by unfold hasXB; rw [hk]; rfl) (fun h => .inl h) (fun _ => rfl) (fun h => absurd (by omega) h) rfl (fun h => by cases h) (fun h => by cases h)
  · exact fin 2 ⟨true, false, false, s.has, false, false⟩ hk (by rw [hk]; rfl) (by omega) (by unfold hasXB; rw [hk]; rfl) (fun h => .inl h) (fun _ => rfl) (fun h => absurd (by omega) h) rfl (fun h => by cases h) (fun h => by cases h)
  · exact fin 3 ⟨false, false, true, s.has, false, false⟩ hk (by rw [hk]; rfl) (by omega) (by unfold hasXB; rw [hk]; rfl) (fun h => .inl h) (fun h => by omega) (fun _ => .inl rfl) rfl (fun h => by cases h) (fun h => by cases h)
  · exact fin 4 ⟨!(s.name == []), true, false, s.has, false, false⟩ hk (by rw [hk]; rfl) (by omega) (by unfold hasXB; rw [hk]; rfl) (fun h => .inl h) (fun h => by omega) (fun _ => .inr ⟨rfl, rfl⟩) rfl (fun h => by cases h) (fun h => by cases h)
  · exact fin 5 ⟨false, false, true, s.has, true, true⟩ hk (by rw [hk]; rfl) (by omega) (by unfold hasXB; rw [hk]; rfl) (fun h => .inl h) (fun h => by omega) (fun _ => .inl rfl) rfl (fun _ => .inl rfl) (fun _ => rfl)
  · exact fin 6 ⟨false, false, true, s.has, true, false⟩ hk (by rw [hk]; rfl) (by omega) (by unfold hasXB; rw [hk]; rfl) (fun h => .inl h) (fun h => by omega) (fun _ => .inl rfl) rfl (fun _ => .inr rfl) (fun h => by cases h)
  · exact fin 7 ⟨false, false, false, s.has, false, false⟩ hk (by rw [hk]; rfl) (by omega) (by unfold hasXB; rw [hk]; rfl) (fun h => .inl h) (fun h => by omega) (fun _ => .inl rfl) rfl (fun h => by cases h) (fun h => by cases h)
  · exact fin 8 ⟨false, false, false, s.has, false, false⟩ hk (by rw [hk]; rfl) (by omega) (by unfold hasXB; rw [hk]; rfl) (fun h => .inl h) (fun h => by omega) (fun _ => .inl rfl) rfl (fun h => by cases h) (fun h => by cases h)
  · exact fin 9 ⟨false, false, s.has, false, false, false⟩ hk (by rw [hk]; rfl) (by omega) (by unfold hasXB; rw [hk]; cases s.has <;> rfl) (fun _ => .inr rfl) (fun h => by omega) (fun _ => .inl rfl) rfl (fun h => by cases h) (fun h => by cases h)
  · exact fin 10 ⟨true, false, false, s.has, false, false⟩ hk (by rw [hk]; rfl) (by omega) (by unfold hasXB; rw [hk]; rfl) (fun h => .inl h) (fun _ => rfl) (fun h => absurd (by omega) h) rfl (fun h => by cases h) (fun h => by cases h)
end Go.Ab
namespace Go.Ab
open Go.Proofs
theorem one_no {s : S} {H : Heap} (h : oneOk s = true → False) : RetK H (.p .ff) (fun r => ∃ b, r = .bool b ∧ (oneOk s = true → b = true)) := ⟨.bool false, .p (Sub.ff rfl), false, rfl, fun hq => (h hq).elim⟩
set_option maxHeartbeats 16000000 in
set_option maxRecDepth 100000 in
theorem whittlerref3_one (s : S) : SpecP Tryz.prog 116 [.agg s.cells] (fun r => ∃ b, r = .bool b ∧ (oneOk s = true → b = true)) := by
  refine SpecP.body I_whittlerref3_one tabOK Tryz.func116 rfl Tryz.call116 (by show 1 ≤ _; decide) ?_
  conv => whnf
  have hal : (s.args.map fun a => AV.agg a.cells).length = s.args.length := List.length_map _
  have htl : ((S.avs s.thn).length : Int) = s.thn.length := by rw [S.avs_len]
  have hel : ((S.avs s.els).length : Int) = s.els.length := by rw [S.avs_len]
  repeat' (first | ((first | (intro (_ : _ ≤ 9223372036854775807)) | (refine CallK.pure (whittlerref1_Name _) (by repeat' (first | exact ArgP.nil | refine ArgP.cons ?_ ?_ | exact Sub.refl _ | exact Sub.tt rfl | exact Sub.ff rfl)) ?_; rintro _ rfl) | (refine CallK.pure (whittlerref3_names _) (by repeat' (first | exact ArgP.nil | refine ArgP.cons ?_ ?_ | exact Sub.refl _ | exact Sub.tt rfl | exact Sub.ff rfl)) ?_; rintro _ rfl) | (refine CallK.pure (whittlerref3_none _) (by repeat' (first | exact ArgP.nil | refine ArgP.cons ?_ ?_ | exact Sub.refl _ | exact Sub.tt rfl | exact Sub.ff rfl)) ?_; rintro _ rfl) | (refine CallK.pure (whittlerref3_MayExpr _) (by repeat' (first | exact ArgP.nil | refine ArgP.cons ?_ ?_ | exact Sub.refl _ | exact Sub.tt rfl | exact Sub.ff rfl)) ?_; rintro _ rfl) | (refine ValO.boolNeq tabOK rfl rfl rfl rfl rfl ?_)); conv => whnf) | (refine Br.dec (fun _ => ?_) (fun _ => ?_) <;> first | (exfalso; omega) | conv => whnf) | (refine Br.dec2 (fun _ => ?_) (fun _ => ?_) <;> first | (exfalso; omega) | conv => whnf) | (refine Br.n (fun _ => ?_) (fun _ => ?_) <;> conv => whnf) | (refine Br.b (fun _ => ?_) (fun _ => ?_) <;> conv => whnf))
  all_goals simp only [show (ByteArray.mk #[]).data.toList = [] from rfl] at *
  all_goals first
    | (refine one_no fun h => ?_
       obtain ⟨f1, f2, f3, f4, f5, f6, f7, f8, f9, f10, f11, f12, f13, f14⟩ := one_facts h
       first
         | omega
         | (exfalso; simp_all [hasXB]; done)
         | (exfalso; simp_all [hasXB]; omega)
         | (rename_i hq
            by_cases hk : s.kind = 4
            · have h15 := isName_nil (f9 hk)
              simp_all
              done
            · have h15 := f10 hk
              simp_all
              done))
    | skip
  all_goals
    refine LoopK.inv tabOK (fun j : Nat => ⟨[(1, .p (.ip s.cells)), (143, .p (.sl (s.args.map fun a => .agg a.cells))), (144, .p (.int .i64 (s.args.map fun a => AV.agg a.cells).length)), (145, .p (.int .i64 j))], []⟩) (fun j => j ≤ s.args.length) (fun j => s.args.length - j) 0 (Le.of_eq rfl) (Nat.zero_le _) ?_
    intro j h2
    rcases Nat.lt_or_ge j s.args.length with hj | hj
    · conv => whnf
      repeat' (first | ((first | (refine CallK.pure (whittlerref3_arg _) (by repeat' (first | exact ArgP.nil | refine ArgP.cons ?_ ?_ | exact Sub.refl _ | exact Sub.tt rfl | exact Sub.ff rfl)) ?_; rintro _ rfl) | (refine And.intro rfl ?_) | (refine IdxK.map (by omega) (fun _ => rfl) ?_) | (refine Wr.i64 (by omega) (by omega) ?_)); conv => whnf) | (refine Br.dec (fun _ => ?_) (fun _ => ?_) <;> first | (exfalso; omega) | conv => whnf) | (refine Br.n (fun _ => ?_) (fun _ => ?_) <;> conv => whnf))
      all_goals first
        | exact ⟨j + 1, hj, by omega, Le.of_eq rfl⟩
        | (refine one_no fun h => ?_
           have h3 := List.all_eq_true.1 (one_facts h).args _ (List.getElem_mem hj)
           simp_all)
    · conv => whnf
      repeat' (first | (intro (_ : _ ≤ 9223372036854775807); conv => whnf) | (refine Br.dec (fun _ => ?_) (fun _ => ?_) <;> first | (exfalso; omega) | conv => whnf))
      all_goals first
        | exact ⟨_, .p (Sub.tt rfl), true, rfl, fun _ => rfl⟩
        | (refine one_no fun h => ?_
           have F1 := (one_facts h).thn
           have F2 := (one_facts h).els
           omega)
        | (refine ⟨_, .p (Sub.refl _), _, rfl, fun h => ?_⟩
           have F1 := (one_facts h).thn
           have F2 := (one_facts h).els
           first
             | (simp; omega)
             | (simp_all; omega)
             | (simp_all; done))
end Go.Ab
namespace Go.Ab
open Go.Proofs
def idsN (n c : Nat) : List Int := (List.range' (n + 1) c).map fun (k : Nat) => (k : Int)
theorem idsN_add (n a b : Nat) : idsN n (a + b) = idsN n a ++ idsN (n + a) b := by
  unfold idsN
  rw [← List.map_append, show n + a + 1 = n + 1 + 1 * a by omega, List.range'_append]
theorem idsN_one (n : Nat) : idsN n 1 = [((n + 1 : Nat) : Int)] := by simp [idsN]
mutual
theorem rowS_ids (nest : Int) : ∀ (t : S) {n : Nat} {m : Int}, rowS nest n t = some m → (flS t).map S.id = idsN n (cntS t)
  | .mk id kind labels name proc x has args thn els, n, m, h => by
    simp only [rowS] at h
    split at h
    · cases h
    split at h
    · cases h
    rename_i hid
    cases hn : namesB labels <;> rw [hn] at h
    · cases h
    cases hf : fieldsB (.mk id kind labels name proc x has args thn els) <;> rw [hf] at h
    · cases h
    simp only [cond_true] at h
    split at h
    · rename_i m1 h1
      have h1' : rowL (nest + 1) ((n + 1 : Nat) : Int) thn = some m1 := by rw [← h1]; rfl
      have h2 := rowL_cnt _ _ thn h1'
      have h3 := rowL_ids (nest + 1) thn h1'
      have h' : rowL (nest + 1) ((n + 1 + cntL thn : Nat) : Int) els = some m := by rw [← h, h2]; rfl
      have h4 := rowL_ids (nest + 1) els h'
      rw [flS, cntS, List.map_cons, List.map_append, h3, h4, show 1 + cntL thn + cntL els = 1 + (cntL thn + cntL els) by omega, idsN_add, idsN_one, idsN_add]
      have : id = ((n + 1 : Nat) : Int) := by omega
      rw [show (S.mk id kind labels name proc x has args thn els).id = id from rfl, this]
      rfl
    · cases h
theorem rowL_ids (nest : Int) : ∀ (l : List S) {n : Nat} {m : Int}, rowL nest n l = some m → (flL l).map S.id = idsN n (cntL l)
  | [], n, m, h => by rw [flL, cntL]; rfl
  | t :: r, n, m, h => by
    simp only [rowL] at h
    split at h
    · cases h
    split at h
    · rename_i m1 h1
      have h2 := rowS_cnt _ _ t h1
      have h3 := rowS_ids nest t h1
      have h' : rowL nest ((n + cntS t : Nat) : Int) r = some m := by rw [← h, h2]; rfl
      have h4 := rowL_ids nest r h'
      rw [flL, cntL, List.map_append, h3, h4, idsN_add]
    · cases h
end
theorem mayPrs_ids : ∀ (l : List Pr) {n : Nat} {m : Int}, mayPrs n l = some m → ∀ (j : Nat) (f : Pr), l[j]? = some f → (flL f.body).map S.id = idsN (n + offN l j) (cntL f.body)
  | [], _, _, _, j, f, hj => by simp at hj
  | g :: r, n, m, h, j, f, hj => by
    rw [mayPrs] at h
    cases hm : mayPr g <;> rw [hm] at h
    · cases h
    simp only [cond_true] at h
    split at h
    · rename_i m1 h1
      cases j with
      | zero =>
        simp at hj
        subst hj
        exact rowL_ids 1 g.body h1
      | succ j =>
        have h2 := rowL_cnt _ _ g.body h1
        have h' : mayPrs ((n + cntL g.body : Nat) : Int) r = some m := by rw [← h, h2]; rfl
        have := mayPrs_ids r h' j f (by simpa using hj)
        rw [offN, this, Nat.add_assoc]
    · cases h
/-- Statements are numbered in order. -/
theorem may_ids {p : Pg} (h : mayB p = true) {j : Nat} {f : Pr} (hj : p.procs[j]? = some f) : (flL f.body).map S.id = idsN (offN p.procs j) (cntL f.body) := by
  unfold mayB at h
  simp only [Bool.and_eq_true] at h
  cases hm : mayPrs 0 p.procs with
  | none => rw [hm] at h; cases h.2
  | some m =>
    have := mayPrs_ids p.procs (n := 0) hm j f hj
    simpa using this
theorem idsN_mem {n c : Nat} {a : Int} (h : a ∈ idsN n c) : (n : Int) + 1 ≤ a ∧ a ≤ n + c := by
  unfold idsN at h
  obtain ⟨k, hk, rfl⟩ := List.mem_map.1 h
  rw [List.mem_range'] at hk
  obtain ⟨i, hi, rfl⟩ := hk
  omega
/-- A place: the exit, or a statement's number between two. -/
def okI (lo hi : Nat) (x : Int) : Prop := x = -1 ∨ ((lo : Int) + 1 ≤ x ∧ x ≤ hi)
mutual
theorem itS_rng (proc : Int) (lo hi : Nat) : ∀ (t : S) (up nx loop : Int) (n : Nat) (it : Item), it ∈ itS proc up nx loop n t → okI lo hi nx → (loop = 0 ∨ ((lo : Int) + 1 ≤ loop ∧ loop ≤ hi)) → lo ≤ n → n + cntS t ≤ hi →
    okI lo hi it.next ∧ (it.loop = 0 ∨ ((lo : Int) + 1 ≤ it.loop ∧ it.loop ≤ hi))
  | .mk id kind labels name pr x has args thn els, up, nx, loop, n, it, h, h1, h2, h3, h4 => by
    rw [itS] at h
    rw [cntS] at h4
    rcases List.mem_cons.1 h with rfl | h
    · exact ⟨h1, h2⟩
    · have h5 : okI lo hi (if kind = 6 then ((n : Int) + 1) else nx) := by
        split
        · exact .inr ⟨by omega, by omega⟩
        · exact h1
      have h6 : (if kind = 6 then ((n : Int) + 1) else loop) = 0 ∨ ((lo : Int) + 1 ≤ (if kind = 6 then ((n : Int) + 1) else loop) ∧ (if kind = 6 then ((n : Int) + 1) else loop) ≤ hi) := by
        split
        · exact .inr ⟨by omega, by omega⟩
        · exact h2
      rcases List.mem_append.1 h with h | h
      · exact itL_rng proc lo hi thn _ _ _ _ it h h5 h6 (by omega) (by omega)
      · exact itL_rng proc lo hi els _ _ _ _ it h h5 h6 (by omega) (by omega)
theorem itL_rng (proc : Int) (lo hi : Nat) : ∀ (l : List S) (up nx loop : Int) (n : Nat) (it : Item), it ∈ itL proc up nx loop n l → okI lo hi nx → (loop = 0 ∨ ((lo : Int) + 1 ≤ loop ∧ loop ≤ hi)) → lo ≤ n → n + cntL l ≤ hi →
    okI lo hi it.next ∧ (it.loop = 0 ∨ ((lo : Int) + 1 ≤ it.loop ∧ it.loop ≤ hi))
  | [], up, nx, loop, n, it, h, h1, h2, h3, h4 => by rw [itL] at h; cases h
  | t :: r, up, nx, loop, n, it, h, h1, h2, h3, h4 => by
    rw [itL] at h
    rw [cntL] at h4
    rcases List.mem_append.1 h with h | h
    · refine itS_rng proc lo hi t _ _ _ _ it h ?_ h2 h3 (by omega)
      cases r with
      | nil => exact h1
      | cons u r =>
        have : 1 ≤ cntL (u :: r) := by rw [cntL, cntS_eq]; omega
        exact .inr ⟨by simp; omega, by simp; omega⟩
    · exact itL_rng proc lo hi r _ _ _ _ it h h1 h2 (by omega) (by omega)
end
end Go.Ab
namespace Go.Ab
open Go.Proofs
structure RI where
  s : S
  deep : Int
  inn : Int
  els : Bool
def RI.cells (i : RI) : List AV := i.s.cells ++ [.int .i64 i.deep, .int .i64 i.inn, .bool i.els]
def eRIs (l : List RI) : AV := .sl (l.map fun i => .agg i.cells)
def flF : Nat → Int → Bool → List S → List RI → List RI
  | 0, i, e, l, out => l.foldl (fun o s => if o.length ≤ 200 then o ++ [⟨s, 13, i, e⟩] else o) out
  | m + 1, i, e, l, out => l.foldl (fun o s => if o.length ≤ 200 then flF m s.id true s.els (flF m s.id false s.thn (o ++ [⟨s, 13 - ((m + 1 : Nat) : Int), i, e⟩])) else o) out
theorem flF_len : ∀ (m : Nat) (i : Int) (e : Bool) (l : List S) (out : List RI), out.length ≤ (flF m i e l out).length ∧ (flF m i e l out).length ≤ max out.length 201
  | 0, i, e, [], out => by show out.length ≤ out.length ∧ _; exact ⟨Nat.le_refl _, Nat.le_max_left _ _⟩
  | m + 1, i, e, [], out => by show out.length ≤ out.length ∧ _; exact ⟨Nat.le_refl _, Nat.le_max_left _ _⟩
  | 0, i, e, s :: r, out => by
    have h := flF_len 0 i e r (if out.length ≤ 200 then out ++ [⟨s, 13, i, e⟩] else out)
    show out.length ≤ (flF 0 i e r (if out.length ≤ 200 then out ++ [⟨s, 13, i, e⟩] else out)).length ∧ (flF 0 i e r (if out.length ≤ 200 then out ++ [⟨s, 13, i, e⟩] else out)).length ≤ _
    split at h
    · rw [if_pos (by assumption)]
      simp only [List.length_append, List.length_singleton] at h
      omega
    · rw [if_neg (by assumption)]
      exact h
  | m + 1, i, e, s :: r, out => by
    have h := flF_len (m + 1) i e r (if out.length ≤ 200 then flF m s.id true s.els (flF m s.id false s.thn (out ++ [⟨s, 13 - ((m + 1 : Nat) : Int), i, e⟩])) else out)
    show out.length ≤ (flF (m + 1) i e r (if out.length ≤ 200 then flF m s.id true s.els (flF m s.id false s.thn (out ++ [⟨s, 13 - ((m + 1 : Nat) : Int), i, e⟩])) else out)).length ∧ (flF (m + 1) i e r (if out.length ≤ 200 then flF m s.id true s.els (flF m s.id false s.thn (out ++ [⟨s, 13 - ((m + 1 : Nat) : Int), i, e⟩])) else out)).length ≤ _
    split at h
    · rw [if_pos (by assumption)]
      have h1 := flF_len m s.id false s.thn (out ++ [⟨s, 13 - ((m + 1 : Nat) : Int), i, e⟩])
      have h2 := flF_len m s.id true s.els (flF m s.id false s.thn (out ++ [⟨s, 13 - ((m + 1 : Nat) : Int), i, e⟩]))
      simp only [List.length_append, List.length_singleton] at h1
      omega
    · rw [if_neg (by assumption)]
      exact h
mutual
def fuS (d i : Int) (e : Bool) : S → List RI
  | .mk id kind labels name proc x has args thn els => ⟨.mk id kind labels name proc x has args thn els, d, i, e⟩ :: (fuL (d + 1) id false thn ++ fuL (d + 1) id true els)
def fuL (d i : Int) (e : Bool) : List S → List RI
  | [] => []
  | t :: r => fuS d i e t ++ fuL d i e r
end
theorem fuS_eq (d i : Int) (e : Bool) (t : S) : fuS d i e t = ⟨t, d, i, e⟩ :: (fuL (d + 1) t.id false t.thn ++ fuL (d + 1) t.id true t.els) := by
  cases t
  rw [fuS]
  rfl
mutual
theorem fuS_s (d i : Int) (e : Bool) : ∀ t : S, (fuS d i e t).map RI.s = flS t
  | .mk id kind labels name proc x has args thn els => by
    rw [fuS, flS, List.map_cons, List.map_append, fuL_s _ _ _ thn, fuL_s _ _ _ els]
theorem fuL_s (d i : Int) (e : Bool) : ∀ l : List S, (fuL d i e l).map RI.s = flL l
  | [] => by rw [fuL, flL]; rfl
  | t :: r => by rw [fuL, flL, List.map_append, fuS_s _ _ _ t, fuL_s _ _ _ r]
end
theorem fuL_len (d i : Int) (e : Bool) (l : List S) : (fuL d i e l).length = cntL l := by
  rw [← flL_len, ← fuL_s d i e l, List.length_map]
theorem rowS_parts {nest seen m : Int} {s : S} (h : rowS nest seen s = some m) : oneOk s = true ∧ s.id = seen + 1 ∧ ∃ m1, rowL (nest + 1) (seen + 1) s.thn = some m1 ∧ rowL (nest + 1) m1 s.els = some m := by
  rw [rowS_eq] at h
  split at h
  · cases h
  split at h
  · cases h
  rename_i hid
  cases hn : namesB s.labels <;> rw [hn] at h
  · cases h
  cases hf : fieldsB s <;> rw [hf] at h
  · cases h
  simp only [cond_true] at h
  split at h
  · rename_i m1 h1
    exact ⟨by unfold oneOk; rw [hn, hf]; rfl, by omega, m1, h1, h⟩
  · cases h
theorem rowL_parts {nest seen m : Int} {s : S} {r : List S} (h : rowL nest seen (s :: r) = some m) : nest ≤ 12 ∧ ∃ m1, rowS nest seen s = some m1 ∧ rowL nest m1 r = some m := by
  rw [rowL] at h
  split at h
  · cases h
  rename_i h0
  split at h
  · rename_i m1 h1
    exact ⟨by omega, m1, h1, h⟩
  · cases h
mutual
theorem fuS_ok (d i : Int) (e : Bool) : ∀ (t : S) {n m : Int}, d ≤ 12 → rowS d n t = some m → ∀ x ∈ fuS d i e t, x.deep ≤ 12 ∧ oneOk x.s = true
  | .mk id kind labels name proc x has args thn els, n, m, hd, h, y, hy => by
    obtain ⟨h1, _, m1, h2, h3⟩ := rowS_parts h
    rw [fuS] at hy
    rcases List.mem_cons.1 hy with rfl | hy
    · exact ⟨hd, h1⟩
    · rcases List.mem_append.1 hy with hy | hy
      · exact fuL_ok _ _ _ thn h2 y hy
      · exact fuL_ok _ _ _ els h3 y hy
theorem fuL_ok (d i : Int) (e : Bool) : ∀ (l : List S) {n m : Int}, rowL d n l = some m → ∀ x ∈ fuL d i e l, x.deep ≤ 12 ∧ oneOk x.s = true
  | [], n, m, h, y, hy => by rw [fuL] at hy; cases hy
  | t :: r, n, m, h, y, hy => by
    obtain ⟨h1, m1, h2, h3⟩ := rowL_parts h
    rw [fuL] at hy
    rcases List.mem_append.1 hy with hy | hy
    · exact fuS_ok _ _ _ t h1 h2 y hy
    · exact fuL_ok _ _ _ r h3 y hy
end
theorem flF_eq : ∀ (k : Nat) (l : List S) (i : Int) (e : Bool) (out : List RI) (seen m : Int), rowL (13 - (k : Int)) seen l = some m → out.length + cntL l ≤ 200 → flF k i e l out = out ++ fuL (13 - (k : Int)) i e l := by
  intro k
  induction k with
  | zero =>
    intro l i e out seen m h hl
    cases l with
    | nil => rw [fuL, List.append_nil]; rfl
    | cons s r =>
      have := (rowL_parts h).1
      simp at this
  | succ k ih =>
    intro l
    induction l with
    | nil => intro i e out seen m h hl; rw [fuL, List.append_nil]; rfl
    | cons s r ihr =>
      intro i e out seen m h hl
      obtain ⟨h1, m1, h2, h3⟩ := rowL_parts h
      obtain ⟨_, _, m2, h4, h5⟩ := rowS_parts h2
      have ed : (13 : Int) - ((k + 1 : Nat) : Int) + 1 = 13 - (k : Int) := by omega
      rw [ed] at h4 h5
      rw [cntL, cntS_eq] at hl
      show flF (k + 1) i e r (if out.length ≤ 200 then flF k s.id true s.els (flF k s.id false s.thn (out ++ [⟨s, 13 - ((k + 1 : Nat) : Int), i, e⟩])) else out) = _
      rw [if_pos (by omega), ih s.thn s.id false _ _ _ h4 (by simp; omega), ih s.els s.id true _ _ _ h5 (by simp [fuL_len]; omega), ihr i e _ _ _ h3 (by simp [fuL_len]; omega), fuL, fuS_eq, ed]
      simp
def flatR (f : Pr) : List RI := flF 12 0 false f.body []
def allRF (l : List Pr) (out : List RI) : List RI := l.foldl (fun o f => if o.length ≤ 200 then o ++ flatR f else o) out
def allR (p : Pg) : List RI := allRF p.procs []
def flatU (f : Pr) : List RI := fuL 1 0 false f.body
theorem mayPrs_rows : ∀ (l : List Pr) {n m : Int}, mayPrs n l = some m → ∀ f ∈ l, mayPr f = true ∧ ∃ a b, rowL 1 a f.body = some b
  | [], _, _, _, f, hf => by cases hf
  | g :: r, n, m, h, f, hf => by
    rw [mayPrs] at h
    cases hm : mayPr g <;> rw [hm] at h
    · cases h
    simp only [cond_true] at h
    split at h
    · rename_i m1 h1
      rcases List.mem_cons.1 hf with rfl | hf
      · exact ⟨hm, _, _, h1⟩
      · exact mayPrs_rows r h f hf
    · cases h
theorem mayB_parts {p : Pg} (h : mayB p = true) : p.globals.length ≤ 16 ∧ p.procs.length ≤ 16 ∧ namesB p.globals = true ∧ ∀ f ∈ p.procs, mayPr f = true ∧ ∃ a b, rowL 1 a f.body = some b := by
  unfold mayB at h
  simp only [Bool.and_eq_true, decide_eq_true_eq] at h
  obtain ⟨⟨⟨h1, h2⟩, h3⟩, h4⟩ := h
  refine ⟨h1, h2, h3, ?_⟩
  cases hm : mayPrs 0 p.procs with
  | none => rw [hm] at h4; cases h4
  | some m => exact mayPrs_rows p.procs hm
theorem cntP_mem : ∀ (l : List Pr) (f : Pr), f ∈ l → cntL f.body ≤ cntP l
  | [], f, h => by cases h
  | g :: r, f, h => by
    rw [cntP]
    rcases List.mem_cons.1 h with rfl | h
    · omega
    · have := cntP_mem r f h
      omega
theorem flatR_eq {p : Pg} (h : mayB p = true) {f : Pr} (hf : f ∈ p.procs) : flatR f = flatU f := by
  obtain ⟨_, _, _, h4⟩ := mayB_parts h
  obtain ⟨_, a, b, h5⟩ := h4 f hf
  have h6 := (mayB_cnt h).2.2
  have h7 := cntP_mem _ f hf
  have := flF_eq 12 f.body 0 false [] a b h5 (by simp; omega)
  simpa [flatR, flatU] using this
theorem allRF_eq : ∀ (l : List Pr) (out : List RI), (∀ f ∈ l, flatR f = flatU f) → out.length + cntP l ≤ 200 → allRF l out = out ++ l.flatMap flatU
  | [], out, _, _ => by show out = _; simp
  | f :: r, out, h, hl => by
    rw [cntP] at hl
    show allRF r (if out.length ≤ 200 then out ++ flatR f else out) = _
    have e := fuL_len 1 0 false f.body
    rw [if_pos (by omega), h f List.mem_cons_self, allRF_eq r _ (fun g hg => h g (List.mem_cons_of_mem _ hg)) (by simp only [flatU, List.length_append, e]; omega)]
    simp
theorem allR_eq {p : Pg} (h : mayB p = true) : allR p = p.procs.flatMap flatU := by
  have := allRF_eq p.procs [] (fun f hf => flatR_eq h hf) (by have := (mayB_cnt h).2.2; simpa using this)
  simpa [allR] using this
theorem allU_ok {p : Pg} (h : mayB p = true) : ∀ x ∈ p.procs.flatMap flatU, x.deep ≤ 12 ∧ oneOk x.s = true := by
  intro x hx
  obtain ⟨f, hf, hx⟩ := List.mem_flatMap.1 hx
  obtain ⟨_, _, _, h4⟩ := mayB_parts h
  obtain ⟨_, a, b, h5⟩ := h4 f hf
  exact fuL_ok 1 0 false f.body h5 x hx
theorem mayPrs_allids : ∀ (l : List Pr) {n : Nat} {m : Int}, mayPrs n l = some m → (l.flatMap fun f => flL f.body).map S.id = idsN n (cntP l)
  | [], n, m, _ => by rw [cntP]; rfl
  | g :: r, n, m, h => by
    rw [mayPrs] at h
    cases hm : mayPr g <;> rw [hm] at h
    · cases h
    simp only [cond_true] at h
    split at h
    · rename_i m1 h1
      have h2 := rowL_cnt _ _ g.body h1
      have h' : mayPrs ((n + cntL g.body : Nat) : Int) r = some m := by rw [← h, h2]; rfl
      have h3 := mayPrs_allids r h'
      rw [List.flatMap_cons, List.map_append, rowL_ids 1 g.body h1, h3, cntP, idsN_add]
    · cases h
theorem allU_s (l : List Pr) : (l.flatMap flatU).map RI.s = l.flatMap fun f => flL f.body := by
  induction l with
  | nil => rfl
  | cons f r ih =>
    rw [List.flatMap_cons, List.flatMap_cons, List.map_append, ih]
    congr 1
    exact fuL_s _ _ _ _
theorem allU_len (l : List Pr) : (l.flatMap flatU).length = cntP l := by
  induction l with
  | nil => rfl
  | cons f r ih => rw [List.flatMap_cons, List.length_append, ih, cntP]; congr 1; exact fuL_len _ _ _ _
theorem allU_ids {p : Pg} (h : mayB p = true) {k : Nat} {x : RI} (hk : (p.procs.flatMap flatU)[k]? = some x) : x.s.id = (k : Int) + 1 := by
  unfold mayB at h
  simp only [Bool.and_eq_true, decide_eq_true_eq] at h
  cases hm : mayPrs 0 p.procs with
  | none => rw [hm] at h; cases h.2
  | some m =>
    have h1 := mayPrs_allids p.procs (n := 0) hm
    rw [← allU_s] at h1
    have h2 : (((p.procs.flatMap flatU).map RI.s).map S.id)[k]? = some x.s.id := by simp [hk]
    rw [h1] at h2
    unfold idsN at h2
    have hlt : k < cntP p.procs := by rw [← allU_len]; exact (List.getElem?_eq_some_iff.1 hk).1
    rw [List.getElem?_map, List.getElem?_range' hlt] at h2
    simp at h2
    omega
end Go.Ab
namespace Go.Ab
open Go.Proofs
def riH (t : Nat) (out : List RI) : Heap := [(2000, .own t 16 (out.map fun i => .agg i.cells))]
theorem riH_app {t : Nat} {out : List RI} {x : RI} : riH t (out ++ [x]) = [(2000, .own t 16 ((out.map fun i => .agg i.cells) ++ [.agg x.cells]))] := by simp [riH]
theorem ri_len (l : List RI) : (l.map fun i => AV.agg i.cells).length = l.length := List.length_map _
theorem flF0_yes {i : Int} {e : Bool} {l : List S} {j : Nat} {o : List RI} (hj : j < l.length) (h : o.length ≤ 200) : flF 0 i e (l.drop j) o = flF 0 i e (l.drop (j + 1)) (o ++ [⟨l[j], 13, i, e⟩]) := by
  rw [drop_cons hj]
  show flF 0 i e (l.drop (j + 1)) (if o.length ≤ 200 then _ else _) = _
  rw [if_pos h]
theorem flF_yes {m : Nat} {i : Int} {e : Bool} {l : List S} {j : Nat} {o : List RI} (hj : j < l.length) (h : o.length ≤ 200) : flF (m + 1) i e (l.drop j) o = flF (m + 1) i e (l.drop (j + 1)) (flF m l[j].id true l[j].els (flF m l[j].id false l[j].thn (o ++ [RI.mk l[j] (13 - ((m + 1 : Nat) : Int)) i e]))) := by
  rw [drop_cons hj]
  show flF (m + 1) i e (l.drop (j + 1)) (if o.length ≤ 200 then _ else _) = _
  rw [if_pos h]
theorem flF_full : ∀ (m : Nat) {i : Int} {e : Bool} {l : List S} {o : List RI}, ¬ o.length ≤ 200 → flF m i e l o = o
  | 0, i, e, [], o, _ => rfl
  | m + 1, i, e, [], o, _ => rfl
  | 0, i, e, s :: r, o, h => by
    show flF 0 i e r (if o.length ≤ 200 then _ else o) = o
    rw [if_neg h]
    exact flF_full 0 h
  | m + 1, i, e, s :: r, o, h => by
    show flF (m + 1) i e r (if o.length ≤ 200 then _ else o) = o
    rw [if_neg h]
    exact flF_full (m + 1) h
theorem flF_nil (m : Nat) {i : Int} {e : Bool} {o : List RI} : flF m i e [] o = o := by cases m <;> rfl
set_option maxHeartbeats 4000000 in
set_option maxRecDepth 100000 in
theorem whittlerref3_flat : ∀ (m : Nat) (_ : m ≤ 12) (l : List S) (i : Int) (e : Bool) (out : List RI),
    SpecH Tryz.prog 70 [.p (eSs l), .p (.int .i64 (13 - (m : Int))), .p (.int .i64 i), .p (.bool e), .hd 2000 0 out.length] (riH 52 out)
      (fun r H => r = .hd 2000 0 (flF m i e l out).length ∧ H = riH 52 (flF m i e l out)) := by
  intro m
  induction m with
  | zero =>
    intro _ l i e out
    have hll := S.avs_len l
    refine SpecH.body I_whittlerref3_flat tabOK Tryz.func70 rfl Tryz.call70 (by show 5 ≤ _; decide) ?_
    conv => whnf
    skip
    refine LoopK.inv tabOK (fun x : Nat × List RI => ⟨[(0, .p (eSs l)), (1, .p (.int .i64 (13 - ((0 : Nat) : Int)))), (2, .p (.int .i64 i)), (3, .p (.bool e)), (4, .hd 2000 0 x.2.length), (11, .p (.int .i64 x.1))], riH 52 x.2⟩) (fun x => x.1 ≤ l.length ∧ flF 0 i e (l.drop x.1) x.2 = flF 0 i e l out) (fun x => l.length - x.1) (0, out) (Le.of_eq rfl) ⟨Nat.zero_le _, rfl⟩ ?_
    rintro ⟨j, o⟩ ⟨h2, h3⟩
    simp only at h2 h3 ⊢
    have hol := ri_len o
    rcases Nat.lt_or_ge j l.length with hj | hj
    · conv => whnf
      repeat' (first | ((first | (intro (_ : _ ≤ 9223372036854775807)) | (refine And.intro rfl ?_) | (refine And.intro ⟨by decide, by decide⟩ ?_) | (refine BsK.pure (fun x hx => by rcases List.mem_singleton.1 hx with rfl; rfl) rfl ?_) | (refine IdxK.ss (by omega) ?_) | (refine Wr.i64 (by omega) (by omega) ?_) | (refine AppK.mk (by simp) rfl (by show (o.length+1) * 232 ≤ 140737488355328; omega) (by show o.length+1 ≤ 9223372036854775807; omega) (fun x hx => by rcases List.mem_singleton.1 hx with rfl; exact ⟨rfl, rfl⟩) ?_)); conv => whnf) | (refine Br.dec (fun _ => ?_) (fun _ => ?_) <;> first | (exfalso; omega) | conv => whnf))
      · exact ⟨(j + 1, o ++ [⟨l[j], 13, i, e⟩]), ⟨hj, by rw [← h3, flF0_yes hj (by omega)]⟩, by simp only; omega, Le.of_eq (by simp only [riH_app, List.length_append, List.length_singleton]; rfl)⟩
      · rw [flF_full 0 (by omega)] at h3
        exact ⟨_, .refl _, by rw [← h3]; exact ⟨rfl, rfl⟩⟩
    · conv => whnf
      repeat' (first | (intro (_ : _ ≤ 9223372036854775807); conv => whnf) | (refine Br.dec (fun _ => ?_) (fun _ => ?_) <;> first | (exfalso; omega) | conv => whnf))
      rw [List.drop_eq_nil_of_le hj, flF_nil] at h3
      exact ⟨_, .refl _, by rw [← h3]; exact ⟨rfl, rfl⟩⟩
  | succ m ih =>
    intro hm l i e out
    have hll := S.avs_len l
    refine SpecH.body I_whittlerref3_flat tabOK Tryz.func70 rfl Tryz.call70 (by show 5 ≤ _; decide) ?_
    conv => whnf
    skip
    refine LoopK.inv tabOK (fun x : Nat × List RI => ⟨[(0, .p (eSs l)), (1, .p (.int .i64 (13 - ((m + 1 : Nat) : Int)))), (2, .p (.int .i64 i)), (3, .p (.bool e)), (4, .hd 2000 0 x.2.length), (11, .p (.int .i64 x.1))], riH 52 x.2⟩) (fun x => x.1 ≤ l.length ∧ flF (m + 1) i e (l.drop x.1) x.2 = flF (m + 1) i e l out) (fun x => l.length - x.1) (0, out) (Le.of_eq rfl) ⟨Nat.zero_le _, rfl⟩ ?_
    rintro ⟨j, o⟩ ⟨h2, h3⟩
    simp only at h2 h3 ⊢
    have hol := ri_len o
    rcases Nat.lt_or_ge j l.length with hj | hj
    · conv => whnf
      repeat' (first | ((first | (intro (_ : _ ≤ 9223372036854775807)) | (refine DrawK.auto tabOK mixed (by kernel_rfl) ?_) | (refine And.intro rfl ?_) | (refine And.intro ⟨by decide, by decide⟩ ?_) | (refine BsK.pure (fun x hx => by rcases List.mem_singleton.1 hx with rfl; rfl) rfl ?_) | (refine IdxK.ss (by omega) ?_) | (refine Wr.i64 (by omega) (by omega) ?_) | (refine AppK.mk (by simp) rfl (by show (o.length+1) * 232 ≤ 140737488355328; omega) (by show o.length+1 ≤ 9223372036854775807; omega) (fun x hx => by rcases List.mem_singleton.1 hx with rfl; exact ⟨rfl, rfl⟩) ?_)); conv => whnf) | (refine Br.dec (fun _ => ?_) (fun _ => ?_) <;> first | (exfalso; omega) | conv => whnf))
      · refine CallK.heap [(2000, 2000)] 0 (ArgsH.cons (LSub.refl _) (ArgsH.cons (LSub.p (Sub.int (by omega))) (ArgsH.cons (LSub.refl _) (ArgsH.cons (LSub.p (Sub.ff rfl)) (ArgsH.cons (LSub.of_eq (by rw [List.length_append]; rfl)) ArgsH.nil))))) (by exact BlksH.cons (j := 2000) rfl rfl (CSub.of_eq (by rw [List.map_append]; first | done | rfl)) BlksH.nil) (ih (by omega) l[j].thn l[j].id false (o ++ [RI.mk l[j] (13 - ((m + 1 : Nat) : Int)) i e])) rfl rfl ?_
        rintro l' H' ⟨rfl, rfl⟩
        conv => whnf
        repeat' ((first | (refine DrawK.auto tabOK mixed (by kernel_rfl) ?_) | (refine IdxK.ss (by omega) ?_) | (refine Wr.i64 (by omega) (by omega) ?_)); conv => whnf)
        refine CallK.heap [(2000, 2000)] 0 (ArgsH.cons (LSub.refl _) (ArgsH.cons (LSub.p (Sub.int (by omega))) (ArgsH.cons (LSub.refl _) (ArgsH.cons (LSub.p (Sub.tt rfl)) (ArgsH.cons (LSub.refl _) ArgsH.nil))))) (by exact BlksH.cons (j := 2000) rfl rfl (CSub.refl _) BlksH.nil) (ih (by omega) l[j].els l[j].id true (flF m l[j].id false l[j].thn (o ++ [RI.mk l[j] (13 - ((m + 1 : Nat) : Int)) i e]))) rfl rfl ?_
        rintro l' H' ⟨rfl, rfl⟩
        conv => whnf
        repeat' (refine Wr.i64 (by omega) (by omega) ?_; conv => whnf)
        exact ⟨(j + 1, flF m l[j].id true l[j].els (flF m l[j].id false l[j].thn (o ++ [RI.mk l[j] (13 - ((m + 1 : Nat) : Int)) i e]))), ⟨hj, by rw [← h3, flF_yes hj (by omega)]⟩, by simp only; omega, Le.of_eq rfl⟩
      · rw [flF_full (m + 1) (by omega)] at h3
        exact ⟨_, .refl _, by rw [← h3]; exact ⟨rfl, rfl⟩⟩
    · conv => whnf
      repeat' (first | (intro (_ : _ ≤ 9223372036854775807); conv => whnf) | (refine Br.dec (fun _ => ?_) (fun _ => ?_) <;> first | (exfalso; omega) | conv => whnf))
      rw [List.drop_eq_nil_of_le hj, flF_nil] at h3
      exact ⟨_, .refl _, by rw [← h3]; exact ⟨rfl, rfl⟩⟩
set_option maxRecDepth 100000 in
theorem whittlerref3_Flat (f : Pr) : SpecP Tryz.prog 22 [.agg f.cells] (fun r => r = eRIs (flatR f)) := by
  refine SpecP.body I_whittlerref3_Flat tabOK Tryz.func22 rfl Tryz.call22 (by show 1 ≤ _; decide) ?_
  conv => whnf
  skip
  refine CallK.nil 5 52 16 rfl (.cons rfl (.cons rfl (.cons rfl (.cons rfl (.row .nil))))) ?_
  refine CallK.heap [(2000, 5)] 0 (by repeat' (first | exact ArgsH.nil | refine ArgsH.cons ?_ ?_ | exact LSub.refl _ | exact LSub.p Sub.nils | exact LSub.p (Sub.tt rfl) | exact LSub.p (Sub.ff rfl) | exact LSub.p (Sub.int (by omega)))) (by refine BlksH.cons (j := 5) rfl rfl ?_ ?_; exact CSub.refl _; exact BlksH.nil) (whittlerref3_flat 12 (by omega) f.body 0 false []) rfl rfl ?_
  rintro l' H' ⟨rfl, rfl⟩
  conv => whnf
  exact ⟨_, .hd rfl (by simp [flatR]), rfl⟩
theorem allRF_step {l : List Pr} {j : Nat} {o : List RI} (hj : j < l.length) (h : o.length ≤ 200) : allRF (l.drop j) o = allRF (l.drop (j + 1)) (o ++ flatR l[j]) := by
  rw [drop_cons hj]
  show allRF (l.drop (j + 1)) (if o.length ≤ 200 then _ else _) = _
  rw [if_pos h]
theorem allRF_full : ∀ {l : List Pr} {o : List RI}, ¬ o.length ≤ 200 → allRF l o = o
  | [], o, _ => rfl
  | f :: r, o, h => by
    show allRF r (if o.length ≤ 200 then _ else o) = o
    rw [if_neg h]
    exact allRF_full h
theorem flatR_len (f : Pr) : (flatR f).length ≤ 201 := by
  have := (flF_len 12 0 false f.body []).2
  simpa [flatR] using this
set_option maxHeartbeats 2000000 in
set_option maxRecDepth 100000 in
theorem whittlerref3_All (p : Pg) : SpecP Tryz.prog 115 [.agg p.cells] (fun r => r = eRIs (allR p)) := by
  refine SpecP.body I_whittlerref3_All tabOK Tryz.func115 rfl Tryz.call115 (by show 1 ≤ _; decide) ?_
  conv => whnf
  repeat' (intro (_ : _ ≤ 9223372036854775807); conv => whnf)
  have hl2 : (p.procs.map fun f => AV.agg f.cells).length = p.procs.length := List.length_map _
  refine LoopK.inv tabOK (fun x : Nat × List RI => ⟨[(3, .hd 1 0 x.2.length), (7, .p (.sl (p.procs.map fun f => .agg f.cells))), (8, .p (.int .i64 (p.procs.map fun f => AV.agg f.cells).length)), (9, .p (.int .i64 x.1))], [(1, .own 52 16 (x.2.map fun i => .agg i.cells))]⟩) (fun x => x.1 ≤ p.procs.length ∧ x.2.length ≤ 200 ∧ allRF (p.procs.drop x.1) x.2 = allR p) (fun x => p.procs.length - x.1) (0, [])
    (Le.mk [(1, .own 52 16 [])] (by simp [Chunk.new0]; rfl) (by simp) (by simp) (.cons (.nil List.mem_cons_self) (.cons (.refl _) (.cons (.refl _) (.cons (.refl _) .nil)))) (.new List.mem_cons_self .nil)) ⟨Nat.zero_le _, Nat.zero_le _, rfl⟩ ?_
  rintro ⟨j, o⟩ ⟨h2, h4, h3⟩
  simp only at h2 h3 h4 ⊢
  have hol := ri_len o
  rcases Nat.lt_or_ge j p.procs.length with hj | hj
  · have hfl := flatR_len p.procs[j]
    have hst := fun (h : o.length ≤ 200) => allRF_step hj h
    have hF := whittlerref3_Flat p.procs[j]
    generalize hL : flatR p.procs[j] = L at hfl hst hF
    have hfl2 := ri_len L
    conv => whnf
    repeat' (first | ((first | (intro (_ : _ ≤ 9223372036854775807)) | (refine And.intro rfl ?_) | (refine And.intro ⟨by decide, by decide⟩ ?_) | (refine IdxK.map (by omega) (fun _ => rfl) ?_) | (refine Wr.i64 (by omega) (by omega) ?_) | (refine CallK.pure hF (.cons (Sub.refl _) .nil) ?_; rintro _ rfl) | (refine AppK.mk (by simp) rfl (by rw [hfl2]; show (o.length+L.length) * 232 ≤ 140737488355328; omega) (by rw [hfl2]; show o.length+L.length ≤ 9223372036854775807; omega) (fun x hx => by obtain ⟨y, _, rfl⟩ := List.mem_map.1 hx; exact ⟨rfl, rfl⟩) ?_)); conv => whnf) | (refine Br.dec (fun _ => ?_) (fun _ => ?_) <;> first | (exfalso; omega) | conv => whnf))
    · refine ⟨_, .hd rfl (by simp), ?_⟩
      rw [← h3, hst h4, allRF_full (by simp; omega), ← List.map_append]
      rfl
    · exact ⟨(j + 1, o ++ L), ⟨hj, by simp; omega, by rw [← h3, hst h4]⟩, by simp only; omega, Le.of_eq (by simp only [List.length_append, List.map_append, List.length_map]; rfl)⟩
  · conv => whnf
    repeat' (refine Br.dec (fun _ => ?_) (fun _ => ?_) <;> first | (exfalso; omega) | conv => whnf)
    rw [List.drop_eq_nil_of_le hj] at h3
    refine ⟨_, .hd rfl (by simp), ?_⟩
    rw [← h3]
    simp [eRIs, allRF]
end Go.Ab
namespace Go.Ab
open Go.Proofs
theorem mayR_no {p : Pg} {H : Heap} (h : mayB p = true → False) : RetK H (.p .ff) (fun r => ∃ b, r = .bool b ∧ (mayB p = true → b = true)) := ⟨.bool false, .p (Sub.ff rfl), false, rfl, fun hq => (h hq).elim⟩
structure MayF (p : Pg) : Prop where
  gl : p.globals.length ≤ 16
  pl : p.procs.length ≤ 16
  gn : namesB p.globals = true
  pr : ∀ f ∈ p.procs, f.params.length ≤ 8 ∧ f.vars.length ≤ 16 ∧ isName f.name = true ∧ namesB f.vars = true ∧ namesB f.fin = true ∧ (f.params.all fun a => isName a.name) = true
  len : (allR p).length ≤ 200
  its : ∀ (k : Nat) (x : RI), (allR p)[k]? = some x → x.s.id = (k : Int) + 1 ∧ x.deep ≤ 12 ∧ oneOk x.s = true
theorem may_facts {p : Pg} (h : mayB p = true) : MayF p := by
  obtain ⟨h1, h2, h3, h4⟩ := mayB_parts h
  refine ⟨h1, h2, h3, fun f hf => mayPr_iff.1 (h4 f hf).1, ?_, fun k x hk => ?_⟩
  · rw [allR_eq h, allU_len]
    exact (mayB_cnt h).2.2
  · rw [allR_eq h] at hk
    exact ⟨allU_ids h hk, allU_ok h x (List.mem_of_getElem? hk)⟩
set_option maxHeartbeats 4000000 in
set_option maxRecDepth 100000 in
theorem whittlerref3_May (p : Pg) : SpecP Tryz.prog 67 [.agg p.cells] (fun r => ∃ b, r = .bool b ∧ (mayB p = true → b = true)) := by
  refine SpecP.body I_whittlerref3_May tabOK Tryz.func67 rfl Tryz.call67 (by show 1 ≤ _; decide) ?_
  conv => whnf
  have hgl : (p.globals.map AV.str).length = p.globals.length := List.length_map _
  have hpl : (p.procs.map fun f => AV.agg f.cells).length = p.procs.length := List.length_map _
  repeat' (first | ((first | (intro (_ : _ ≤ 9223372036854775807)) | (refine CallK.pure (whittlerref3_names _) (by repeat' (first | exact ArgP.nil | refine ArgP.cons ?_ ?_ | exact Sub.refl _ | exact Sub.tt rfl | exact Sub.ff rfl)) ?_; rintro _ rfl)); conv => whnf) | (refine Br.dec (fun _ => ?_) (fun _ => ?_) <;> first | (exfalso; omega) | conv => whnf) | (refine Br.n (fun _ => ?_) (fun _ => ?_) <;> conv => whnf))
  all_goals first
    | (refine mayR_no fun h => ?_
       have F := may_facts h
       have F1 := F.gl
       have F2 := F.pl
       have F3 := F.gn
       first
         | omega
         | (simp_all; done))
    | skip
  refine LoopK.inv tabOK (fun j : Nat => ⟨[(1, .p (.ip p.cells)), (26, .p (.sl (p.procs.map fun f => .agg f.cells))), (27, .p (.int .i64 (p.procs.map fun f => AV.agg f.cells).length)), (28, .p (.int .i64 j))], []⟩) (fun j => j ≤ p.procs.length) (fun j => p.procs.length - j) 0 (Le.of_eq rfl) (Nat.zero_le _) ?_
  intro j h2
  rcases Nat.lt_or_ge j p.procs.length with hj | hj
  · have hpm : (p.procs[j].params.map fun a => AV.agg a.cells).length = p.procs[j].params.length := List.length_map _
    have hvs : (p.procs[j].vars.map AV.str).length = p.procs[j].vars.length := List.length_map _
    conv => whnf
    repeat' (first | ((first | (intro (_ : _ ≤ 9223372036854775807)) | (refine CallK.pure (whittlerref3_names _) (by repeat' (first | exact ArgP.nil | refine ArgP.cons ?_ ?_ | exact Sub.refl _ | exact Sub.tt rfl | exact Sub.ff rfl)) ?_; rintro _ rfl) | (refine CallK.pure (whittlerref1_Name _) (by repeat' (first | exact ArgP.nil | refine ArgP.cons ?_ ?_ | exact Sub.refl _ | exact Sub.tt rfl | exact Sub.ff rfl)) ?_; rintro _ rfl) | (refine And.intro rfl ?_) | (refine IdxK.map (by omega) (fun _ => rfl) ?_)); conv => whnf) | (refine Br.dec (fun _ => ?_) (fun _ => ?_) <;> first | (exfalso; omega) | conv => whnf) | (refine Br.n (fun _ => ?_) (fun _ => ?_) <;> conv => whnf))
    all_goals first
      | (refine mayR_no fun h => ?_
         obtain ⟨F1, F2, F3, F4, F5, F6⟩ := (may_facts h).pr _ (List.getElem_mem hj)
         first
           | omega
           | (simp_all; done))
      | skip
    refine LoopK.inv tabOK (fun k : Nat => ⟨[(1, .p (.ip p.cells)), (26, .p (.sl (p.procs.map fun f => .agg f.cells))), (27, .p (.int .i64 (p.procs.map fun f => AV.agg f.cells).length)), (28, .p (.int .i64 j)), (61, .p (.sl (p.procs[j].params.map fun a => .agg a.cells))), (62, .p (.int .i64 (p.procs[j].params.map fun a => AV.agg a.cells).length)), (63, .p (.int .i64 k))], []⟩) (fun k => k ≤ p.procs[j].params.length) (fun k => p.procs[j].params.length - k) 0 (Le.of_eq rfl) (Nat.zero_le _) ?_
    intro k h3
    rcases Nat.lt_or_ge k p.procs[j].params.length with hk | hk
    · conv => whnf
      repeat' (first | ((first | (refine CallK.pure (whittlerref1_Name _) (by repeat' (first | exact ArgP.nil | refine ArgP.cons ?_ ?_ | exact Sub.refl _ | exact Sub.tt rfl | exact Sub.ff rfl)) ?_; rintro _ rfl) | (refine And.intro rfl ?_) | (refine IdxK.map (by omega) (fun _ => rfl) ?_) | (refine Wr.i64 (by omega) (by omega) ?_)); conv => whnf) | (refine Br.dec (fun _ => ?_) (fun _ => ?_) <;> first | (exfalso; omega) | conv => whnf) | (refine Br.n (fun _ => ?_) (fun _ => ?_) <;> conv => whnf))
      · exact ⟨k + 1, hk, by omega, Le.of_eq rfl⟩
      · refine mayR_no fun h => ?_
        have h4 := List.all_eq_true.1 ((may_facts h).pr _ (List.getElem_mem hj)).2.2.2.2.2 _ (List.getElem_mem hk)
        simp_all
    · conv => whnf
      repeat' (first | (refine Wr.i64 (by omega) (by omega) ?_; conv => whnf) | (refine Br.dec (fun _ => ?_) (fun _ => ?_) <;> first | (exfalso; omega) | conv => whnf))
      exact ⟨j + 1, hj, by omega, Le.of_eq rfl⟩
  · conv => whnf
    have hrl := ri_len (allR p)
    repeat' (first | ((first | (intro (_ : _ ≤ 9223372036854775807)) | (refine CallK.pure (whittlerref3_All _) (by repeat' (first | exact ArgP.nil | refine ArgP.cons ?_ ?_ | exact Sub.refl _ | exact Sub.tt rfl | exact Sub.ff rfl)) ?_; rintro _ rfl)); conv => whnf) | (refine Br.dec (fun _ => ?_) (fun _ => ?_) <;> first | (exfalso; omega) | conv => whnf))
    · refine mayR_no fun h => ?_
      have := (may_facts h).len
      omega
    refine LoopK.inv tabOK (fun k : Nat => ⟨[(7, .p (eRIs (allR p))), (79, .p (.int .i64 ((allR p).map fun i => AV.agg i.cells).length)), (80, .p (.int .i64 k))], []⟩) (fun k => k ≤ (allR p).length) (fun k => (allR p).length - k) 0 (Le.of_eq rfl) (Nat.zero_le _) ?_
    intro k h3
    rcases Nat.lt_or_ge k (allR p).length with hk | hk
    · conv => whnf
      have F := fun h : mayB p = true => (may_facts h).its k _ (List.getElem?_eq_getElem hk)
      repeat' (first | ((first | (refine IdxK.map (by omega) (fun _ => rfl) ?_) | (refine Wr.i64 (by omega) (by omega) ?_) | (refine CallK.pure (whittlerref3_one (allR p)[k].s) (.cons (Sub.refl _) .nil) ?_; rintro _ ⟨b, rfl, hb⟩)); conv => whnf) | (refine Br.dec (fun _ => ?_) (fun _ => ?_) <;> first | (exfalso; omega) | conv => whnf) | (refine Br.dec2 (fun _ => ?_) (fun _ => ?_) <;> first | (exfalso; omega) | conv => whnf) | (refine Br.n (fun _ => ?_) (fun _ => ?_) <;> conv => whnf))
      all_goals first
        | exact ⟨k + 1, hk, by omega, Le.of_eq rfl⟩
        | (refine mayR_no fun h => ?_
           obtain ⟨F1, F2, F3⟩ := F h
           first
             | omega
             | (have := hb F3
                simp_all
                done))
    · conv => whnf
      repeat' (refine Br.dec (fun _ => ?_) (fun _ => ?_) <;> first | (exfalso; omega) | conv => whnf)
      exact ⟨_, .p (Sub.tt rfl), true, rfl, fun _ => rfl⟩
def Pr0 : Pr := ⟨[], [], [], [], []⟩
def procR (p : Pg) (n : Str) : Pr × Bool := match p.procs.find? (fun f => f.name == n) with
  | some f => (f, true)
  | none => (Pr0, false)
theorem sub_Pr0 : Sub (.agg [.str [], .nils, .nils, .nils, .nils]) (.agg Pr0.cells) := Sub.agg (SubL.cons (Sub.refl _) (SubL.cons Sub.nils (SubL.cons Sub.nils (SubL.cons Sub.nils (SubL.cons Sub.nils SubL.nil)))))
def procAns (p : Pg) (n : Str) (r : AV) : Prop := ∃ (q : Pr) (b : Bool), r = .tup [.agg q.cells, .bool b] ∧ (mayB p = true → procR p n = (q, b))
set_option maxHeartbeats 4000000 in
set_option maxRecDepth 100000 in
theorem whittlerref6_Proc (p : Pg) (n : Str) : SpecP Tryz.prog 18 [.agg p.cells, .str n] (fun r => procAns p n r) := by
  refine SpecP.body I_whittlerref6_Proc tabOK Tryz.func18 rfl Tryz.call18 (by show 2 ≤ _; decide) ?_
  conv => whnf
  have hpl : (p.procs.map fun f => AV.agg f.cells).length = p.procs.length := List.length_map _
  repeat' (first | ((first | (intro (_ : _ ≤ 9223372036854775807)) | (refine And.intro rfl ?_) | (refine CallK.pure (whittlerref3_May p) (.cons (Sub.refl _) .nil) ?_; rintro _ ⟨b, rfl, hb⟩)); conv => whnf) | (refine Br.b (fun _ => ?_) (fun _ => ?_) <;> conv => whnf))
  · have hb' := hb
    refine LoopK.inv tabOK (fun j : Nat => ⟨[(1, .p (.str n)), (4, .ptr 1 0), (11, .p (.sl (p.procs.map fun f => .agg f.cells))), (12, .p (.int .i64 (p.procs.map fun f => AV.agg f.cells).length)), (13, .p (.int .i64 j))], [(1, .obj 33 [.p (.str []), .p .nils, .p .nils, .p .nils, .p .nils])]⟩) (fun j => j ≤ p.procs.length ∧ (p.procs.drop j).find? (fun f => f.name == n) = p.procs.find? (fun f => f.name == n)) (fun j => p.procs.length - j) 0 (Le.of_eq rfl) ⟨Nat.zero_le _, rfl⟩ ?_
    rintro j ⟨h2, h3⟩
    rcases Nat.lt_or_ge j p.procs.length with hj | hj
    · rw [drop_cons hj, List.find?_cons] at h3
      conv => whnf
      repeat' (first | ((first | (refine And.intro rfl ?_) | (refine IdxK.map (by omega) (fun _ => rfl) ?_) | (refine Wr.i64 (by omega) (by omega) ?_)); conv => whnf) | (refine Br.dec (fun _ => ?_) (fun _ => ?_) <;> first | (exfalso; omega) | conv => whnf) | (refine Br.b (fun _ => ?_) (fun _ => ?_) <;> conv => whnf))
      · have hn : (p.procs[j].name == n) = true := by assumption
        rw [hn] at h3
        exact ⟨_, .p (Sub.tup (SubL.cons (Sub.refl _) (SubL.cons (Sub.tt rfl) SubL.nil))), p.procs[j], true, rfl, fun _ => by unfold procR; rw [← h3]⟩
      · have hn : (p.procs[j].name == n) = false := by assumption
        rw [hn] at h3
        exact ⟨j + 1, ⟨hj, h3⟩, by omega, Le.of_eq rfl⟩
    · rw [List.drop_eq_nil_of_le hj, List.find?_nil] at h3
      conv => whnf
      repeat' (first | (refine And.intro rfl ?_; conv => whnf) | (refine Br.dec (fun _ => ?_) (fun _ => ?_) <;> first | (exfalso; omega) | conv => whnf))
      exact ⟨_, .p (Sub.tup (SubL.cons sub_Pr0 (SubL.cons (Sub.ff rfl) SubL.nil))), Pr0, false, rfl, fun _ => by unfold procR; rw [← h3]⟩
  · exact ⟨_, .p (Sub.tup (SubL.cons sub_Pr0 (SubL.cons (Sub.ff rfl) SubL.nil))), Pr0, false, rfl, fun h => by have := hb h; simp_all⟩
end Go.Ab
