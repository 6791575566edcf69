/- The reference's programs that may be; a procedure by its name. -/
import Derived.Laws.StructEq
import Derived.ChangeKeysEq
import Derived.Test.YtabdfngdamikiaaGreatAugE7
import Derived.Test.YtabdfngdamikiaaGreatAugE12
import Derived.Test.YtabdfngdamikiaaGreatAugE13
import Derived.Test.YtabdfngdamikiaaGreatAugE14
set_option linter.unusedSimpArgs false
set_option linter.unusedVariables false
namespace Go.Ab
open Go.Proofs
theorem mayR_no {p : Pg} {H : Heap} (h : mayB p = true → False) : RetK H (.p .ff) (fun r => ∃ b, r = .bool b ∧ (mayB p = true → b = true)) := ⟨.bool false, .p (Sub.ff rfl), false, rfl, fun hq => (h hq).elim⟩
structure MayF (p : Pg) : Prop where
  gl : p.globals.length ≤ 16
  pl : p.procs.length ≤ 16
  gn : namesB p.globals = true
  pr : ∀ f ∈ p.procs, f.params.length ≤ 8 ∧ f.vars.length ≤ 16 ∧ isName f.name = true ∧ namesB f.vars = true ∧ namesB f.fin = true ∧ (f.params.all fun a => isName a.name) = true
  len : (allR p).length ≤ 200
  its : ∀ (k : Nat) (x : RI), (allR p)[k]? = some x → x.s.id = (k : Int) + 1 ∧ x.deep ≤ 12 ∧ oneOk x.s = true
theorem may_facts {p : Pg} (h : mayB p = true) : MayF p := by
  obtain ⟨h1, h2, h3, h4⟩ := mayB_parts h
  refine ⟨h1, h2, h3, fun f hf => mayPr_iff.1 (h4 f hf).1, ?_, fun k x hk => ?_⟩
  · rw [allR_eq h, allU_len]
    exact (mayB_cnt h).2.2
  · rw [allR_eq h] at hk
    exact ⟨allU_ids h hk, allU_ok h x (List.mem_of_getElem? hk)⟩
set_option maxHeartbeats 4000000 in
set_option maxRecDepth 100000 in
theorem whittlerref3_May (p : Pg) : SpecP Tryz.prog 67 [.agg p.cells] (fun r => ∃ b, r = .bool b ∧ (mayB p = true → b = true)) := by
  refine SpecP.body I_whittlerref3_May tabOK Tryz.func67 rfl Tryz.call67 (by show 1 ≤ _; decide) ?_
  conv => whnf
  have hgl : (p.globals.map AV.str).length = p.globals.length := List.length_map _
  have hpl : (p.procs.map fun f => AV.agg f.cells).length = p.procs.length := List.length_map _
  repeat' (first | ((first | (intro (_ : _ ≤ 9223372036854775807)) | (refine CallK.pure (whittlerref3_names _) (by repeat' (first | exact ArgP.nil | refine ArgP.cons ?_ ?_ | exact Sub.refl _ | exact Sub.tt rfl | exact Sub.ff rfl)) ?_; rintro _ rfl)); conv => whnf) | (refine Br.dec (fun _ => ?_) (fun _ => ?_) <;> first | (exfalso; omega) | conv => whnf) | (refine Br.n (fun _ => ?_) (fun _ => ?_) <;> conv => whnf))
  all_goals first
    | (refine mayR_no fun h => ?_
       have F := may_facts h
       have F1 := F.gl
       have F2 := F.pl
       have F3 := F.gn
       first
         | omega
         | (simp_all; done))
    | skip
  refine LoopK.inv tabOK (fun j : Nat => ⟨[(1, .p (.ip p.cells)), (26, .p (.sl (p.procs.map fun f => .agg f.cells))), (27, .p (.int .i64 (p.procs.map fun f => AV.agg f.cells).length)), (28, .p (.int .i64 j))], []⟩) (fun j => j ≤ p.procs.length) (fun j => p.procs.length - j) 0 (Le.of_eq rfl) (Nat.zero_le _) ?_
  intro j h2
  rcases Nat.lt_or_ge j p.procs.length with hj | hj
  · have hpm : (p.procs[j].params.map fun a => AV.agg a.cells).length = p.procs[j].params.length := List.length_map _
    have hvs : (p.procs[j].vars.map AV.str).length = p.procs[j].vars.length := List.length_map _
    conv => whnf
    repeat' (first | ((first | (intro (_ : _ ≤ 9223372036854775807)) | (refine CallK.pure (whittlerref3_names _) (by repeat' (first | exact ArgP.nil | refine ArgP.cons ?_ ?_ | exact Sub.refl _ | exact Sub.tt rfl | exact Sub.ff rfl)) ?_; rintro _ rfl) | (refine CallK.pure (whittlerref1_Name _) (by repeat' (first | exact ArgP.nil | refine ArgP.cons ?_ ?_ | exact Sub.refl _ | exact Sub.tt rfl | exact Sub.ff rfl)) ?_; rintro _ rfl) | (refine And.intro rfl ?_) | (refine IdxK.map (by omega) (fun _ => rfl) ?_)); conv => whnf) | (refine Br.dec (fun _ => ?_) (fun _ => ?_) <;> first | (exfalso; omega) | conv => whnf) | (refine Br.n (fun _ => ?_) (fun _ => ?_) <;> conv => whnf))
    all_goals first
      | (refine mayR_no fun h => ?_
         obtain ⟨F1, F2, F3, F4, F5, F6⟩ := (may_facts h).pr _ (List.getElem_mem hj)
         first
           | omega
           | (simp_all; done))
      | skip
    refine LoopK.inv tabOK (fun k : Nat => ⟨[(1, .p (.ip p.cells)), (26, .p (.sl (p.procs.map fun f => .agg f.cells))), (27, .p (.int .i64 (p.procs.map fun f => AV.agg f.cells).length)), (28, .p (.int .i64 j)), (61, .p (.sl (p.procs[j].params.map fun a => .agg a.cells))), (62, .p (.int .i64 (p.procs[j].params.map fun a => AV.agg a.cells).length)), (63, .p (.int .i64 k))], []⟩) (fun k => k ≤ p.procs[j].params.length) (fun k => p.procs[j].params.length - k) 0 (Le.of_eq rfl) (Nat.zero_le _) ?_
    intro k h3
    rcases Nat.lt_or_ge k p.procs[j].params.length with hk | hk
    · conv => whnf
      repeat' (first | ((first | (refine CallK.pure (whittlerref1_Name _) (by repeat' (first | exact ArgP.nil | refine ArgP.cons ?_ ?_ | exact Sub.refl _ | exact Sub.tt rfl | exact Sub.ff rfl)) ?_; rintro _ rfl) | (refine And.intro rfl ?_) | (refine IdxK.map (by omega) (fun _ => rfl) ?_) | (refine Wr.i64 (by omega) (by omega) ?_)); conv => whnf) | (refine Br.dec (fun _ => ?_) (fun _ => ?_) <;> first | (exfalso; omega) | conv => whnf) | (refine Br.n (fun _ => ?_) (fun _ => ?_) <;> conv => whnf))
      · exact ⟨k + 1, hk, by omega, Le.of_eq rfl⟩
      · refine mayR_no fun h => ?_
        have h4 := List.all_eq_true.1 ((may_facts h).pr _ (List.getElem_mem hj)).2.2.2.2.2 _ (List.getElem_mem hk)
        simp_all
    · conv => whnf
      repeat' (first | (refine Wr.i64 (by omega) (by omega) ?_; conv => whnf) | (refine Br.dec (fun _ => ?_) (fun _ => ?_) <;> first | (exfalso; omega) | conv => whnf))
      exact ⟨j + 1, hj, by omega, Le.of_eq rfl⟩
  · conv => whnf
    have hrl := ri_len (allR p)
    repeat' (first | ((first | (intro (_ : _ ≤ 9223372036854775807)) | (refine CallK.pure (whittlerref3_All _) (by repeat' (first | exact ArgP.nil | refine ArgP.cons ?_ ?_ | exact Sub.refl _ | exact Sub.tt rfl | exact Sub.ff rfl)) ?_; rintro _ rfl)); conv => whnf) | (refine Br.dec (fun _ => ?_) (fun _ => ?_) <;> first | (exfalso; omega) | conv => whnf))
    · refine mayR_no fun h => ?_
      have := (may_facts h).len
      omega
    refine LoopK.inv tabOK (fun k : Nat => ⟨[(7, .p (eRIs (allR p))), (79, .p (.int .i64 ((allR p).map fun i => AV.agg i.cells).length)), (80, .p (.int .i64 k))], []⟩) (fun k => k ≤ (allR p).length) (fun k => (allR p).length - k) 0 (Le.of_eq rfl) (Nat.zero_le _) ?_
    intro k h3
    rcases Nat.lt_or_ge k (allR p).length with hk | hk
    · conv => whnf
      have F := fun h : mayB p = true => (may_facts h).its k _ (List.getElem?_eq_getElem hk)
      repeat' (first | ((first | (refine IdxK.map (by omega) (fun _ => rfl) ?_) | (refine Wr.i64 (by omega) (by omega) ?_) | (refine CallK.pure (whittlerref3_one (allR p)[k].s) (.cons (Sub.refl _) .nil) ?_; rintro _ ⟨b, rfl, hb⟩)); conv => whnf) | (refine Br.dec (fun _ => ?_) (fun _ => ?_) <;> first | (exfalso; omega) | conv => whnf) | (refine Br.dec2 (fun _ => ?_) (fun _ => ?_) <;> first | (exfalso; omega) | conv => whnf) | (refine Br.n (fun _ => ?_) (fun _ => ?_) <;> conv => whnf))
      all_goals first
        | exact ⟨k + 1, hk, by omega, Le.of_eq rfl⟩
        | (refine mayR_no fun h => ?_
           obtain ⟨F1, F2, F3⟩ := F h
           first
             | omega
             | (have := hb F3
                simp_all
                done))
    · conv => whnf
      repeat' (refine Br.dec (fun _ => ?_) (fun _ => ?_) <;> first | (exfalso; omega) | conv => whnf)
      exact ⟨_, .p (Sub.tt rfl), true, rfl, fun _ => rfl⟩
def Pr0 : Pr := ⟨[], [], [], [], []⟩
def procR (p : Pg) (n : Str) : Pr × Bool := match p.procs.find? (fun f => f.name == n) with
  | some f => (f, true)
  | none => (Pr0, false)
theorem sub_Pr0 : Sub (.agg [.str [], .nils, .nils, .nils, .nils]) (.agg Pr0.cells) := Sub.agg (SubL.cons (Sub.refl _) (SubL.cons Sub.nils (SubL.cons Sub.nils (SubL.cons Sub.nils (SubL.cons Sub.nils SubL.nil)))))
def procAns (p : Pg) (n : Str) (r : AV) : Prop := ∃ (q : Pr) (b : Bool), r = .tup [.agg q.cells, .bool b] ∧ (mayB p = true → procR p n = (q, b))
set_option maxHeartbeats 4000000 in
set_option maxRecDepth 100000 in
theorem whittlerref6_Proc (p : Pg) (n : Str) : SpecP Tryz.prog 18 [.agg p.cells, .str n] (fun r => procAns p n r) := by
  refine SpecP.body I_whittlerref6_Proc tabOK Tryz.func18 rfl Tryz.call18 (by show 2 ≤ _; decide) ?_
  conv => whnf
  have hpl : (p.procs.map fun f => AV.agg f.cells).length = p.procs.length := List.length_map _
  repeat' (first | ((first | (intro (_ : _ ≤ 9223372036854775807)) | (refine And.intro rfl ?_) | (refine CallK.pure (whittlerref3_May p) (.cons (Sub.refl _) .nil) ?_; rintro _ ⟨b, rfl, hb⟩)); conv => whnf) | (refine Br.b (fun _ => ?_) (fun _ => ?_) <;> conv => whnf))
  · have hb' := hb
    refine LoopK.inv tabOK (fun j : Nat => ⟨[(1, .p (.str n)), (4, .ptr 1 0), (11, .p (.sl (p.procs.map fun f => .agg f.cells))), (12, .p (.int .i64 (p.procs.map fun f => AV.agg f.cells).length)), (13, .p (.int .i64 j))], [(1, .obj 33 [.p (.str []), .p .nils, .p .nils, .p .nils, .p .nils])]⟩) (fun j => j ≤ p.procs.length ∧ (p.procs.drop j).find? (fun f => f.name == n) = p.procs.find? (fun f => f.name == n)) (fun j => p.procs.length - j) 0 (Le.of_eq rfl) ⟨Nat.zero_le _, rfl⟩ ?_
    rintro j ⟨h2, h3⟩
    rcases Nat.lt_or_ge j p.procs.length with hj | hj
    · rw [drop_cons hj, List.find?_cons] at h3
      conv => whnf
      repeat' (first | ((first | (refine And.intro rfl ?_) | (refine IdxK.map (by omega) (fun _ => rfl) ?_) | (refine Wr.i64 (by omega) (by omega) ?_)); conv => whnf) | (refine Br.dec (fun _ => ?_) (fun _ => ?_) <;> first | (exfalso; omega) | conv => whnf) | (refine Br.b (fun _ => ?_) (fun _ => ?_) <;> conv => whnf))
      · have hn : (p.procs[j].name == n) = true := by assumption
        rw [hn] at h3
        exact ⟨_, .p (Sub.tup (SubL.cons (Sub.refl _) (SubL.cons (Sub.tt rfl) SubL.nil))), p.procs[j], true, rfl, fun _ => by unfold procR; rw [← h3]⟩
      · have hn : (p.procs[j].name == n) = false := by assumption
        rw [hn] at h3
        exact ⟨j + 1, ⟨hj, h3⟩, by omega, Le.of_eq rfl⟩
    · rw [List.drop_eq_nil_of_le hj, List.find?_nil] at h3
      conv => whnf
      repeat' (first | (refine And.intro rfl ?_; conv => whnf) | (refine Br.dec (fun _ => ?_) (fun _ => ?_) <;> first | (exfalso; omega) | conv => whnf))
      exact ⟨_, .p (Sub.tup (SubL.cons sub_Pr0 (SubL.cons (Sub.ff rfl) SubL.nil))), Pr0, false, rfl, fun _ => by unfold procR; rw [← h3]⟩
  · exact ⟨_, .p (Sub.tup (SubL.cons sub_Pr0 (SubL.cons (Sub.ff rfl) SubL.nil))), Pr0, false, rfl, fun h => by have := hb h; simp_all⟩
end Go.Ab
namespace Go.Ab
open Go.Proofs
def satI (x : Int) : Int := if x > 20000 then 20001 else x
theorem satI_sat {a b : Int} (hb : 0 ≤ b) : satI (satI a + b) = satI (a + b) := by
  unfold satI
  split <;> split <;> (try split) <;> omega
theorem satI_rng {a : Int} (h : 0 ≤ a) : 0 ≤ satI a ∧ satI a ≤ 20001 := by
  unfold satI
  split <;> omega
theorem satI_id {a : Int} (h : a ≤ 20001) : satI a = a := by
  unfold satI
  split <;> omega
theorem satI_full {a b : Int} (h : a > 20000) (h1 : a ≤ 20001) (hb : 0 ≤ b) : a = satI (a + b) := by
  unfold satI
  split <;> omega
set_option maxRecDepth 100000 in
theorem whittlerref3_weighText (s : Str) (n : Int) (hn : 0 ≤ n ∧ n ≤ 20001) : SpecP Tryz.prog 63 [.str s, .int .i64 n] (fun r => r = .int .i64 (satI (n + (1 + s.length : Nat)))) := by
  refine SpecP.body I_whittlerref3_weighText tabOK Tryz.func63 rfl Tryz.call63 (by show 2 ≤ _; decide) ?_
  conv => whnf
  repeat' (first | ((first | (intro (_ : _ ≤ 9223372036854775807)) | (refine Wr.i64 (by omega) (by omega) ?_)); conv => whnf) | (refine Br.dec (fun _ => ?_) (fun _ => ?_) <;> first | (exfalso; omega) | conv => whnf))
  all_goals exact RetK.int (by unfold satI; (repeat' split) <;> omega)
set_option maxHeartbeats 1000000 in
set_option maxRecDepth 100000 in
theorem whittlerref3_weighTexts (l : List Str) (n : Int) (hn : 0 ≤ n ∧ n ≤ 20001) : SpecP Tryz.prog 62 [eStrs l, .int .i64 n] (fun r => r = .int .i64 (satI (n + wTxs l))) := by
  refine SpecP.body I_whittlerref3_weighTexts tabOK Tryz.func62 rfl Tryz.call62 (by show 2 ≤ _; decide) ?_
  conv => whnf
  skip
  have hl : (l.map AV.str).length = l.length := List.length_map _
  refine LoopK.inv tabOK (fun x : Nat × Int => ⟨[(0, .p (eStrs l)), (1, .p (.int .i64 x.2)), (5, .p (.int .i64 x.1))], []⟩) (fun x => x.1 ≤ l.length ∧ (0 ≤ x.2 ∧ x.2 ≤ 20001) ∧ satI (x.2 + wTxs (l.drop x.1)) = satI (n + wTxs l)) (fun x => l.length - x.1) (0, n) (Le.of_eq rfl) ⟨Nat.zero_le _, hn, rfl⟩ ?_
  rintro ⟨j, m⟩ ⟨h2, h3, h4⟩
  simp only at h2 h3 h4 ⊢
  rcases Nat.lt_or_ge j l.length with hj | hj
  · rw [List.drop_eq_getElem_cons hj, wTxs] at h4
    conv => whnf
    repeat' (first | ((first | (intro (_ : _ ≤ 9223372036854775807)) | (refine CallK.pure (whittlerref3_weighText _ _ h3) (by repeat' (first | exact ArgP.nil | refine ArgP.cons ?_ ?_ | exact Sub.refl _ | exact Sub.tt rfl | exact Sub.ff rfl | exact Sub.int (by omega))) ?_; rintro _ rfl) | (refine IdxK.map (by omega) (fun _ => rfl) ?_) | (refine Wr.i64 (by omega) (by omega) ?_)); conv => whnf) | (refine Br.dec (fun _ => ?_) (fun _ => ?_) <;> first | (exfalso; omega) | conv => whnf))
    · have h5 : satI (satI (m + (1 + l[j].length : Nat)) + wTxs (l.drop (j + 1))) = satI (n + wTxs l) := by
        rw [satI_sat (by omega), ← h4]
        congr 1
        omega
      exact ⟨(j + 1, satI (m + (1 + l[j].length : Nat))), ⟨by simp only; omega, satI_rng (by omega), h5⟩, by simp only; omega, Le.of_eq rfl⟩
    · exact RetK.int (by rw [← h4]; exact satI_full (by omega) h3.2 (by omega))
  · rw [List.drop_eq_nil_of_le hj, wTxs] at h4
    conv => whnf
    repeat' (first | (intro (_ : _ ≤ 9223372036854775807); conv => whnf) | (refine Br.dec (fun _ => ?_) (fun _ => ?_) <;> first | (exfalso; omega) | conv => whnf))
    exact RetK.int (by rw [← h4, satI_id (by omega)]; simp)
set_option maxHeartbeats 2000000 in
set_option maxRecDepth 100000 in
theorem whittlerref3_weighExpr : ∀ (k : Nat) (x : X) (_ : wX x < k) (n : Int) (_ : 0 ≤ n ∧ n ≤ 20001), SpecP Tryz.prog 111 [.agg x.cells, .int .i64 n] (fun r => r = .int .i64 (satI (n + wX x))) := by
  intro k
  induction k with
  | zero => intro x h; omega
  | succ k ih =>
    intro x hx n hn
    have hxe : wX x = 1 + x.name.length + wXs x.kids := by cases x; rw [wX]; rfl
    have hkl := X.avs_len x.kids
    refine SpecP.body I_whittlerref3_weighExpr tabOK Tryz.func111 rfl Tryz.call111 (by show 2 ≤ _; decide) ?_
    conv => whnf
    repeat' (refine CallK.pure (whittlerref3_weighText _ _ hn) (by repeat' (first | exact ArgP.nil | refine ArgP.cons ?_ ?_ | exact Sub.refl _ | exact Sub.tt rfl | exact Sub.ff rfl | exact Sub.int (by omega))) ?_; rintro _ rfl; conv => whnf)
    refine LoopK.inv tabOK (fun y : Nat × Int => ⟨[(1, .p (.int .i64 y.2)), (2, .p (.ip x.cells)), (5, .p (.int .i64 y.1))], []⟩) (fun y => y.1 ≤ x.kids.length ∧ (0 ≤ y.2 ∧ y.2 ≤ 20001) ∧ satI (y.2 + wXs (x.kids.drop y.1)) = satI (n + wX x)) (fun y => x.kids.length - y.1) (0, satI (n + (1 + x.name.length : Nat))) (Le.of_eq rfl) ⟨Nat.zero_le _, satI_rng (by omega), by
      show satI (satI (n + (1 + x.name.length : Nat)) + wXs x.kids) = _
      rw [satI_sat (by omega), hxe]
      congr 1
      omega⟩ ?_
    rintro ⟨j, m⟩ ⟨h2, h3, h4⟩
    simp only at h2 h3 h4 ⊢
    rcases Nat.lt_or_ge j x.kids.length with hj | hj
    · rw [List.drop_eq_getElem_cons hj, wXs] at h4
      have hkw : wX x.kids[j] < k := by
        have : ∀ (l : List X) (y : X), y ∈ l → wX y ≤ wXs l := fun l => by
          induction l with
          | nil => intro y h; cases h
          | cons a r ih =>
            intro y h
            rw [wXs]
            rcases List.mem_cons.1 h with rfl | h
            · omega
            · have := ih y h; omega
        have := this x.kids _ (List.getElem_mem hj)
        omega
      conv => whnf
      repeat' (first | ((first | (intro (_ : _ ≤ 9223372036854775807)) | (refine IdxK.xs (by omega) ?_) | (refine Wr.i64 (by omega) (by omega) ?_) | (refine CallK.pure (ih (x.kids[j]'hj) hkw m h3) (.cons (Sub.refl _) (.cons (Sub.refl _) .nil)) ?_; rintro _ rfl)); conv => whnf) | (refine Br.dec (fun _ => ?_) (fun _ => ?_) <;> first | (exfalso; omega) | conv => whnf))
      · have h5 : satI (satI (m + wX x.kids[j]) + wXs (x.kids.drop (j + 1))) = satI (n + wX x) := by
          rw [satI_sat (by omega), ← h4]
          congr 1
          omega
        exact ⟨(j + 1, satI (m + wX x.kids[j])), ⟨by simp only; omega, satI_rng (by omega), h5⟩, by simp only; omega, Le.of_eq rfl⟩
      · exact RetK.int (by rw [← h4]; exact satI_full (by omega) h3.2 (by omega))
    · rw [List.drop_eq_nil_of_le hj, wXs] at h4
      conv => whnf
      repeat' (first | (intro (_ : _ ≤ 9223372036854775807); conv => whnf) | (refine Br.dec (fun _ => ?_) (fun _ => ?_) <;> first | (exfalso; omega) | conv => whnf))
      exact RetK.int (by rw [← h4, satI_id (by omega)]; simp)
theorem wL_mem : ∀ (l : List S) (y : S), y ∈ l → wS y ≤ wL l
  | [], y, h => by cases h
  | a :: r, y, h => by
    rw [wL]
    rcases List.mem_cons.1 h with rfl | h
    · omega
    · have := wL_mem r y h; omega
set_option maxHeartbeats 4000000 in
set_option maxRecDepth 100000 in
theorem whittlerref3_weighStmts : ∀ (k : Nat) (l : List S) (_ : wL l < k) (n : Int) (_ : 0 ≤ n ∧ n ≤ 20001), SpecP Tryz.prog 64 [eSs l, .int .i64 n] (fun r => r = .int .i64 (satI (n + wL l))) := by
  intro k
  induction k with
  | zero => intro l h; omega
  | succ k ih =>
    intro l hl n hn
    have hkl := S.avs_len l
    refine SpecP.body I_whittlerref3_weighStmts tabOK Tryz.func64 rfl Tryz.call64 (by show 2 ≤ _; decide) ?_
    conv => whnf
    skip
    refine LoopK.inv tabOK (fun y : Nat × Int => ⟨[(0, .p (eSs l)), (1, .p (.int .i64 y.2)), (5, .p (.int .i64 y.1))], []⟩) (fun y => y.1 ≤ l.length ∧ (0 ≤ y.2 ∧ y.2 ≤ 20001) ∧ satI (y.2 + wL (l.drop y.1)) = satI (n + wL l)) (fun y => l.length - y.1) (0, n) (Le.of_eq rfl) ⟨Nat.zero_le _, hn, rfl⟩ ?_
    rintro ⟨j, m⟩ ⟨h2, h3, h4⟩
    simp only at h2 h3 h4 ⊢
    rcases Nat.lt_or_ge j l.length with hj | hj
    rotate_left 1
    · rw [List.drop_eq_nil_of_le hj, wL] at h4
      conv => whnf
      repeat' (first | (intro (_ : _ ≤ 9223372036854775807); conv => whnf) | (refine Br.dec (fun _ => ?_) (fun _ => ?_) <;> first | (exfalso; omega) | conv => whnf))
      exact RetK.int (by rw [← h4, satI_id (by omega)]; simp)
    rw [List.drop_eq_getElem_cons hj, wL] at h4
    have hsw := wL_mem l _ (List.getElem_mem hj)
    have hse := wS_eq l[j]
    have q1 := satI_rng (a := m + wX l[j].x) (by omega)
    have q2 := satI_rng (a := satI (m + wX l[j].x) + wTxs l[j].labels) (by omega)
    have q3 := satI_rng (a := satI (satI (m + wX l[j].x) + wTxs l[j].labels) + (1 + l[j].name.length : Nat)) (by omega)
    conv => whnf
    repeat' (first | ((first | (intro (_ : _ ≤ 9223372036854775807)) | (refine DrawK.auto tabOK mixed (by kernel_rfl) ?_) | (refine And.intro rfl ?_) | (refine IdxK.ss (by omega) ?_) | (refine CallK.pure (whittlerref3_weighExpr (wX l[j].x+1) l[j].x (by omega) m h3) (.cons (Sub.refl _) (.cons (Sub.refl _) .nil)) ?_; rintro _ rfl) | (refine CallK.pure (whittlerref3_weighTexts l[j].labels _ q1) (.cons (Sub.refl _) (.cons (Sub.refl _) .nil)) ?_; rintro _ rfl) | (refine CallK.pure (whittlerref3_weighText l[j].name _ q2) (.cons (Sub.refl _) (.cons (Sub.refl _) .nil)) ?_; rintro _ rfl) | (refine CallK.pure (whittlerref3_weighText l[j].proc _ q3) (.cons (Sub.refl _) (.cons (Sub.refl _) .nil)) ?_; rintro _ rfl)); conv => whnf) | (refine Br.dec (fun _ => ?_) (fun _ => ?_) <;> first | (exfalso; omega) | conv => whnf))
    rotate_left 1
    · exact RetK.int (by rw [← h4]; exact satI_full (by omega) h3.2 (by omega))
    have q4 := satI_rng (a := satI (satI (satI (m + wX l[j].x) + wTxs l[j].labels) + (1 + l[j].name.length : Nat)) + (1 + l[j].proc.length : Nat)) (by omega)
    have h5 : satI (satI (satI (satI (satI (m + wX l[j].x) + wTxs l[j].labels) + (1 + l[j].name.length : Nat)) + (1 + l[j].proc.length : Nat)) + (wArgs l[j].args + (wL l[j].thn + wL l[j].els + wL (l.drop (j + 1))) : Nat)) = satI (n + wL l) := by
      rw [satI_sat (by omega), Int.add_assoc, satI_sat (by omega), Int.add_assoc, satI_sat (by omega), Int.add_assoc, satI_sat (by omega), ← h4, hse]
      congr 1
      omega
    generalize satI (satI (satI (satI (m + wX l[j].x) + wTxs l[j].labels) + (1 + l[j].name.length : Nat)) + (1 + l[j].proc.length : Nat)) = m0 at q4 h5 ⊢
    have hal : (l[j].args.map fun a => AV.agg a.cells).length = l[j].args.length := List.length_map _
    refine LoopK.inv tabOK (fun y : Nat × Int => ⟨[(0, .p (eSs l)), (1, .p (.int .i64 y.2)), (5, .p (.int .i64 j)), (6, .p (.ip l[j].cells)), (7, .p (.int .i64 y.1))], []⟩) (fun y => y.1 ≤ l[j].args.length ∧ (0 ≤ y.2 ∧ y.2 ≤ 20001) ∧ satI (y.2 + (wArgs (l[j].args.drop y.1) + (wL l[j].thn + wL l[j].els + wL (l.drop (j + 1))) : Nat)) = satI (n + wL l)) (fun y => l[j].args.length - y.1) (0, m0) (Le.of_eq rfl) ⟨Nat.zero_le _, q4, h5⟩ ?_
    rintro ⟨a, m2⟩ ⟨h6, h7, h8⟩
    simp only at h6 h7 h8 ⊢
    have fin : satI (m2 + (wL l[j].thn + wL l[j].els + wL (l.drop (j + 1)) : Nat)) = satI (n + wL l) → (0 ≤ satI (satI (m2 + wL l[j].thn) + wL l[j].els) ∧ satI (satI (m2 + wL l[j].thn) + wL l[j].els) ≤ 20001) ∧ satI (satI (satI (m2 + wL l[j].thn) + wL l[j].els) + wL (l.drop (j + 1))) = satI (n + wL l) := fun h => by
      have := satI_rng (a := m2 + wL l[j].thn) (by omega)
      refine ⟨satI_rng (by omega), ?_⟩
      rw [satI_sat (by omega), Int.add_assoc, satI_sat (by omega), ← h]
      congr 1
      omega
    have r1 := satI_rng (a := m2 + wL l[j].thn) (by omega)
    have full : m2 > 20000 → satI (m2 + (wL l[j].thn + wL l[j].els + wL (l.drop (j + 1)) : Nat)) = satI (n + wL l) := fun h => by
      rw [← h8, ← satI_full h h7.2 (by omega), ← satI_full h h7.2 (by omega)]
    rcases Nat.lt_or_ge a l[j].args.length with ha | ha
    rotate_left 1
    · have h9 : satI (m2 + (wL l[j].thn + wL l[j].els + wL (l.drop (j + 1)) : Nat)) = satI (n + wL l) := by
        rw [List.drop_eq_nil_of_le ha, wArgs, Nat.zero_add] at h8
        exact h8
      obtain ⟨f1, f2⟩ := fin h9
      conv => whnf
      repeat' (first | ((first | (intro (_ : _ ≤ 9223372036854775807)) | (refine DrawK.auto tabOK mixed (by kernel_rfl) ?_) | (refine Wr.i64 (by omega) (by omega) ?_) | (refine CallK.pure (ih l[j].thn (by omega) m2 h7) (.cons (Sub.refl _) (.cons (Sub.refl _) .nil)) ?_; rintro _ rfl) | (refine CallK.pure (ih l[j].els (by omega) _ r1) (.cons (Sub.refl _) (.cons (Sub.refl _) .nil)) ?_; rintro _ rfl)); conv => whnf) | (refine Br.dec (fun _ => ?_) (fun _ => ?_) <;> first | (exfalso; omega) | conv => whnf))
      all_goals exact ⟨(j + 1, satI (satI (m2 + wL l[j].thn) + wL l[j].els)), ⟨by simp only; omega, f1, f2⟩, by simp only; omega, Le.of_eq rfl⟩
    rw [List.drop_eq_getElem_cons ha, wArgs] at h8
    have q5 := satI_rng (a := m2 + wX l[j].args[a].x) (by omega)
    conv => whnf
    repeat' (first | ((first | (intro (_ : _ ≤ 9223372036854775807)) | (refine DrawK.auto tabOK mixed (by kernel_rfl) ?_) | (refine IdxK.map (by omega) (fun _ => rfl) ?_) | (refine Wr.i64 (by omega) (by omega) ?_) | (refine CallK.pure (whittlerref3_weighExpr (wX l[j].args[a].x+1) l[j].args[a].x (by omega) m2 h7) (.cons (Sub.refl _) (.cons (Sub.refl _) .nil)) ?_; rintro _ rfl) | (refine CallK.pure (whittlerref3_weighText l[j].args[a].name _ q5) (.cons (Sub.refl _) (.cons (Sub.refl _) .nil)) ?_; rintro _ rfl) | (refine CallK.pure (ih l[j].thn (by omega) m2 h7) (.cons (Sub.refl _) (.cons (Sub.refl _) .nil)) ?_; rintro _ rfl) | (refine CallK.pure (ih l[j].els (by omega) _ r1) (.cons (Sub.refl _) (.cons (Sub.refl _) .nil)) ?_; rintro _ rfl)); conv => whnf) | (refine Br.dec (fun _ => ?_) (fun _ => ?_) <;> first | (exfalso; omega) | conv => whnf))
    · have h10 : satI (satI (satI (m2 + wX l[j].args[a].x) + (1 + l[j].args[a].name.length : Nat)) + (wArgs (l[j].args.drop (a + 1)) + (wL l[j].thn + wL l[j].els + wL (l.drop (j + 1))) : Nat)) = satI (n + wL l) := by
        rw [satI_sat (by omega), Int.add_assoc, satI_sat (by omega), ← h8]
        congr 1
        omega
      exact ⟨(a + 1, satI (satI (m2 + wX l[j].args[a].x) + (1 + l[j].args[a].name.length : Nat))), ⟨by simp only; omega, satI_rng (by omega), h10⟩, by simp only; omega, Le.of_eq rfl⟩
    · obtain ⟨f1, f2⟩ := fin (full (by omega))
      exact ⟨(j + 1, satI (satI (m2 + wL l[j].thn) + wL l[j].els)), ⟨by simp only; omega, f1, f2⟩, by simp only; omega, Le.of_eq rfl⟩
end Go.Ab
namespace Go.Ab
open Go.Proofs
def fitB (p : Pg) : Bool := decide (wPg p ≤ 20000)
set_option maxHeartbeats 4000000 in
set_option maxRecDepth 100000 in
theorem whittlerref3_Fits (p : Pg) : SpecP Tryz.prog 16 [.agg p.cells] (fun r => r = .bool (fitB p)) := by
  refine SpecP.body I_whittlerref3_Fits tabOK Tryz.func16 rfl Tryz.call16 (by show 1 ≤ _; decide) ?_
  conv => whnf
  have hl : (p.procs.map fun f => AV.agg f.cells).length = p.procs.length := List.length_map _
  have q0 := satI_rng (a := 0 + wTxs p.globals) (by omega)
  repeat' (refine CallK.pure (whittlerref3_weighTexts p.globals 0 (by omega)) (.cons (Sub.refl _) (.cons (Sub.refl _) .nil)) ?_; rintro _ rfl; conv => whnf)
  refine LoopK.inv tabOK (fun y : Nat × Int => ⟨[(1, .p (.ip p.cells)), (3, .p (.int .i64 y.2)), (4, .p (.int .i64 y.1))], []⟩) (fun y => y.1 ≤ p.procs.length ∧ (0 ≤ y.2 ∧ y.2 ≤ 20001) ∧ satI (y.2 + wPrs (p.procs.drop y.1)) = satI (wPg p : Nat)) (fun y => p.procs.length - y.1) (0, satI (0 + wTxs p.globals)) (Le.of_eq rfl) ⟨Nat.zero_le _, q0, by
    show satI (satI (0 + wTxs p.globals) + wPrs p.procs) = _
    rw [satI_sat (by omega)]
    congr 1
    unfold wPg
    omega⟩ ?_
  rintro ⟨j, m⟩ ⟨h2, h3, h4⟩
  simp only at h2 h3 h4 ⊢
  have last : ∀ {x : Int}, 0 ≤ x ∧ x ≤ 20001 → satI x = satI (wPg p : Nat) → (decide (x ≤ 20000)) = fitB p := fun {x} hx h => by
    unfold fitB
    unfold satI at h
    by_cases h1 : wPg p ≤ 20000
    · rw [decide_eq_true h1, decide_eq_true_eq]
      split at h <;> split at h <;> omega
    · rw [decide_eq_false h1, decide_eq_false_iff_not]
      split at h <;> split at h <;> omega
  rcases Nat.lt_or_ge j p.procs.length with hj | hj
  rotate_left 1
  · rw [List.drop_eq_nil_of_le hj, wPrs] at h4
    conv => whnf
    repeat' (first | (intro (_ : _ ≤ 9223372036854775807); conv => whnf) | (refine Br.dec (fun _ => ?_) (fun _ => ?_) <;> first | (exfalso; omega) | conv => whnf))
    all_goals exact RetK.bool (last h3 (by rw [← h4]; simp))
  rw [List.drop_eq_getElem_cons hj, wPrs] at h4
  have hpe : wPr p.procs[j] = 1 + p.procs[j].name.length + wTxs p.procs[j].vars + wTxs p.procs[j].fin + wPms p.procs[j].params + wL p.procs[j].body := rfl
  have q1 := satI_rng (a := m + (1 + p.procs[j].name.length : Nat)) (by omega)
  have q2 := satI_rng (a := satI (m + (1 + p.procs[j].name.length : Nat)) + wTxs p.procs[j].vars) (by omega)
  have q3 := satI_rng (a := satI (satI (m + (1 + p.procs[j].name.length : Nat)) + wTxs p.procs[j].vars) + wTxs p.procs[j].fin) (by omega)
  conv => whnf
  repeat' (first | ((first | (intro (_ : _ ≤ 9223372036854775807)) | (refine DrawK.auto tabOK mixed (by kernel_rfl) ?_) | (refine And.intro rfl ?_) | (refine IdxK.map (by omega) (fun _ => rfl) ?_) | (refine CallK.pure (whittlerref3_weighText p.procs[j].name _ h3) (.cons (Sub.refl _) (.cons (Sub.refl _) .nil)) ?_; rintro _ rfl) | (refine CallK.pure (whittlerref3_weighTexts p.procs[j].vars _ q1) (.cons (Sub.refl _) (.cons (Sub.refl _) .nil)) ?_; rintro _ rfl) | (refine CallK.pure (whittlerref3_weighTexts p.procs[j].fin _ q2) (.cons (Sub.refl _) (.cons (Sub.refl _) .nil)) ?_; rintro _ rfl)); conv => whnf) | (refine Br.dec (fun _ => ?_) (fun _ => ?_) <;> first | (exfalso; omega) | conv => whnf))
  rotate_left 1
  · exact RetK.bool (last h3 (by rw [← h4, ← satI_full (by omega) h3.2 (by omega), satI_id h3.2]))
  have h5 : satI (satI (satI (satI (m + (1 + p.procs[j].name.length : Nat)) + wTxs p.procs[j].vars) + wTxs p.procs[j].fin) + (wPms p.procs[j].params + (wL p.procs[j].body + wPrs (p.procs.drop (j + 1))) : Nat)) = satI (wPg p : Nat) := by
    rw [satI_sat (by omega), Int.add_assoc, satI_sat (by omega), Int.add_assoc, satI_sat (by omega), ← h4, hpe]
    congr 1
    omega
  generalize satI (satI (satI (m + (1 + p.procs[j].name.length : Nat)) + wTxs p.procs[j].vars) + wTxs p.procs[j].fin) = m0 at q3 h5 ⊢
  have hal : (p.procs[j].params.map fun a => AV.agg a.cells).length = p.procs[j].params.length := List.length_map _
  refine LoopK.inv tabOK (fun y : Nat × Int => ⟨[(1, .p (.ip p.cells)), (3, .p (.int .i64 y.2)), (4, .p (.int .i64 j)), (5, .p (.ip p.procs[j].cells)), (6, .p (.int .i64 y.1))], []⟩) (fun y => y.1 ≤ p.procs[j].params.length ∧ (0 ≤ y.2 ∧ y.2 ≤ 20001) ∧ satI (y.2 + (wPms (p.procs[j].params.drop y.1) + (wL p.procs[j].body + wPrs (p.procs.drop (j + 1))) : Nat)) = satI (wPg p : Nat)) (fun y => p.procs[j].params.length - y.1) (0, m0) (Le.of_eq rfl) ⟨Nat.zero_le _, q3, h5⟩ ?_
  rintro ⟨a, m2⟩ ⟨h6, h7, h8⟩
  simp only at h6 h7 h8 ⊢
  have fin : satI (m2 + (wL p.procs[j].body + wPrs (p.procs.drop (j + 1)) : Nat)) = satI (wPg p : Nat) → (0 ≤ satI (m2 + wL p.procs[j].body) ∧ satI (m2 + wL p.procs[j].body) ≤ 20001) ∧ satI (satI (m2 + wL p.procs[j].body) + wPrs (p.procs.drop (j + 1))) = satI (wPg p : Nat) := fun h => by
    refine ⟨satI_rng (by omega), ?_⟩
    rw [satI_sat (by omega), ← h]
    congr 1
    omega
  have full : m2 > 20000 → satI (m2 + (wL p.procs[j].body + wPrs (p.procs.drop (j + 1)) : Nat)) = satI (wPg p : Nat) := fun h => by
    rw [← h8, ← satI_full h h7.2 (by omega), ← satI_full h h7.2 (by omega)]
  rcases Nat.lt_or_ge a p.procs[j].params.length with ha | ha
  rotate_left 1
  · have h9 : satI (m2 + (wL p.procs[j].body + wPrs (p.procs.drop (j + 1)) : Nat)) = satI (wPg p : Nat) := by
      rw [List.drop_eq_nil_of_le ha, wPms, Nat.zero_add] at h8
      exact h8
    obtain ⟨f1, f2⟩ := fin h9
    conv => whnf
    repeat' (first | ((first | (intro (_ : _ ≤ 9223372036854775807)) | (refine Wr.i64 (by omega) (by omega) ?_) | (refine CallK.pure (whittlerref3_weighStmts (wL p.procs[j].body+1) p.procs[j].body (by omega) m2 h7) (.cons (Sub.refl _) (.cons (Sub.refl _) .nil)) ?_; rintro _ rfl)); conv => whnf) | (refine Br.dec (fun _ => ?_) (fun _ => ?_) <;> first | (exfalso; omega) | conv => whnf))
    all_goals exact ⟨(j + 1, satI (m2 + wL p.procs[j].body)), ⟨by simp only; omega, f1, f2⟩, by simp only; omega, Le.of_eq rfl⟩
  rw [List.drop_eq_getElem_cons ha, wPms] at h8
  conv => whnf
  repeat' (first | ((first | (intro (_ : _ ≤ 9223372036854775807)) | (refine IdxK.map (by omega) (fun _ => rfl) ?_) | (refine Wr.i64 (by omega) (by omega) ?_) | (refine CallK.pure (whittlerref3_weighText p.procs[j].params[a].name _ h7) (.cons (Sub.refl _) (.cons (Sub.refl _) .nil)) ?_; rintro _ rfl) | (refine CallK.pure (whittlerref3_weighStmts (wL p.procs[j].body+1) p.procs[j].body (by omega) m2 h7) (.cons (Sub.refl _) (.cons (Sub.refl _) .nil)) ?_; rintro _ rfl)); conv => whnf) | (refine Br.dec (fun _ => ?_) (fun _ => ?_) <;> first | (exfalso; omega) | conv => whnf))
  · have h10 : satI (satI (m2 + (1 + p.procs[j].params[a].name.length : Nat)) + (wPms (p.procs[j].params.drop (a + 1)) + (wL p.procs[j].body + wPrs (p.procs.drop (j + 1))) : Nat)) = satI (wPg p : Nat) := by
      rw [satI_sat (by omega), ← h8]
      congr 1
      omega
    exact ⟨(a + 1, satI (m2 + (1 + p.procs[j].params[a].name.length : Nat))), ⟨by simp only; omega, satI_rng (by omega), h10⟩, by simp only; omega, Le.of_eq rfl⟩
  · obtain ⟨f1, f2⟩ := fin (full (by omega))
    exact ⟨(j + 1, satI (m2 + wL p.procs[j].body)), ⟨by simp only; omega, f1, f2⟩, by simp only; omega, Le.of_eq rfl⟩
end Go.Ab
namespace Go.Ab
open Go.Proofs
/-- Rows whose elements say less. -/
inductive SubE : List AV → List AV → Prop
  | nil : SubE [] []
  | cons {a b : AV} {xs ys : List AV} (h : SubL a.cells b.cells) (hs : SubE xs ys) : SubE (a :: xs) (b :: ys)
theorem SubE.get {xs ys : List AV} (h : SubE xs ys) : xs.length = ys.length ∧ ∀ (i : Nat) (b : AV), ys[i]? = some b → ∃ a, xs[i]? = some a ∧ SubL a.cells b.cells := by
  induction h with
  | nil => exact ⟨rfl, by simp⟩
  | cons h hs ih =>
    refine ⟨by simp [ih.1], fun i b hb => ?_⟩
    cases i with
    | zero => simp at hb; subst hb; exact ⟨_, rfl, h⟩
    | succ i => exact ih.2 i b (by simpa using hb)
theorem Sub.sl {xs ys : List AV} (h : SubE xs ys) : Sub (.sl xs) (.sl ys) := fun σ v hr => by
  obtain ⟨hl, hg⟩ := h.get
  cases hr with
  | nilsl =>
    obtain rfl : ys = [] := by simpa using hl.symm
    exact .nilsl
  | slz b =>
    obtain rfl : ys = [] := by simpa using hl.symm
    exact .slz b
  | sl _ b off cap sz cells u hb hcap hmax hsz hc hrr =>
    rw [hl]
    refine .sl ys b off cap sz cells u hb (by omega) hmax (fun i e hi => ?_) (fun i e j c hi hj => ?_) (fun i e j c hi hj => ?_)
    · obtain ⟨a, h1, h2⟩ := hg i e hi
      rw [← hsz i a h1, h2.1]
    · obtain ⟨a, h1, h2⟩ := hg i e hi
      obtain ⟨d, h3, _⟩ := h2.get hj
      exact hc i a j d h1 h3
    · obtain ⟨a, h1, h2⟩ := hg i e hi
      obtain ⟨d, h3, h4⟩ := h2.get hj
      exact h4 _ _ (hrr i a j d h1 h3)
set_option maxRecDepth 100000 in
theorem whittlerref3_num (n : Int) : SpecP Tryz.prog 108 [.int .i64 n] (fun r => r = .agg (X.mk 1 n [] []).cells) := by
  refine SpecP.body I_whittlerref3_num tabOK Tryz.func108 rfl Tryz.call108 (by show 1 ≤ _; decide) ?_
  conv => whnf
  repeat' (refine And.intro rfl ?_; conv => whnf)
  exact ⟨_, .p (Sub.agg (by repeat' (first | exact SubL.nil | refine SubL.cons ?_ ?_ | exact Sub.refl _ | exact Sub.nils | exact Sub.ff rfl))), rfl⟩
set_option maxRecDepth 100000 in
theorem whittlerref3_name (s : Str) : SpecP Tryz.prog 109 [.str s] (fun r => r = .agg (X.mk 2 0 s []).cells) := by
  refine SpecP.body I_whittlerref3_name tabOK Tryz.func109 rfl Tryz.call109 (by show 1 ≤ _; decide) ?_
  conv => whnf
  repeat' (refine And.intro rfl ?_; conv => whnf)
  exact ⟨_, .p (Sub.agg (by repeat' (first | exact SubL.nil | refine SubL.cons ?_ ?_ | exact Sub.refl _ | exact Sub.nils | exact Sub.ff rfl))), rfl⟩
set_option maxRecDepth 100000 in
theorem whittlerref3_two (op : Int) (a b : X) : SpecP Tryz.prog 110 [.int .i64 op, .agg a.cells, .agg b.cells] (fun r => r = .agg (X.mk op 0 [] [a, b]).cells) := by
  refine SpecP.body I_whittlerref3_two tabOK Tryz.func110 rfl Tryz.call110 (by show 3 ≤ _; decide) ?_
  conv => whnf
  repeat' ((first | (refine And.intro rfl ?_) | (refine And.intro ⟨by decide, by decide⟩ ?_) | (refine BsK.pureL rfl rfl ?_)); conv => whnf)
  have e : X.avs [a, b] = [.agg a.cells, .agg b.cells] := by simp only [X.avs, X.av_eq]
  exact ⟨_, .p (Sub.agg (SubL.cons (Sub.refl _) (SubL.cons (Sub.refl _) (SubL.cons (Sub.refl _) (SubL.cons (Sub.of_eq (by show _ = AV.sl (X.avs [a, b]); rw [e]; rfl)) SubL.nil))))), rfl⟩
def bs (l : List Nat) : Str := l.map fun n => UInt8.ofNat n
def someP : Pg := ⟨[[103]], [
  ⟨[109, 97, 105, 110], [], [[118]], [
    .mk 1 1 [] [118] [] (.mk 1 2 [] []) false [] [] [],
    .mk 2 4 [] [103] [112] (.mk 0 0 [] []) false [⟨false, [], .mk 1 3 [] []⟩, ⟨true, [118], .mk 0 0 [] []⟩] [] [],
    .mk 3 3 [] [] [] (.mk 2 0 [118] []) false [] [] [],
    .mk 4 3 [] [] [] (.mk 2 0 [103] []) false [] [] []], []⟩,
  ⟨[112], [⟨[120], false⟩, ⟨[121], true⟩], [], [
    .mk 5 1 [] [121] [] (.mk 8 0 [] [.mk 2 0 [121] [], .mk 2 0 [120] []]) false [] [] [],
    .mk 6 5 [] [] [] (.mk 12 0 [] [.mk 2 0 [121] [], .mk 1 9 [] []]) false [] [.mk 7 10 [] [101] [] (.mk 0 0 [] []) false [] [] []] [],
    .mk 8 9 [] [] [] (.mk 2 0 [121] []) true [] [] []], [[101]]⟩]⟩
set_option maxHeartbeats 4000000 in
set_option maxRecDepth 100000 in
theorem whittlerref3_Some : SpecP Tryz.prog 61 [] (fun r => r = .agg someP.cells) := by
  refine SpecP.body I_whittlerref3_Some tabOK Tryz.func61 rfl Tryz.call61 (by show 0 ≤ _; decide) ?_
  conv => whnf
  repeat' ((first | (refine CallK.pure (whittlerref3_num _) (by repeat' (first | exact ArgP.nil | refine ArgP.cons ?_ ?_ | exact Sub.refl _ | exact Sub.tt rfl | exact Sub.ff rfl)) ?_; rintro _ rfl) | (refine CallK.pure (whittlerref3_name _) (by repeat' (first | exact ArgP.nil | refine ArgP.cons ?_ ?_ | exact Sub.refl _ | exact Sub.tt rfl | exact Sub.ff rfl)) ?_; rintro _ rfl) | (refine And.intro rfl ?_) | (refine And.intro ⟨by decide, by decide⟩ ?_) | (refine BsK.pure (fun x hx => by rcases List.mem_singleton.1 hx with rfl; rfl) rfl ?_) | (refine BsK.pureL rfl rfl ?_) | (refine CallK.pure (whittlerref3_two 8 (.mk 2 0 [121] []) (.mk 2 0 [120] [])) (.cons (Sub.refl _) (.cons (Sub.refl _) (.cons (Sub.refl _) .nil))) ?_; rintro _ rfl) | (refine CallK.pure (whittlerref3_two 12 (.mk 2 0 [121] []) (.mk 1 9 [] [])) (.cons (Sub.refl _) (.cons (Sub.refl _) (.cons (Sub.refl _) .nil))) ?_; rintro _ rfl)); conv => whnf)
  exact ⟨_, .p (Sub.agg (by repeat' (first | exact SubL.nil | exact SubE.nil | exact Sub.nils | exact Sub.ff rfl | exact Sub.tt rfl | refine SubL.cons ?_ ?_ | refine SubE.cons ?_ ?_ | exact Sub.refl _ | refine Sub.agg ?_ | refine Sub.sl ?_))), rfl⟩
end Go.Ab
namespace Go.Ab
open Go.Proofs
theorem some_fit : Fit someP := by unfold Fit; decide
theorem some_chk : chkB someP = true := by kernel_rfl
def f0 : Pr := someP.procs[0]'(by decide)
def f1 : Pr := someP.procs[1]'(by decide)
theorem norm0 : normS (stepsRaw someP 0 f0) = [⟨0, 1, 1⟩, ⟨1, 2, 1⟩, ⟨2, 3, 1⟩, ⟨3, 4, 1⟩, ⟨4, -1, 1⟩] := by
  have h1 : stepsRaw someP 0 f0 = [⟨0, 1, 1⟩, ⟨1, 2, 1⟩, ⟨2, 3, 1⟩, ⟨3, 4, 1⟩, ⟨4, -1, 1⟩] := by kernel_rfl
  unfold normS sortSt
  rw [h1, List.mergeSort_of_pairwise (by decide)]
  rfl
theorem norm1 : normS (stepsRaw someP 1 f1) = [⟨0, 5, 1⟩, ⟨5, 6, 1⟩, ⟨6, 7, 1⟩, ⟨6, 8, 1⟩, ⟨7, -1, 1⟩, ⟨8, -1, 1⟩] := by
  have h1 : stepsRaw someP 1 f1 = [⟨0, 5, 1⟩, ⟨5, 6, 1⟩, ⟨6, 7, 1⟩, ⟨6, 8, 1⟩, ⟨7, -1, 1⟩, ⟨8, -1, 1⟩] := by kernel_rfl
  unfold normS sortSt
  rw [h1, List.mergeSort_of_pairwise (by decide)]
  rfl
theorem some_way : wayO someP [112] = some (newWay someP 1 f1) := by
  unfold wayO
  rw [some_chk]
  rfl
end Go.Ab
namespace Go.Ab
open Go.Proofs
theorem step_rep {σ : Mem} {a : Step} {v : Value} (h : Rep σ (.agg a.cells) v) : v = .agg #[.int .i64 a.src, .int .i64 a.dst, .int .i64 a.kind] := by
  cases h with
  | agg cs vs u hn hc hr =>
    have hs : vs.size = 3 := hn
    have g : ∀ (j : Nat) (n : Int), a.cells[j]? = some (.int .i64 n) → vs[j]? = some (.int .i64 n) := fun j n hj => by
      have h1 := hc j _ hj
      have h2 := hr j _ hj
      cases hu : u j <;> rw [hu] at h2 <;> cases h2
      rw [h1, hu]
    congr 1
    apply Array.ext_getElem?
    intro i
    match i with
    | 0 => exact g 0 _ rfl
    | 1 => exact g 1 _ rfl
    | 2 => exact g 2 _ rfl
    | i + 3 => rw [Array.getElem?_eq_none (by omega), Array.getElem?_eq_none (by simp)]
theorem ValO.steps {hr : Bool} {s : St} {o : Oper} {K : LV → Prop} {x y : Operand} {u : TypeId} (hop : o.op = .binOp .eql 45 x y u) {a b : Step} (hx : evalO s.sl x = .p (.agg a.cells)) (hy : evalO s.sl y = .p (.agg b.cells))
    (hK : K (.p (.bool (decide (a = b))))) : ValO Tryz.prog hr s o K := by
  refine ⟨fun σ β ac w hs _ => ⟨_, .bool (decide (a = b)), hK, .p (.bool _), fun w' _ _ => ?_⟩⟩
  have h1 : ac.eval x = .agg #[.int .i64 a.src, .int .i64 a.dst, .int .i64 a.kind] := by
    have := evalO_rep hs x
    rw [hx] at this
    cases this with
    | p h => exact step_rep h
  have h2 : ac.eval y = .agg #[.int .i64 b.src, .int .i64 b.dst, .int .i64 b.kind] := by
    have := evalO_rep hs y
    rw [hy] at this
    cases this with
    | p h => exact step_rep h
  have hu : Tryz.prog.underlying 45 = some (.struct (Tryz.prog.fieldsOf 45)) := by kernel_rfl
  have hi : Tryz.prog.underlying 3 = some (.int .i64) := by kernel_rfl
  have hf : (Tryz.prog.fieldsOf 45).toList = (match ty45.desc with | .struct fs => fs.toList | _ => []) := by kernel_rfl
  have he : (Op.equalIn 10000 45 (.agg #[.int .i64 a.src, .int .i64 a.dst, .int .i64 a.kind]) (.agg #[.int .i64 b.src, .int .i64 b.dst, .int .i64 b.kind])).run Tryz.prog w' = .ok (decide (a = b)) w' := by
    rw [run_equalIn_struct w' 9999 _ _ _ hu (by kernel_rfl), hf]
    simp only [ty45, Op.eqFields]
    have p0 : ∀ x y z : Int, (part 3 #[.int .i64 x, .int .i64 y, .int .i64 z] 0).run Tryz.prog w' = .ok (.int .i64 x) w' := fun x y z => run_part_plain w' (by kernel_rfl) rfl
    have p1 : ∀ x y z : Int, (part 3 #[.int .i64 x, .int .i64 y, .int .i64 z] 1).run Tryz.prog w' = .ok (.int .i64 y) w' := fun x y z => run_part_plain w' (by kernel_rfl) rfl
    have p2 : ∀ x y z : Int, (part 3 #[.int .i64 x, .int .i64 y, .int .i64 z] 2).run Tryz.prog w' = .ok (.int .i64 z) w' := fun x y z => run_part_plain w' (by kernel_rfl) rfl
    have ei : ∀ x y : Int, (Op.equalIn 9999 3 (.int .i64 x) (.int .i64 y)).run Tryz.prog w' = .ok (x == y) w' := fun a b => run_equalIn_int (P := Tryz.prog) w' 9998 3 .i64 .i64 a b hi
    have e : decide (a = b) = ((a.src == b.src) && ((a.dst == b.dst) && (a.kind == b.kind))) := by
      cases a; cases b
      simp only [Step.mk.injEq, Bool.decide_and]
      rfl
    simp only [ne_eq, show ¬ ("From" = "_") by decide, show ¬ ("To" = "_") by decide, show ¬ ("Kind" = "_") by decide, not_false_eq_true, if_true, Sem.run_bind, p0, p1, p2, Result.andThen_ok, ei, Sem.run_ite, Sem.run_pure, e]
    cases (a.src == b.src) <;> cases (a.dst == b.dst) <;> cases (a.kind == b.kind) <;> simp
  simp only [execOp, hop, h1, h2, Sem.run_bind, run_eqGuard_agg _ _ _ _ _ _ _ (show Tryz.prog.eqGuardType Tryz.prog.depth 45 = false by kernel_rfl), Result.andThen_ok, run_eql_struct, he, Sem.run_pure]
end Go.Ab
namespace Go.Ab
open Go.Proofs
end Go.Ab
namespace Go.Ab
open Go.Proofs
theorem fit_procs {p : Pg} (h : chkB p = true) : p.procs.length ≤ 20000 := by have := (chk_cnt h).2.1; omega
end Go.Ab
namespace Go.Ab
open Go.Proofs
set_option maxHeartbeats 1000000 in
set_option maxRecDepth 100000 in
theorem tree_count : ∀ (k : Nat) (l : List S) (_ : cntL l < k) (_ : cntL l ≤ 1000000), SpecP Tryz.prog 82 [eSs l] (fun r => r = .int .i64 (cntL l)) := by
  intro k
  induction k with
  | zero => intro l h; omega
  | succ k ih =>
    intro l hk hl
    have hll := S.avs_len l
    have hlc : l.length ≤ cntL l := by
      clear hk hl hll
      induction l with
      | nil => simp
      | cons t r ihr => rw [cntL, cntS_eq, List.length_cons]; omega
    refine SpecP.body I_tree_count tabOK Tryz.func82 rfl Tryz.call82 (by show 1 ≤ _; decide) ?_
    conv => whnf
    repeat' (intro (_ : _ ≤ 9223372036854775807); conv => whnf)
    refine LoopK.inv tabOK (fun y : Nat × Nat => ⟨[(0, .p (eSs l)), (3, .p (.int .i64 y.2)), (8, .p (.int .i64 (S.avs l).length)), (9, .p (.int .i64 y.1))], []⟩) (fun y => y.1 ≤ l.length ∧ y.2 + cntL (l.drop y.1) = cntL l + (l.length - y.1)) (fun y => l.length - y.1) (0, l.length) (Le.of_eq (by simp only [S.avs_len]; rfl)) ⟨Nat.zero_le _, by simp; omega⟩ ?_
    rintro ⟨j, n⟩ ⟨h2, h3⟩
    simp only at h2 h3 ⊢
    rcases Nat.lt_or_ge j l.length with hj | hj
    · have hst := cntL_step hj
      have hcs := cntS_eq l[j]
      have h4 : cntL (l.drop j) ≤ cntL l := by
        have : ∀ (l : List S) (j : Nat), cntL (l.drop j) ≤ cntL l := fun l => by
          induction l with
          | nil => intro j; simp
          | cons t r ihr =>
            intro j
            cases j with
            | zero => simp
            | succ j => rw [List.drop_succ_cons, cntL]; have := ihr j; omega
        exact this l j
      conv => whnf
      repeat' (first | ((first | (refine DrawK.auto tabOK mixed (by kernel_rfl) ?_) | (refine IdxK.ss (by omega) ?_) | (refine Wr.i64 (by omega) (by omega) ?_) | (refine CallK.pure (ih l[j].thn (by omega) (by omega)) (.cons (Sub.refl _) .nil) ?_; rintro _ rfl) | (refine CallK.pure (ih l[j].els (by omega) (by omega)) (.cons (Sub.refl _) .nil) ?_; rintro _ rfl)); conv => whnf) | (refine Br.dec (fun _ => ?_) (fun _ => ?_) <;> first | (exfalso; omega) | conv => whnf))
      all_goals exact ⟨(j + 1, n + (cntL l[j].thn + cntL l[j].els)), ⟨by simp only; omega, by simp only; omega⟩, by simp only; omega, Le.of_eq rfl⟩
    · conv => whnf
      rw [List.drop_eq_nil_of_le hj, cntL] at h3
      repeat' (refine Br.dec (fun _ => ?_) (fun _ => ?_) <;> first | (exfalso; omega) | conv => whnf)
      exact RetK.int (by omega)
set_option maxRecDepth 100000 in
theorem tree_Count (p : Pg) (hc : cntP p.procs ≤ 1000) : SpecP Tryz.prog 32 [.agg p.cells] (fun r => r = .int .i64 (cntP p.procs)) := by
  refine SpecP.body I_tree_Count tabOK Tryz.func32 rfl Tryz.call32 (by show 1 ≤ _; decide) ?_
  conv => whnf
  have hl2 : (p.procs.map fun f => AV.agg f.cells).length = p.procs.length := List.length_map _
  repeat' (intro (_ : _ ≤ 9223372036854775807); conv => whnf)
  refine LoopK.inv tabOK (fun y : Nat × Nat => ⟨[(3, .p (.int .i64 y.2)), (7, .p (.sl (p.procs.map fun f => .agg f.cells))), (8, .p (.int .i64 (p.procs.map fun f => AV.agg f.cells).length)), (9, .p (.int .i64 y.1))], []⟩) (fun y => y.1 ≤ p.procs.length ∧ y.2 + cntP (p.procs.drop y.1) = cntP p.procs) (fun y => p.procs.length - y.1) (0, 0) (Le.of_eq rfl) ⟨Nat.zero_le _, by simp⟩ ?_
  rintro ⟨j, n⟩ ⟨h2, h3⟩
  simp only at h2 h3 ⊢
  rcases Nat.lt_or_ge j p.procs.length with hj | hj
  · have hst := cntP_step hj
    have hcm := cntP_mem _ _ (List.getElem_mem hj)
    conv => whnf
    repeat' (first | ((first | (refine And.intro rfl ?_) | (refine IdxK.map (by omega) (fun _ => rfl) ?_) | (refine Wr.i64 (by omega) (by omega) ?_) | (refine CallK.pure (tree_count (cntL p.procs[j].body+1) p.procs[j].body (by omega) (by omega)) (.cons (Sub.refl _) .nil) ?_; rintro _ rfl)); conv => whnf) | (refine Br.dec (fun _ => ?_) (fun _ => ?_) <;> first | (exfalso; omega) | conv => whnf))
    exact ⟨(j + 1, n + cntL p.procs[j].body), ⟨by simp only; omega, by simp only; omega⟩, by simp only; omega, Le.of_eq rfl⟩
  · conv => whnf
    rw [List.drop_eq_nil_of_le hj, cntP] at h3
    repeat' (refine Br.dec (fun _ => ?_) (fun _ => ?_) <;> first | (exfalso; omega) | conv => whnf)
    exact RetK.int (by omega)
def smallB (p : Pg) (most : Int) : Bool := chkB p && decide ((cntP p.procs : Int) ≤ most)
end Go.Ab
namespace Go.Ab
open Go.Proofs
/-- A step that may be taken: from the beginning, or past none of some. -/
def frR (steps : List Step) (at_ : Int) (but : List Int) (a b : Int) : Prop := (a = at_ ∨ hasI but a = false) ∧ ∃ s ∈ steps, s.src = a ∧ s.dst = b
structure FrI (steps : List Step) (at_ : Int) (but : List Int) (n : Nat) (l : List Int) : Prop where
  le : n ≤ l.length
  hd : l[0]? = some at_
  nd : l.Nodup
  sub : ∀ x ∈ l, x ∈ at_ :: steps.map Step.dst
  snd : ∀ x ∈ l, Rch (frR steps at_ but) at_ x
  cl : ∀ (m : Nat) (a : Int), m < n → l[m]? = some a → ∀ b, frR steps at_ but a b → b ∈ l
theorem FrI.len {steps : List Step} {at_ : Int} {but : List Int} {n : Nat} {l : List Int} (h : FrI steps at_ but n l) : l.length ≤ steps.length + 1 := by
  have := nodup_len h.nd h.sub
  simpa using this
theorem FrI.start (steps : List Step) (at_ : Int) (but : List Int) : FrI steps at_ but 0 [at_] := ⟨Nat.zero_le _, rfl, by simp, by simp, fun x hx => by rw [List.mem_singleton.1 hx]; exact .refl, fun m a hm => by omega⟩
theorem FrI.add {steps : List Step} {at_ : Int} {but : List Int} {n : Nat} {l : List Int} (h : FrI steps at_ but n l) {a b : Int} (ha : a ∈ l) (hb : frR steps at_ but a b) (hn : hasI l b = false) : FrI steps at_ but n (l ++ [b]) := by
  have hnm : b ∉ l := fun hm => by rw [hasI_iff.2 hm] at hn; cases hn
  have h0 : 0 < l.length := (List.getElem?_eq_some_iff.1 h.hd).1
  refine ⟨by rw [List.length_append]; have := h.le; omega, by rw [List.getElem?_append_left h0]; exact h.hd, ?_, fun x hx => ?_, fun x hx => ?_, fun m c hm hc d hd => ?_⟩
  · rw [List.nodup_append]
    refine ⟨h.nd, by simp, fun x hx y hy => ?_⟩
    rw [List.mem_singleton.1 hy]
    exact fun e => hnm (e ▸ hx)
  · rcases List.mem_append.1 hx with hx | hx
    · exact h.sub x hx
    · rw [List.mem_singleton.1 hx]
      obtain ⟨_, s, hs, _, h2⟩ := hb
      exact List.mem_cons_of_mem _ (List.mem_map.2 ⟨s, hs, h2⟩)
  · rcases List.mem_append.1 hx with hx | hx
    · exact h.snd x hx
    · rw [List.mem_singleton.1 hx]
      exact .tail (h.snd a ha) hb
  · rcases Nat.lt_or_ge m l.length with hml | hml
    · rw [List.getElem?_append_left hml] at hc
      exact List.mem_append.2 (.inl (h.cl m c hm hc d hd))
    · have := h.le
      omega
theorem FrI.fin {steps : List Step} {at_ : Int} {but : List Int} {l : List Int} (h : FrI steps at_ but l.length l) (x : Int) : x ∈ l ↔ Rch (frR steps at_ but) at_ x := by
  refine ⟨h.snd x, fun hr => hr.closed (S := fun x => x ∈ l) (fun a b ha hb => ?_) (List.mem_of_getElem? h.hd)⟩
  obtain ⟨m, hm⟩ := List.mem_iff_getElem?.1 ha
  exact h.cl m a (List.getElem?_eq_some_iff.1 hm).1 hm b hb
theorem FrI.next {steps : List Step} {at_ : Int} {but : List Int} {n : Nat} {l : List Int} (h : FrI steps at_ but n l) (hn : n < l.length) (hc : ∀ b, frR steps at_ but l[n] b → b ∈ l) : FrI steps at_ but (n + 1) l := by
  refine ⟨hn, h.hd, h.nd, h.sub, h.snd, fun m a hm ha b hb => ?_⟩
  rcases Nat.lt_or_ge m n with hmn | hmn
  · exact h.cl m a hmn ha b hb
  · obtain rfl : m = n := by omega
    rw [List.getElem?_eq_getElem hn] at ha
    cases ha
    exact hc b hb
def fromP (steps : List Step) (at_ : Int) (but : List Int) (r : AV) : Prop := ∃ es, r = eInts es ∧ (∀ x, x ∈ es ↔ Rch (frR steps at_ but) at_ x) ∧ es.Nodup
set_option maxHeartbeats 2000000 in
set_option maxRecDepth 100000 in
theorem whittlerref14_From (steps : List Step) (at_ : Int) (but : List Int) (hlen : steps.length ≤ 1000000) : SpecP Tryz.prog 41 [eSteps steps, .int .i64 at_, eInts but] (fun r => fromP steps at_ but r) := by
  refine SpecP.body I_whittlerref14_From tabOK Tryz.func41 rfl Tryz.call41 (by show 3 ≤ _; decide) ?_
  conv => whnf
  have hsl : (steps.map fun s => AV.agg s.cells).length = steps.length := List.length_map _
  repeat' ((first | (refine And.intro rfl ?_) | (refine And.intro ⟨by decide, by decide⟩ ?_) | (refine BsK.own (fun x hx => by rcases List.mem_singleton.1 hx with rfl; rfl) rfl ?_)); conv => whnf)
  refine LoopK.inv tabOK (fun x : Nat × List Int => ⟨[(0, .p (eSteps steps)), (2, .p (eInts but)), (7, .hd 0 0 x.2.length), (8, .p (.int .i64 x.1))], [(0, .own 3 1 (x.2.map (.int .i64)))]⟩) (fun x => x.1 ≤ x.2.length ∧ FrI steps at_ but x.1 x.2) (fun x => steps.length + 2 - x.1) (0, [at_]) (Le.of_eq rfl) ⟨Nat.zero_le _, FrI.start _ _ _⟩ ?_
  rintro ⟨n, l⟩ ⟨h1, h2⟩
  simp only at h1 h2 ⊢
  have hll := h2.len
  rcases Nat.lt_or_ge n l.length with hn | hn
  rotate_left 1
  · conv => whnf
    repeat' (first | (intro (_ : _ ≤ 9223372036854775807); conv => whnf) | (refine Br.dec (fun _ => ?_) (fun _ => ?_) <;> first | (exfalso; omega) | conv => whnf))
    have hnl : n = l.length := by have := h2.le; omega
    subst hnl
    exact ⟨_, .hd rfl (by simp), l, rfl, h2.fin, h2.nd⟩
  conv => whnf
  repeat' (first | ((first | (intro (_ : _ ≤ 9223372036854775807)) | (refine And.intro rfl ?_) | (refine Wr.i64 (by omega) (by omega) ?_) | (refine IdxL.mk n (by omega) (by omega) ?_) | (refine LdOwn.mk n 0 (.int .i64 l[n]) (by omega) (by simp [hn]) ?_) | (refine CallK.pure (whittlerref14_has but l[n]) (.cons (Sub.refl _) (.cons (Sub.refl _) .nil)) ?_; rintro _ rfl)); conv => whnf) | (refine Br.dec (fun _ => ?_) (fun _ => ?_) <;> first | (exfalso; omega) | conv => whnf) | (refine Br.b (fun _ => ?_) (fun _ => ?_) <;> conv => whnf))
  · have hb : hasI but l[n] = true := by assumption
    have hn0 : 0 < n := by omega
    refine ⟨(n + 1, l), ⟨hn, h2.next hn fun b ⟨h3, _⟩ => ?_⟩, by simp only; omega, Le.of_eq rfl⟩
    rcases h3 with h3 | h3
    · have h4 : l[0]? = l[n]? := by rw [h2.hd, List.getElem?_eq_getElem hn, h3]
      have := (List.getElem?_inj (by omega) h2.nd).1 h4
      omega
    · rw [hb] at h3; cases h3
  all_goals
    have hcan : l[n] = at_ ∨ hasI but l[n] = false := by
      first
        | exact .inr (by assumption)
        | (left
           have h5 : n = 0 := by omega
           have h6 := h2.hd
           subst h5
           rw [List.getElem?_eq_getElem hn] at h6
           exact Option.some.inj h6)
    refine LoopK.inv tabOK (fun x : Nat × List Int => ⟨[(0, .p (eSteps steps)), (2, .p (eInts but)), (7, .hd 0 0 x.2.length), (8, .p (.int .i64 n)), (29, .p (eSteps steps)), (30, .p (.int .i64 (steps.map fun s => AV.agg s.cells).length)), (31, .p (.int .i64 x.1))], [(0, .own 3 1 (x.2.map (.int .i64)))]⟩) (fun x => x.1 ≤ steps.length ∧ l <+: x.2 ∧ FrI steps at_ but n x.2 ∧ ∀ s ∈ steps.take x.1, s.src = l[n] → s.dst ∈ x.2) (fun x => steps.length - x.1) (0, l) (Le.of_eq rfl) ⟨Nat.zero_le _, List.prefix_refl _, h2, by simp⟩ ?_
    rintro ⟨y, o⟩ ⟨h3, h4, h5, h6⟩
    simp only at h3 h4 h5 h6 ⊢
    have hno : n < o.length := Nat.lt_of_lt_of_le hn h4.length_le
    have hon : o[n] = l[n] := by
      have := prefix_get h4 (List.getElem?_eq_getElem hn)
      rw [List.getElem?_eq_getElem hno] at this
      exact Option.some.inj this
    have hol := h5.len
    have hom : (o.map (AV.int .i64)).length = o.length := List.length_map _
    rcases Nat.lt_or_ge y steps.length with hy | hy
    · have htk := List.take_succ_eq_append_getElem hy
      conv => whnf
      repeat' (first | ((first | (refine DrawK.auto tabOK mixed (by kernel_rfl) ?_) | (refine And.intro rfl ?_) | (refine And.intro ⟨by decide, by decide⟩ ?_) | (refine BsK.pure (fun x hx => by rcases List.mem_singleton.1 hx with rfl; rfl) rfl ?_) | (refine IdxK.map (by omega) (fun _ => rfl) ?_) | (refine Wr.i64 (by omega) (by omega) ?_) | (refine IdxL.mk n (by omega) (by omega) ?_) | (refine LdOwn.mk n 0 (.int .i64 o[n]) (by omega) (by simp [hno]) ?_) | (refine CallK.borrow (whittlerref14_has o steps[y].dst) (.cons (.hd rfl hom.symm) (.cons (.p (Sub.refl _)) .nil)) (by rintro _ rfl; rfl) ?_; rintro _ rfl) | (refine AppK.int1 (by simp) (by simp; omega) ?_)); conv => whnf) | (refine Br.dec (fun _ => ?_) (fun _ => ?_) <;> first | (exfalso; omega) | conv => whnf) | (refine Br.n (fun _ => ?_) (fun _ => ?_) <;> conv => whnf))
      all_goals first
        | exact ⟨(y + 1, o ++ [steps[y].dst]), ⟨hy, h4.trans (List.prefix_append _ _), h5.add (List.getElem_mem hno) ⟨by rw [hon]; exact hcan, steps[y], List.getElem_mem hy, by assumption, rfl⟩ (by assumption), fun s hs he => by
            rw [htk] at hs
            rcases List.mem_append.1 hs with hs | hs
            · exact List.mem_append.2 (.inl (h6 s hs he))
            · rw [List.mem_singleton.1 hs]
              exact List.mem_append.2 (.inr (List.mem_singleton.2 rfl))⟩, by simp only; omega, Le.of_eq (by simp only [List.length_append, List.map_append]; rfl)⟩
        | exact ⟨(y + 1, o), ⟨hy, h4, h5, fun s hs he => by
            rw [htk] at hs
            rcases List.mem_append.1 hs with hs | hs
            · exact h6 s hs he
            · rw [List.mem_singleton.1 hs] at he ⊢
              first
                | exact hasI_iff.1 (by assumption)
                | (exfalso
                   have hne : ¬ steps[y].src = o[n] := by assumption
                   exact hne (he.trans hon.symm))⟩, by simp only; omega, Le.of_eq rfl⟩
    · rw [List.take_of_length_le hy] at h6
      conv => whnf
      repeat' (first | (refine Wr.i64 (by omega) (by omega) ?_; conv => whnf) | (refine Br.dec (fun _ => ?_) (fun _ => ?_) <;> first | (exfalso; omega) | conv => whnf))
      exact ⟨(n + 1, o), ⟨hno, h5.next hno fun b ⟨_, s, hs, h7, h8⟩ => h8 ▸ h6 s hs (by rw [h7, hon])⟩, by simp only; omega, Le.of_eq rfl⟩
end Go.Ab
namespace Go.Ab
open Go.Proofs
theorem DrawK.frz {P : Program} {T : Tab} {N : Nat} {ops : Array Oper} {info : Info} {id : Nat} {K : St → Prop} {s : St} (gs : List (List Nat)) (h : frzK gs s fun s' => DrawK P T N info id ops K s') : DrawK P T N info id ops K s := by
  obtain ⟨s', h1, h2⟩ := frzK_spec (N := N) h
  exact DrawK.le h2 h1
/-- A statement's own item, by its number. -/
theorem stAt_own {p : Pg} (h : chkB p = true) {j : Nat} {f : Pr} (hj : p.procs[j]? = some f) {a : Int} (h1 : (offN p.procs j : Int) + 1 ≤ a) (h2 : a ≤ (offN p.procs j + cntL f.body : Nat)) : ∃ t ∈ flL f.body, stAt p a = some t ∧ t.id = a := by
  obtain ⟨it, h3, h4⟩ := sheet_its hj (k := (a - 1).toNat) (by omega) (by omega)
  refine ⟨it.s, its_s h4, by unfold stAt; rw [h3]; rfl, ?_⟩
  obtain ⟨_, _, _, hlen, hsp⟩ := sheet_spec p
  obtain ⟨_, _, hle, hd⟩ := hsp j f hj
  have hids := its_ids (chk_parts h).1 hj
  have h5 : (itsOf p j f)[(a - 1).toNat - offN p.procs j]? = some it := by
    unfold itsOf
    rw [← hd, List.getElem?_drop, List.getElem?_take, if_pos (by omega), show offN p.procs j + ((a - 1).toNat - offN p.procs j) = (a - 1).toNat by omega]
    exact h3
  have h6 : ((itsOf p j f).map fun it => it.s.id)[(a - 1).toNat - offN p.procs j]? = some it.s.id := by rw [List.getElem?_map, h5]; rfl
  rw [hids] at h6
  unfold idsN at h6
  rw [List.getElem?_map, List.getElem?_range' (by omega)] at h6
  simp at h6
  omega
end Go.Ab
namespace Go.Ab
open Go.Proofs
/-- What is closed under a procedure's steps, in which nobody jumps by goto. -/
structure NoGo (sh : Sheet) (f : Pr) (lo hi : Nat) (T : Int → Prop) : Prop where
  cl : ∀ (k : Nat) (it : Item), lo ≤ k → k < hi → sh.l[k]? = some it → T it.s.id → it.s.kind ≠ 10 ∧ ∀ y ∈ goesI sh f it, T y
  id : ∀ (k : Nat) (it : Item), lo ≤ k → k < hi → sh.l[k]? = some it → it.s.id = (k : Int) + 1
  ld : ∀ (k : Nat) (it : Item), lo ≤ k → k < hi → sh.l[k]? = some it → it.s.kind = 7 ∨ it.s.kind = 8 → it.loop ≠ 0
  lp : ∀ (k : Nat) (it : Item), lo ≤ k → k < hi → sh.l[k]? = some it → it.loop = 0 ∨ ∃ u, sh.l[(it.loop - 1).toNat]? = some u
def escC (sh : Sheet) (T : Int → Prop) (nx lp : Int) : Prop := T nx ∨ T (-1) ∨ (lp ≠ 0 ∧ (T lp ∨ ∃ u, sh.l[(lp - 1).toNat]? = some u ∧ T u.next))
def atP (sh : Sheet) (n : Nat) (l : List Item) : Prop := ∀ (i : Nat) (it : Item), l[i]? = some it → sh.l[n + i]? = some it
theorem atP.left {sh : Sheet} {n : Nat} {a b : List Item} (h : atP sh n (a ++ b)) : atP sh n a := fun i it hi => h i it (by
  rw [List.getElem?_append_left (List.getElem?_eq_some_iff.1 hi).1]
  exact hi)
theorem atP.right {sh : Sheet} {n : Nat} {a b : List Item} (h : atP sh n (a ++ b)) : atP sh (n + a.length) b := fun i it hi => by
  rw [Nat.add_assoc]
  exact h (a.length + i) it (by rw [List.getElem?_append_right (by omega), Nat.add_sub_cancel_left]; exact hi)
theorem itL_hd (proc up nx lp : Int) (n : Nat) (v : S) (r : List S) : ∃ it ∈ itL proc up nx lp n (v :: r), it.s = v := by
  rw [itL, itS_eq]
  exact ⟨_, List.mem_append.2 (.inl List.mem_cons_self), rfl⟩
mutual
theorem escS {sh : Sheet} {f : Pr} {lo hi : Nat} {T : Int → Prop} (hT : NoGo sh f lo hi T) (proc : Int) : ∀ (t : S) (up nx lp : Int) (n : Nat), atP sh n (itS proc up nx lp n t) → lo ≤ n → n + cntS t ≤ hi → (∃ it ∈ itS proc up nx lp n t, T it.s.id) → escC sh T nx lp
  | .mk id kind labels name pr x has args thn els, up, nx, lp, n, hp, h1, h2, h3 => by
    rw [itS] at hp h3
    rw [cntS] at h2
    have hself : sh.l[n]? = some ⟨.mk id kind labels name pr x has args thn els, proc, up, nx, lp⟩ := hp 0 _ rfl
    have hcl := hT.cl n _ h1 (by omega) hself
    have hid := hT.id n _ h1 (by omega) hself
    have hld := hT.ld n _ h1 (by omega) hself
    have hlp := hT.lp n _ h1 (by omega) hself
    have hp1 : atP sh (n + 1) (itL proc (n + 1) (if kind = 6 then n + 1 else nx) (if kind = 6 then n + 1 else lp) (n + 1) thn ++ itL proc (n + 1) (if kind = 6 then n + 1 else nx) (if kind = 6 then n + 1 else lp) (n + 1 + cntL thn) els) := fun i it hi => by
      have := hp (i + 1) it (by simpa using hi)
      rwa [show n + (i + 1) = n + 1 + i by omega] at this
    have hw : kind = 6 → T ((n : Int) + 1) → T nx := fun hk h => by
      have h5 : T (S.mk id kind labels name pr x has args thn els).id := by
        rw [show (S.mk id kind labels name pr x has args thn els).id = (n : Int) + 1 from hid]
        exact h
      refine (hcl h5).2 nx ?_
      unfold goesI
      rw [if_neg (by show ¬ kind = 5; omega), if_pos (by exact hk)]
      simp
    have hin : escC sh T (if kind = 6 then ((n : Int) + 1) else nx) (if kind = 6 then ((n : Int) + 1) else lp) → escC sh T nx lp := fun h => by
      by_cases hk : kind = 6
      · rw [if_pos hk, if_pos hk] at h
        rcases h with h | h | ⟨_, h | ⟨u, hu, h⟩⟩
        · exact .inl (hw hk h)
        · exact .inr (.inl h)
        · exact .inl (hw hk h)
        · rw [show ((n : Int) + 1 - 1).toNat = n by omega, hself] at hu
          cases hu
          exact .inl h
      · rw [if_neg hk, if_neg hk] at h
        exact h
    have hthn : (∃ it ∈ itL proc (n + 1) (if kind = 6 then n + 1 else nx) (if kind = 6 then n + 1 else lp) (n + 1) thn, T it.s.id) → escC sh T nx lp := fun h =>
      hin (escL hT proc thn _ _ _ (n + 1) hp1.left (by omega) (by omega) h)
    obtain ⟨it, hit, hti⟩ := h3
    rcases List.mem_cons.1 hit with rfl | hit
    · obtain ⟨hk10, hgo⟩ := hcl hti
      have hk10 : kind ≠ 10 := hk10
      by_cases hk5 : kind = 5
      · cases thn with
        | nil =>
          refine .inl (hgo nx ?_)
          unfold goesI
          rw [if_pos (by exact hk5)]
          simp [headI, S.thn]
        | cons v r =>
          have : T v.id := by
            refine hgo v.id ?_
            unfold goesI
            rw [if_pos (by exact hk5)]
            simp [headI, S.thn]
          obtain ⟨iv, h5, h6⟩ := itL_hd proc (n + 1) (if kind = 6 then n + 1 else nx) (if kind = 6 then n + 1 else lp) (n + 1) v r
          exact hthn ⟨iv, h5, by rw [h6]; exact this⟩
      by_cases hk6 : kind = 6
      · refine .inl (hw hk6 ?_)
        rw [← show (S.mk id kind labels name pr x has args thn els).id = (n : Int) + 1 from hid]
        exact hti
      by_cases hk7 : kind = 7
      · have hl0 := hld (.inl hk7)
        rcases hlp with h5 | ⟨u, hu⟩
        · exact absurd h5 hl0
        · refine .inr (.inr ⟨hl0, .inr ⟨u, hu, hgo _ ?_⟩⟩)
          unfold goesI
          rw [if_neg (by exact hk5), if_neg (by exact hk6), if_pos (by exact hk7)]
          simp only at hu
          rw [hu]
          simp
      by_cases hk8 : kind = 8
      · refine .inr (.inr ⟨hld (.inr hk8), .inl (hgo _ ?_)⟩)
        unfold goesI
        rw [if_neg (by exact hk5), if_neg (by exact hk6), if_neg (by exact hk7), if_pos (by exact hk8)]
        simp
      by_cases hk9 : kind = 9
      · refine .inr (.inl (hgo _ ?_))
        unfold goesI
        rw [if_neg (by exact hk5), if_neg (by exact hk6), if_neg (by exact hk7), if_neg (by exact hk8), if_pos (by exact hk9)]
        simp
      · refine .inl (hgo _ ?_)
        unfold goesI
        rw [if_neg (by exact hk5), if_neg (by exact hk6), if_neg (by exact hk7), if_neg (by exact hk8), if_neg (by exact hk9), if_neg (by exact hk10)]
        simp
    · rcases List.mem_append.1 hit with hit | hit
      · exact hthn ⟨it, hit, hti⟩
      · have hp2 := hp1.right
        rw [itL_len] at hp2
        exact hin (escL hT proc els _ _ _ (n + 1 + cntL thn) hp2 (by omega) (by omega) ⟨it, hit, hti⟩)
theorem escL {sh : Sheet} {f : Pr} {lo hi : Nat} {T : Int → Prop} (hT : NoGo sh f lo hi T) (proc : Int) : ∀ (l : List S) (up nx lp : Int) (n : Nat), atP sh n (itL proc up nx lp n l) → lo ≤ n → n + cntL l ≤ hi → (∃ it ∈ itL proc up nx lp n l, T it.s.id) → escC sh T nx lp
  | [], up, nx, lp, n, hp, h1, h2, h3 => by
    rw [itL] at h3
    obtain ⟨it, hit, _⟩ := h3
    cases hit
  | t :: r, up, nx, lp, n, hp, h1, h2, h3 => by
    rw [itL] at hp h3
    rw [cntL] at h2
    have hp2 := hp.right
    rw [itS_len] at hp2
    have hr : (∃ it ∈ itL proc up nx lp (n + cntS t) r, T it.s.id) → escC sh T nx lp := fun h => escL hT proc r up nx lp (n + cntS t) hp2 (by omega) (by omega) h
    obtain ⟨it, hit, hti⟩ := h3
    rcases List.mem_append.1 hit with hit | hit
    · have h5 := escS hT proc t up _ lp n hp.left h1 (by omega) ⟨it, hit, hti⟩
      cases r with
      | nil => exact h5
      | cons v r =>
        rcases h5 with h5 | h5
        · refine hr ?_
          obtain ⟨iv, h6, h7⟩ : ∃ iv, (itL proc up nx lp (n + cntS t) (v :: r))[0]? = some iv ∧ iv.s = v := by
            rw [itL, itS_eq]
            exact ⟨_, rfl, rfl⟩
          have h8 := hp2 0 iv h6
          have h9 := hT.id (n + cntS t) iv (by omega) (by
            rw [cntL] at h2
            have : 1 ≤ cntS v := by cases v; rw [cntS]; omega
            omega) h8
          refine ⟨iv, List.mem_of_getElem? h6, ?_⟩
          rw [h9]
          simp only [List.isEmpty_cons] at h5
          have e : ((n + cntS t : Nat) : Int) + 1 = (n : Int) + 1 + cntS t := by omega
          rw [e]
          exact h5
        · exact .inr h5
    · exact hr ⟨it, hit, hti⟩
end
end Go.Ab
namespace Go.Ab
open Go.Proofs
theorem sheet_id {p : Pg} (h : chkB p = true) {j : Nat} {f : Pr} (hj : p.procs[j]? = some f) {k : Nat} {it : Item} (h1 : offN p.procs j ≤ k) (h2 : k < offN p.procs j + cntL f.body) (hk : (sheetOf p).l[k]? = some it) : it.s.id = (k : Int) + 1 := by
  obtain ⟨t, _, h4, h5⟩ := stAt_own h hj (a := (k : Int) + 1) (by omega) (by omega)
  unfold stAt at h4
  rw [show ((k : Int) + 1 - 1).toNat = k by omega, hk] at h4
  cases h4
  exact h5
theorem raw_go {p : Pg} {j : Nat} {f : Pr} {it : Item} (hi : it ∈ itsOf p j f) {y : Int} (hy : y ∈ goesI (sheetOf p) f it) : (⟨it.s.id, y, 1⟩ : Step) ∈ stepsRaw p j f := by
  unfold stepsRaw
  exact List.mem_cons_of_mem _ (List.mem_flatMap.2 ⟨it, hi, List.mem_map.2 ⟨y, hy, rfl⟩⟩)
/-- Whatever is closed under a procedure's steps, has a statement and none that jumps by goto, has the exit. -/
theorem proc_exit {p : Pg} (h : chkB p = true) {j : Nat} {f : Pr} (hj : p.procs[j]? = some f) {T : Int → Prop} (hcl : ∀ a b, T a → stR (newWay p j f).real a b → T b) (hgo : ∀ t ∈ flL f.body, T t.id → t.kind ≠ 10) {t : S} (ht : t ∈ flL f.body) (hT : T t.id) : T (-1) := by
  obtain ⟨hm, hs, _, hjm, _⟩ := chk_parts h
  have hld := jump_leads_all hs hjm hj
  obtain ⟨_, _, _, hlen, hsp⟩ := sheet_spec p
  obtain ⟨_, _, hle, hd⟩ := hsp j f hj
  have hits : ∀ (k : Nat) (it : Item), offN p.procs j ≤ k → k < offN p.procs j + cntL f.body → (sheetOf p).l[k]? = some it → it ∈ itsOf p j f := fun k it h1 h2 hk => by
    obtain ⟨it', h3, h4⟩ := sheet_its hj h1 h2
    rw [hk] at h3
    cases h3
    exact h4
  have hn : NoGo (sheetOf p) f (offN p.procs j) (offN p.procs j + cntL f.body) T := by
    refine ⟨fun k it h1 h2 hk hT => ?_, fun k it h1 h2 hk => sheet_id h hj h1 h2 hk, fun k it h1 h2 hk hkd => ?_, fun k it h1 h2 hk => ?_⟩
    · have hi := hits k it h1 h2 hk
      exact ⟨hgo _ (its_s hi) hT, fun y hy => hcl _ _ hT ⟨⟨it.s.id, y, 1⟩, ((real_spec h hj).2 _).2 (raw_go hi hy), rfl, rfl⟩⟩
    · have hl := hld it (hits k it h1 h2 hk)
      unfold leadsB at hl
      rw [if_pos hkd] at hl
      intro h0
      rw [h0] at hl
      cases hl
    · rcases (its_rng (hits k it h1 h2 hk)).2 with h0 | ⟨h3, h4⟩
      · exact .inl h0
      · have : (it.loop - 1).toNat < (sheetOf p).l.length := by omega
        exact .inr ⟨_, List.getElem?_eq_getElem this⟩
  obtain ⟨it, hit, hits2⟩ := it_of (p := p) (j := j) ht
  have hat : atP (sheetOf p) (offN p.procs j) (itL j 0 (-1) 0 (offN p.procs j) f.body) := fun i it hi => by
    rw [← hd, List.getElem?_drop, List.getElem?_take] at hi
    split at hi
    · exact hi
    · cases hi
  have := escL hn j f.body 0 (-1) 0 (offN p.procs j) hat (Nat.le_refl _) (Nat.le_refl _) ⟨it, hit, by rw [hits2]; exact hT⟩
  rcases this with h1 | h1 | ⟨h1, _⟩
  · exact h1
  · exact h1
  · exact absurd rfl h1
theorem openF_iff {n : Nat} {part : List Int} (hp : ∀ k, k < n → 0 ≤ part.getD k 0 ∧ part.getD k 0 < n) {i : Nat} (hi : i < n) : ∀ (l : List (Int × Int)) {o : List Bool}, o.length = n → (∀ t ∈ l, 0 ≤ t.1 ∧ t.1 < n) →
    ((l.foldl (openS part) o).getD i false = true ↔ o.getD i false = true ∨ ∃ t ∈ l, part.getD t.1.toNat 0 ≠ part.getD t.2.toNat 0 ∧ part.getD t.1.toNat 0 = i)
  | [], o, _, _ => by simp
  | t :: r, o, ho, hr => by
    rw [List.foldl_cons, openF_iff hp hi r (by rw [openS_len]; exact ho) fun u hu => hr u (List.mem_cons_of_mem _ hu)]
    have h1 := hr t List.mem_cons_self
    have h2 := hp t.1.toNat (by omega)
    have key : (openS part o t).getD i false = true ↔ o.getD i false = true ∨ (part.getD t.1.toNat 0 ≠ part.getD t.2.toNat 0 ∧ part.getD t.1.toNat 0 = i) := by
      unfold openS
      split
      · rename_i he
        constructor
        · exact .inl
        · rintro (h3 | ⟨h3, _⟩)
          · exact h3
          · exact absurd he h3
      · rename_i he
        rw [getD_set (by omega)]
        split
        · rename_i h3
          constructor
          · intro _
            exact .inr ⟨he, by omega⟩
          · intro _
            rfl
        · rename_i h3
          constructor
          · exact .inl
          · rintro (h4 | ⟨_, h4⟩)
            · exact h4
            · exact absurd (by omega) h3
    rw [key, or_assoc]
    constructor
    · rintro (h3 | ⟨h3, h4⟩ | ⟨u, hu, h3⟩)
      · exact .inl h3
      · exact .inr ⟨t, List.mem_cons_self, h3, h4⟩
      · exact .inr ⟨u, List.mem_cons_of_mem _ hu, h3⟩
    · rintro (h3 | ⟨u, hu, h3⟩)
      · exact .inl h3
      · rcases List.mem_cons.1 hu with rfl | hu
        · exact .inr (.inl h3)
        · exact .inr (.inr ⟨u, hu, h3⟩)
theorem open_iff {n : Nat} {part : List Int} (hn : 0 < n) (hp : ∀ k, k < n → 0 ≤ part.getD k 0 ∧ part.getD k 0 < n) {i : Nat} (hi : i < n) {l : List (Int × Int)} (hr : ∀ t ∈ l, 0 ≤ t.1 ∧ t.1 < n) :
    (openB n part l).getD i false = true ↔ part.getD 0 0 = i ∨ part.getD (n - 1) 0 = i ∨ ∃ t ∈ l, part.getD t.1.toNat 0 ≠ part.getD t.2.toNat 0 ∧ part.getD t.1.toNat 0 = i := by
  have h0 := hp 0 hn
  have h1 := hp (n - 1) (by omega)
  unfold openB
  rw [openF_iff hp hi l (by simp [open0]) hr]
  have key : (open0 n part).getD i false = true ↔ part.getD 0 0 = i ∨ part.getD (n - 1) 0 = i := by
    unfold open0
    rw [getD_set (by rw [List.length_set, List.length_replicate]; omega), getD_set (by rw [List.length_replicate]; omega)]
    split
    · exact ⟨fun _ => .inr (by omega), fun _ => rfl⟩
    · split
      · exact ⟨fun _ => .inl (by omega), fun _ => rfl⟩
      · have : (List.replicate n false).getD i false = false := by
          rw [List.getD_eq_getElem?_getD, List.getElem?_replicate]; split <;> rfl
        rw [this]
        constructor
        · intro h; cases h
        · rintro (h | h) <;> omega
  rw [key, or_assoc]
end Go.Ab
namespace Go.Ab
open Go.Proofs
section
variable {p : Pg} {j : Nat} {f : Pr}
theorem ix_place {i : Int} (h : 0 ≤ i ∧ i < (cntL f.body + 2 : Nat)) : plP p j f (placeI p j (cntL f.body + 2 : Nat) i) ∧ ixI p j f (placeI p j (cntL f.body + 2 : Nat) i) = i := by
  unfold placeI ixI indexI plP loI hiI
  constructor
  · (repeat' split) <;> omega
  · (repeat' split) <;> omega
theorem place_ix {x : Int} (h : plP p j f x) : placeI p j (cntL f.body + 2 : Nat) (ixI p j f x) = x := by
  have h1 := ix_place (p := p) (j := j) (f := f) (ix_rng h)
  exact ix_inj h1.1 h h1.2
theorem prs_new : prsW (newWay p j f) f = (newWay p j f).real.map (ixP p j f (cntL f.body + 2 : Nat)) := rfl
theorem prs_in (h : chkB p = true) (hj : p.procs[j]? = some f) : ∀ t ∈ prsW (newWay p j f) f, (0 ≤ t.1 ∧ t.1 < (cntL f.body + 2 : Nat)) ∧ 0 ≤ t.2 ∧ t.2 < (cntL f.body + 2 : Nat) := fun t ht => by
  rw [prs_new] at ht
  obtain ⟨s, hs, rfl⟩ := List.mem_map.1 ht
  obtain ⟨h1, h2⟩ := real_places h hj s hs
  exact ⟨ix_rng h1, ix_rng h2⟩
/-- The procedure's graph, by numbers. -/
def wE (p : Pg) (j : Nat) (f : Pr) : Int → Int → Prop := rowE (graphE (cntL f.body + 2) (prsW (newWay p j f) f)).1
def wR (p : Pg) (j : Nat) (f : Pr) : Int → Int → Prop := stR (newWay p j f).real
theorem E_iff (h : chkB p = true) (hj : p.procs[j]? = some f) {i k : Int} : wE p j f i k ↔ ∃ a b, wR p j f a b ∧ ixI p j f a = i ∧ ixI p j f b = k := by
  unfold wE wR
  rw [graph_rowE]
  constructor
  · rintro ⟨h1, _, _⟩
    rw [prs_new] at h1
    obtain ⟨s, hs, he⟩ := List.mem_map.1 h1
    exact ⟨s.src, s.dst, ⟨s, hs, rfl, rfl⟩, congrArg Prod.fst he, congrArg Prod.snd he⟩
  · rintro ⟨a, b, ⟨s, hs, rfl, rfl⟩, rfl, rfl⟩
    obtain ⟨h1, h2⟩ := real_places h hj s hs
    exact ⟨List.mem_map.2 ⟨s, hs, rfl⟩, hasB_of (ix_rng h1), hasB_of (ix_rng h2)⟩
theorem R_pl (h : chkB p = true) (hj : p.procs[j]? = some f) {a b : Int} (hr : wR p j f a b) : plP p j f a ∧ plP p j f b := by
  obtain ⟨s, hs, rfl, rfl⟩ := hr
  exact real_places h hj s hs
theorem rch_pl (h : chkB p = true) (hj : p.procs[j]? = some f) {a b : Int} (ha : plP p j f a) (hr : Rch (wR p j f) a b) : plP p j f b :=
  hr.closed (S := plP p j f) (fun _ _ _ h1 => (R_pl h hj h1).2) ha
theorem rch_ix (h : chkB p = true) (hj : p.procs[j]? = some f) {a b : Int} (ha : plP p j f a) (hb : plP p j f b) : Rch (wE p j f) (ixI p j f a) (ixI p j f b) ↔ Rch (wR p j f) a b := by
  constructor
  · intro hr
    obtain ⟨c, h1, h2, h3⟩ := hr.closed (S := fun k => ∃ c, plP p j f c ∧ ixI p j f c = k ∧ Rch (wR p j f) a c) (by
      rintro i k ⟨c, h1, h2, h3⟩ h4
      obtain ⟨x, y, h5, h6, h7⟩ := (E_iff h hj).1 h4
      have h8 := R_pl h hj h5
      have : x = c := ix_inj h8.1 h1 (by rw [h6, h2])
      subst this
      exact ⟨y, h8.2, h7, .tail h3 h5⟩) ⟨a, ha, rfl, .refl⟩
    rw [← ix_inj h1 hb h2]
    exact h3
  · intro hr
    exact (hr.closed (S := fun c => plP p j f c ∧ Rch (wE p j f) (ixI p j f a) (ixI p j f c)) (fun x y ⟨h1, h2⟩ h3 => ⟨(R_pl h hj h3).2, .tail h2 ((E_iff h hj).2 ⟨x, y, h3, rfl, rfl⟩)⟩) ⟨ha, .refl⟩).2
theorem scc_ix (h : chkB p = true) (hj : p.procs[j]? = some f) {a b : Int} (ha : plP p j f a) (hb : plP p j f b) : sccP (wE p j f) (ixI p j f a) (ixI p j f b) ↔ sccP (wR p j f) a b := by
  unfold sccP
  rw [rch_ix h hj ha hb, rch_ix h hj hb ha]
/-- A place's part. -/
def partI (p : Pg) (j : Nat) (f : Pr) (i : Int) : Int := (partW (newWay p j f) f).getD i.toNat 0
theorem partW_new : partW (newWay p j f) f = partR (cntL f.body + 2) (graphE (cntL f.body + 2) (prsW (newWay p j f) f)).1 := rfl
theorem part_min {i : Int} (hi : 0 ≤ i ∧ i < (cntL f.body + 2 : Nat)) : MinP (wE p j f) i (partI p j f i) := by
  unfold partI
  rw [partW_new]
  exact partR_spec (graphE_in _ _).1 hi
theorem part_rng {k : Nat} (hk : k < cntL f.body + 2) : 0 ≤ (partW (newWay p j f) f).getD k 0 ∧ (partW (newWay p j f) f).getD k 0 < (cntL f.body + 2 : Nat) := by
  rw [partW_new]
  exact partR_in (graphE_in _ _).1 hk
theorem part_len : (partW (newWay p j f) f).length = cntL f.body + 2 := by rw [partW_new, partR_len]
theorem MinP.same {E : Int → Int → Prop} {x y v : Int} (h : MinP E x v) (hs : sccP E x y) : MinP E y v := ⟨hs.symm.trans h.scc, fun z hz => h.le z (hs.trans hz)⟩
theorem part_iff {i k : Int} (hi : 0 ≤ i ∧ i < (cntL f.body + 2 : Nat)) (hk : 0 ≤ k ∧ k < (cntL f.body + 2 : Nat)) : partI p j f i = partI p j f k ↔ sccP (wE p j f) i k := by
  have h1 := part_min (p := p) (j := j) hi
  have h2 := part_min (p := p) (j := j) hk
  constructor
  · intro he
    rw [← he] at h2
    exact h1.scc.trans h2.scc.symm
  · intro hs
    exact (h1.same hs).uniq h2
theorem part_pl (h : chkB p = true) (hj : p.procs[j]? = some f) {a b : Int} (ha : plP p j f a) (hb : plP p j f b) : partI p j f (ixI p j f a) = partI p j f (ixI p j f b) ↔ sccP (wR p j f) a b := by
  rw [part_iff (ix_rng ha) (ix_rng hb), scc_ix h hj ha hb]
/-- A trap: a part out of which no step goes, without the entry and the exit. -/
structure TrapP (p : Pg) (j : Nat) (f : Pr) (l : List Int) (r : Int) : Prop where
  pl : plP p j f r
  mem : ∀ b, b ∈ l ↔ plP p j f b ∧ sccP (wR p j f) r b
  cl : ∀ b c, sccP (wR p j f) r b → wR p j f b c → sccP (wR p j f) r c
  n0 : ¬ sccP (wR p j f) r 0
  nx : ¬ sccP (wR p j f) r (-1)
theorem trapR_mem {plc : Int → Int} {part : List Int} {i q : Nat} {b : Int} : b ∈ trapR plc part i q ↔ ∃ k : Nat, k < q ∧ part.getD k 0 = i ∧ plc k = b := by
  unfold trapR
  constructor
  · intro h
    obtain ⟨k, hk, rfl⟩ := List.mem_map.1 h
    obtain ⟨h1, h2⟩ := List.mem_filter.1 hk
    exact ⟨k, List.mem_range.1 h1, beq_iff_eq.1 h2, rfl⟩
  · rintro ⟨k, h1, h2, rfl⟩
    exact List.mem_map.2 ⟨k, List.mem_filter.2 ⟨List.mem_range.2 h1, beq_iff_eq.2 h2⟩, rfl⟩
theorem ix0 : ixI p j f 0 = 0 := by unfold ixI indexI; rw [if_pos rfl]
theorem ix1 : ixI p j f (-1) = ((cntL f.body + 2 : Nat) : Int) - 1 := by unfold ixI indexI; rw [if_neg (by omega), if_pos rfl]
theorem pl0 : plP p j f 0 := .inl rfl
theorem pl1 : plP p j f (-1) := .inr (.inl rfl)
theorem part_nat (k : Nat) : (partW (newWay p j f) f).getD k 0 = partI p j f k := by
  unfold partI
  rw [Int.toNat_natCast]
theorem open_pl (h : chkB p = true) (hj : p.procs[j]? = some f) {i : Nat} (hi : i < cntL f.body + 2) : (openB (cntL f.body + 2) (partW (newWay p j f) f) (prsW (newWay p j f) f)).getD i false = true ↔
    partI p j f (ixI p j f 0) = i ∨ partI p j f (ixI p j f (-1)) = i ∨ ∃ a b, wR p j f a b ∧ ¬ sccP (wR p j f) a b ∧ partI p j f (ixI p j f a) = i := by
  rw [open_iff (by omega) (fun k hk => part_rng hk) hi fun t ht => (prs_in h hj t ht).1, ix0, ix1]
  have e1 : (partW (newWay p j f) f).getD (cntL f.body + 2 - 1) 0 = partI p j f (((cntL f.body + 2 : Nat) : Int) - 1) := by
    unfold partI
    congr 1
    omega
  have e0 : (partW (newWay p j f) f).getD 0 0 = partI p j f 0 := rfl
  rw [e0, e1]
  refine or_congr Iff.rfl (or_congr Iff.rfl ?_)
  constructor
  · rintro ⟨t, ht, h1, h2⟩
    rw [prs_new] at ht
    obtain ⟨s, hs, rfl⟩ := List.mem_map.1 ht
    obtain ⟨h3, h4⟩ := real_places h hj s hs
    exact ⟨s.src, s.dst, ⟨s, hs, rfl, rfl⟩, fun hsc => h1 ((part_pl h hj h3 h4).2 hsc), h2⟩
  · rintro ⟨a, b, ⟨s, hs, rfl, rfl⟩, h1, h2⟩
    obtain ⟨h3, h4⟩ := real_places h hj s hs
    exact ⟨ixP p j f (cntL f.body + 2 : Nat) s, by rw [prs_new]; exact List.mem_map.2 ⟨s, hs, rfl⟩, fun he => h1 ((part_pl h hj h3 h4).1 he), h2⟩
/-- The traps that are told, by the root. -/
theorem traps_mem {l : List Int} : l ∈ trapsW (newWay p j f) f ↔ ∃ i : Nat, i < cntL f.body + 2 ∧ partI p j f i = i ∧ (openB (cntL f.body + 2) (partW (newWay p j f) f) (prsW (newWay p j f) f)).getD i false = false ∧ l = trapR (placeI p j (cntL f.body + 2 : Nat)) (partW (newWay p j f) f) i (cntL f.body + 2) := by
  unfold trapsW trapL
  rw [part_len]
  constructor
  · intro hl
    obtain ⟨i, hi, rfl⟩ := List.mem_map.1 hl
    obtain ⟨h1, h2⟩ := List.mem_filter.1 hi
    unfold trapT at h2
    rw [Bool.and_eq_true, beq_iff_eq, Bool.not_eq_true', part_nat] at h2
    exact ⟨i, List.mem_range.1 h1, h2.1, h2.2, rfl⟩
  · rintro ⟨i, h1, h2, h3, rfl⟩
    refine List.mem_map.2 ⟨i, List.mem_filter.2 ⟨List.mem_range.2 h1, ?_⟩, rfl⟩
    unfold trapT
    rw [Bool.and_eq_true, beq_iff_eq, Bool.not_eq_true', part_nat]
    exact ⟨h2, h3⟩
theorem trap_mem (h : chkB p = true) (hj : p.procs[j]? = some f) {i : Nat} (hi : i < cntL f.body + 2) (hp : partI p j f i = i) (b : Int) :
    b ∈ trapR (placeI p j (cntL f.body + 2 : Nat)) (partW (newWay p j f) f) i (cntL f.body + 2) ↔ plP p j f b ∧ sccP (wR p j f) (placeI p j (cntL f.body + 2 : Nat) i) b := by
  obtain ⟨h1, h2⟩ := ix_place (p := p) (j := j) (f := f) (i := i) (by omega)
  rw [trapR_mem]
  constructor
  · rintro ⟨k, h3, h4, rfl⟩
    obtain ⟨h5, h6⟩ := ix_place (p := p) (j := j) (f := f) (i := k) (by omega)
    refine ⟨h5, (part_pl h hj h1 h5).1 ?_⟩
    rw [h2, h6, hp, ← part_nat, h4]
  · rintro ⟨h3, h4⟩
    have h5 := ix_rng h3
    refine ⟨(ixI p j f b).toNat, by omega, ?_, ?_⟩
    · rw [part_nat, show (((ixI p j f b).toNat : Nat) : Int) = ixI p j f b by omega, ← (part_pl h hj h1 h3).2 h4, h2, hp]
    · rw [show (((ixI p j f b).toNat : Nat) : Int) = ixI p j f b by omega, place_ix h3]
theorem trap_spec (h : chkB p = true) (hj : p.procs[j]? = some f) {l : List Int} (hl : l ∈ trapsW (newWay p j f) f) : ∃ r, TrapP p j f l r := by
  obtain ⟨i, hi, hp, ho, rfl⟩ := traps_mem.1 hl
  obtain ⟨h1, h2⟩ := ix_place (p := p) (j := j) (f := f) (i := i) (by omega)
  have ho2 : ¬ _ := fun hx => by
    have := (open_pl h hj hi).2 hx
    rw [ho] at this
    cases this
  have hpr : partI p j f (ixI p j f (placeI p j (cntL f.body + 2 : Nat) i)) = i := by rw [h2, hp]
  refine ⟨_, h1, trap_mem h hj hi hp, fun b c hb hbc => ?_, fun hs => ho2 (.inl ?_), fun hs => ho2 (.inr (.inl ?_))⟩
  · have h3 := R_pl h hj hbc
    by_cases hsc : sccP (wR p j f) b c
    · exact hb.trans hsc
    · refine absurd (.inr (.inr ⟨b, c, hbc, hsc, ?_⟩)) ho2
      rw [← (part_pl h hj h1 h3.1).2 hb, hpr]
  · rw [← (part_pl h hj h1 pl0).2 hs, hpr]
  · rw [← (part_pl h hj h1 pl1).2 hs, hpr]
theorem trap_of (h : chkB p = true) (hj : p.procs[j]? = some f) {r : Int} (hr : plP p j f r) (hcl : ∀ b c, sccP (wR p j f) r b → wR p j f b c → sccP (wR p j f) r c) (h0 : ¬ sccP (wR p j f) r 0) (hx : ¬ sccP (wR p j f) r (-1)) :
    ∃ l ∈ trapsW (newWay p j f) f, ∀ b, b ∈ l ↔ plP p j f b ∧ sccP (wR p j f) r b := by
  have h1 := ix_rng hr
  have h2 := part_min (p := p) (j := j) (f := f) h1
  have h3 := part_rng (p := p) (j := j) (f := f) (k := (ixI p j f r).toNat) (by omega)
  have h4 : 0 ≤ partI p j f (ixI p j f r) ∧ partI p j f (ixI p j f r) < (cntL f.body + 2 : Nat) := h3
  generalize hi : partI p j f (ixI p j f r) = v at h2 h4
  obtain ⟨h5, h6⟩ := ix_place (p := p) (j := j) (f := f) (i := v) h4
  have hs : sccP (wR p j f) r (placeI p j (cntL f.body + 2 : Nat) v) := (scc_ix h hj hr h5).1 (by rw [h6]; exact h2.scc)
  have hpv : partI p j f v = v := (part_min (p := p) (j := j) (f := f) h4).uniq (h2.same h2.scc)
  have ev : ((v.toNat : Nat) : Int) = v := by omega
  refine ⟨_, traps_mem.2 ⟨v.toNat, by omega, by rw [ev]; exact hpv, ?_, rfl⟩, fun b => ?_⟩
  · cases ho : (openB (cntL f.body + 2) (partW (newWay p j f) f) (prsW (newWay p j f) f)).getD v.toNat false with
    | false => rfl
    | true =>
      have := (open_pl h hj (by omega)).1 ho
      rw [ev, ← hi] at this
      rcases this with h7 | h7 | ⟨a, b, h7, h8, h9⟩
      · exact absurd ((part_pl h hj hr pl0).1 h7.symm) h0
      · exact absurd ((part_pl h hj hr pl1).1 h7.symm) hx
      · have h10 := R_pl h hj h7
        have h11 := (part_pl h hj hr h10.1).1 h9.symm
        exact absurd (h11.symm.trans (hcl a b h11 h7)) h8
  · rw [trap_mem h hj (by omega) (by rw [ev]; exact hpv), ev]
    exact and_congr Iff.rfl ⟨fun h7 => hs.trans h7, fun h7 => hs.symm.trans h7⟩
end
end Go.Ab
namespace Go.Ab
open Go.Proofs
theorem real_len {p : Pg} {j : Nat} {f : Pr} (hj : p.procs[j]? = some f) (hcn : cntP p.procs ≤ 200) : (newWay p j f).real.length ≤ 100000 := by
  obtain ⟨_, _, _, hlen, hsp⟩ := sheet_spec p
  obtain ⟨_, _, hle, _⟩ := hsp j f hj
  have h9 := normS_len (stepsRaw p j f)
  have h10 := stepsRaw_len p j f
  show (normS (stepsRaw p j f)).length ≤ 100000
  omega
theorem nextR_ok {p : Pg} (h : chkB p = true) {j : Nat} {f : Pr} (hj : p.procs[j]? = some f) : ∀ it ∈ itsOf p j f, ∀ s ∈ fOf it, okSt s := fun it hi s hs => by
  obtain ⟨hm, _⟩ := chk_parts h
  obtain ⟨_, _, hcn⟩ := chk_cnt h
  obtain ⟨_, _, _, hlen, hsp⟩ := sheet_spec p
  obtain ⟨_, _, hle, _⟩ := hsp j f hj
  have h1 := body_id hm hj (its_s hi)
  have h2 := (its_rng hi).1
  unfold fOf at hs
  split at hs
  · rw [List.mem_singleton.1 hs]
    unfold okI at h2
    unfold okSt
    constructor
    · show it.s.id ≠ _
      omega
    · show it.next ≠ _
      omega
  · cases hs
theorem trap_row {p : Pg} (h : chkB p = true) {j : Nat} {f : Pr} (hj : p.procs[j]? = some f) {l : List Int} (hl : l ∈ trapsW (newWay p j f) f) : l.length ≤ cntL f.body + 2 ∧ ∀ id ∈ l, (offN p.procs j : Int) + 1 ≤ id ∧ id ≤ (offN p.procs j + cntL f.body : Nat) := by
  constructor
  · obtain ⟨i, _, _, _, rfl⟩ := traps_mem.1 hl
    exact trapR_len _ _ _ _
  · intro id hid
    obtain ⟨r, ht⟩ := trap_spec h hj hl
    obtain ⟨h1, h2⟩ := (ht.mem id).1 hid
    rcases h1 with rfl | rfl | h1
    · exact absurd h2 ht.n0
    · exact absurd h2 ht.nx
    · exact h1
theorem wayT {p : Pg} (h : chkB p = true) {j : Nat} {f : Pr} (hj : p.procs[j]? = some f) : WayT (newWay p j f) f (cntL f.body + 2) := by
  obtain ⟨_, _, hcn⟩ := chk_cnt h
  obtain ⟨_, _, _, hlen, hsp⟩ := sheet_spec p
  obtain ⟨_, _, hle, _⟩ := hsp j f hj
  refine ⟨rfl, hj, by show cntP p.procs ≤ 1000; omega, by omega, by omega, Nat.le_trans (real_len hj hcn) (by decide), prs_in h hj, ?_, fun l hl => ?_, fun s hs => (chk_way h hj).2.2 s (((real_spec h hj).2 s).1 hs), nextR_ok h hj⟩
  · have := trapL_len (placeI p j (cntL f.body + 2 : Nat)) (partW (newWay p j f) f) (openB (cntL f.body + 2) (partW (newWay p j f) f) (prsW (newWay p j f) f)) (cntL f.body + 2)
    have e : trapsW (newWay p j f) f = trapL (placeI p j (cntL f.body + 2 : Nat)) (partW (newWay p j f) f) (openB (cntL f.body + 2) (partW (newWay p j f) f) (prsW (newWay p j f) f)) (cntL f.body + 2) := by
      unfold trapsW
      rw [part_len]
      rfl
    rw [e]
    omega
  · obtain ⟨h1, h2⟩ := trap_row h hj hl
    refine ⟨by omega, fun id hid => ?_⟩
    have := h2 id hid
    show 1 ≤ id ∧ id ≤ (sheetOf p).l.length
    omega
def augO (p : Pg) (n : Str) : List Step := match wayO p n with
  | some w => (match w.p.procs[w.j]? with
    | some f => augW w f
    | none => [])
  | none => []
def dataO (p : Pg) (n : Str) : List Step := match wayO p n with
  | some w => (match w.p.procs[w.j]? with
    | some f => dataW w f
    | none => [])
  | none => []
theorem augO_some {p : Pg} {n : Str} {k : Nat} {f : Pr} (hw : wayO p n = some (newWay p k f)) (hk : p.procs[k]? = some f) : augO p n = augW (newWay p k f) f := by
  have h : (newWay p k f).p.procs[(newWay p k f).j]? = some f := hk
  unfold augO
  rw [hw]
  simp only
  rw [h]
theorem augO_none {p : Pg} {n : Str} (hw : wayO p n = none) : augO p n = [] := by
  unfold augO
  rw [hw]
theorem dataO_some {p : Pg} {n : Str} {k : Nat} {f : Pr} (hw : wayO p n = some (newWay p k f)) (hk : p.procs[k]? = some f) : dataO p n = dataW (newWay p k f) f := by
  have h : (newWay p k f).p.procs[(newWay p k f).j]? = some f := hk
  unfold dataO
  rw [hw]
  simp only
  rw [h]
theorem dataO_none {p : Pg} {n : Str} (hw : wayO p n = none) : dataO p n = [] := by
  unfold dataO
  rw [hw]
set_option maxRecDepth 100000 in
theorem aug_Of (p : Pg) (hf : Fit p) (n : Str) : SpecP Tryz.prog 43 [.agg p.cells, .str n] (fun r => r = eSteps (augO p n)) := by
  refine SpecP.body I_aug_Of tabOK Tryz.func43 rfl Tryz.call43 (by show 2 ≤ _; decide) ?_
  conv => whnf
  have hW := way_Of p hf n
  cases hw : wayO p n with
  | none =>
    rw [augO_none hw]
    rw [hw] at hW
    repeat' (refine CallK.pure hW (.cons (Sub.refl _) (.cons (Sub.refl _) .nil)) ?_; rintro _ rfl; conv => whnf)
    exact ⟨_, .p Sub.nils, rfl⟩
  | some w =>
    obtain ⟨k, f, hkj, rfl, hc, _⟩ := wayO_some hw
    have hw0 := hw
    rw [hw] at hW
    repeat' ((first | (refine CallK.pure hW (.cons (Sub.refl _) (.cons (Sub.refl _) .nil)) ?_; rintro _ rfl) | (refine CallK.pure (way_Way_Aug (newWay p k f) f (cntL f.body+2) (wayT hc hkj)) (.cons (Sub.refl _) .nil) ?_; rintro _ rfl)); conv => whnf)
    exact RetK.p (by rw [augO_some hw0 hkj])
set_option maxRecDepth 100000 in
theorem aug_Data (p : Pg) (hf : Fit p) (n : Str) : SpecP Tryz.prog 44 [.agg p.cells, .str n] (fun r => r = eSteps (dataO p n)) := by
  refine SpecP.body I_aug_Data tabOK Tryz.func44 rfl Tryz.call44 (by show 2 ≤ _; decide) ?_
  conv => whnf
  have hW := way_Of p hf n
  cases hw : wayO p n with
  | none =>
    rw [dataO_none hw]
    rw [hw] at hW
    repeat' (refine CallK.pure hW (.cons (Sub.refl _) (.cons (Sub.refl _) .nil)) ?_; rintro _ rfl; conv => whnf)
    exact ⟨_, .p Sub.nils, rfl⟩
  | some w =>
    obtain ⟨k, f, hkj, rfl, hc, _⟩ := wayO_some hw
    have hw0 := hw
    rw [hw] at hW
    repeat' ((first | (refine CallK.pure hW (.cons (Sub.refl _) (.cons (Sub.refl _) .nil)) ?_; rintro _ rfl) | (refine CallK.pure (way_Way_Data (newWay p k f) f (cntL f.body+2) (wayT hc hkj)) (.cons (Sub.refl _) .nil) ?_; rintro _ rfl)); conv => whnf)
    exact RetK.p (by rw [dataO_some hw0 hkj])
set_option maxRecDepth 100000 in
theorem whittlerlaw16_small (p : Pg) (hf : Fit p) (most : Int) : SpecP Tryz.prog 46 [.agg p.cells, .int .i64 most] (fun r => r = .bool (smallB p most)) := by
  refine SpecP.body I_whittlerlaw16_small tabOK Tryz.func46 rfl Tryz.call46 (by show 2 ≤ _; decide) ?_
  conv => whnf
  have hC := check_May p hf
  unfold smallB
  cases hc : chkB p with
  | false =>
    rw [hc] at hC
    repeat' (first | (refine CallK.pure hC (.cons (Sub.refl _) .nil) ?_; rintro _ rfl; conv => whnf) | (refine Br.b (fun _ => ?_) (fun _ => ?_) <;> conv => whnf))
    all_goals first
      | contradiction
      | exact RetK.ff rfl
  | true =>
    rw [hc] at hC
    have hcn := (chk_cnt hc).2.2
    repeat' (first | ((first | (refine CallK.pure hC (.cons (Sub.refl _) .nil) ?_; rintro _ rfl) | (refine CallK.pure (tree_Count p (by omega)) (.cons (Sub.refl _) .nil) ?_; rintro _ rfl)); conv => whnf) | (refine Br.b (fun _ => ?_) (fun _ => ?_) <;> conv => whnf))
    all_goals first
      | contradiction
      | exact RetK.bool (by simp)
end Go.Ab
