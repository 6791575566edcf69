/- ref3: a program with two names changed for each other. -/
import Derived.Test.YtngohbblmlokoaaGreatCfgS14
set_option linter.unusedSimpArgs false
set_option linter.unusedVariables false
namespace Go.Ab
open Go.Proofs
set_option maxHeartbeats 8000000 in
set_option maxRecDepth 100000 in
theorem whittlerref3_Swap (a b : Str) (p : Pg) (hpl : p.procs.length ≤ 1000) (hgl : p.globals.length ≤ 1000000) (hpr : ∀ f ∈ p.procs, f.vars.length ≤ 1000000 ∧ f.fin.length ≤ 1000000 ∧ f.params.length ≤ 1000000 ∧ cntL f.body ≤ 1000000 ∧ ∀ t ∈ flL f.body, okC t) : SpecP Tryz.prog 19 [.agg p.cells, .str a, .str b] (fun r => r = .agg (swPg a b p).cells) := by
  refine SpecP.body I_whittlerref3_Swap tabOK Tryz.func19 rfl Tryz.call19 (by show 3 ≤ _; decide) ?_
  conv => whnf
  have hgt := whittlerref3_SwapTexts p.globals a b hgl
  have hpm : (p.procs.map fun f => AV.agg f.cells).length = p.procs.length := List.length_map _
  repeat' ((first | (intro (_ : _ ≤ 9223372036854775807)) | (refine And.intro rfl ?_) | (refine CallK.pure hgt (.cons (Sub.refl _) (.cons (Sub.refl _) (.cons (Sub.refl _) .nil))) ?_; rintro _ rfl)); conv => whnf)
  refine LoopK.inv tabOK (fun j : Nat => ⟨[(1, .p (.str a)), (2, .p (.str b)), (6, .ptr 1 0), (7, .ptr 0 0), (20, .p (.sl (p.procs.map fun f => AV.agg f.cells))), (21, .p (.int .i64 (p.procs.map fun f => AV.agg f.cells).length)), (22, .p (.int .i64 j))], [(0, .obj 25 [.p (eStrs (p.globals.map (otherS a b))), .hd 2 0 j]), (1, .obj 25 [.p .nils, .p .nils]), (2, .own 75 5 ((p.procs.take j).map fun f => .agg (swPr a b f).cells))]⟩) (fun j => j ≤ p.procs.length) (fun j => p.procs.length - j) 0
    (Le.mk [(2, .own 75 5 [])] (by simp [Chunk.new0]; rfl) (by simp) (by simp) (.cons (.refl _) (.cons (.refl _) (.cons (.refl _) (.cons (.refl _) (.cons (.refl _) (.cons (.refl _) (.cons (.refl _) .nil))))))) (.cons rfl (.obj (.cons (.refl _) (.cons (.nil List.mem_cons_self) .nil))) (.cons rfl (.refl _) (.new List.mem_cons_self .nil)))) (Nat.zero_le _) ?_
  intro j h2
  rcases Nat.lt_or_ge j p.procs.length with hj | hj
  · obtain ⟨hv, hfin, hpm2, hcb, hok⟩ := hpr _ (List.getElem_mem hj)
    have h5 := whittlerref3_SwapTexts p.procs[j].vars a b hv
    have h6 := whittlerref3_SwapTexts p.procs[j].fin a b hfin
    have h7 := whittlerref3_SwapStmts a b (cntL p.procs[j].body + 1) p.procs[j].body (by omega) hcb hok
    have htl : ((p.procs.take j).map fun f => AV.agg (swPr a b f).cells).length = j := by rw [List.length_map, List.length_take]; omega
    have htk : ((p.procs.take (j + 1)).map fun f => AV.agg (swPr a b f).cells) = ((p.procs.take j).map fun f => AV.agg (swPr a b f).cells) ++ [.agg (swPr a b p.procs[j]).cells] := by
      rw [List.take_succ_eq_append_getElem hj, List.map_append]
      rfl
    generalize ((p.procs.take j).map fun f => AV.agg (swPr a b f).cells) = acc at htl htk ⊢
    have hpa : (p.procs[j].params.map fun x => AV.agg x.cells).length = p.procs[j].params.length := List.length_map _
    conv => whnf
    repeat' (first | ((first | (intro (_ : _ ≤ 9223372036854775807)) | (refine CallK.pure (whittlerref3_other _ _ _) (by repeat' (first | exact ArgP.nil | refine ArgP.cons ?_ ?_ | exact Sub.refl _ | exact Sub.tt rfl | exact Sub.ff rfl)) ?_; rintro _ rfl) | (refine DrawK.auto tabOK mixed (by kernel_rfl) ?_) | (refine And.intro rfl ?_) | (refine IdxK.map (by omega) (fun _ => rfl) ?_) | (refine CallK.pure h5 (.cons (Sub.refl _) (.cons (Sub.refl _) (.cons (Sub.refl _) .nil))) ?_; rintro _ rfl) | (refine CallK.pure h6 (.cons (Sub.refl _) (.cons (Sub.refl _) (.cons (Sub.refl _) .nil))) ?_; rintro _ rfl) | (refine CallK.pure h7 (.cons (Sub.refl _) (.cons (Sub.refl _) (.cons (Sub.refl _) .nil))) ?_; rintro _ rfl)); conv => whnf) | (refine Br.dec (fun _ => ?_) (fun _ => ?_) <;> first | (exfalso; omega) | conv => whnf) | (refine And.intro ?_ ?_ <;> conv => whnf))
    all_goals
      refine LoopK.inv tabOK (fun i : Nat => ⟨[(1, .p (.str a)), (2, .p (.str b)), (6, .ptr 1 0), (7, .ptr 0 0), (10, .ptr 3 0), (20, .p (.sl (p.procs.map fun f => AV.agg f.cells))), (21, .p (.int .i64 (p.procs.map fun f => AV.agg f.cells).length)), (22, .p (.int .i64 j)), (48, .p (.sl (p.procs[j].params.map fun x => AV.agg x.cells))), (49, .p (.int .i64 (p.procs[j].params.map fun x => AV.agg x.cells).length)), (50, .p (.int .i64 i))], [(3, .obj 75 [.p (.str (otherS a b p.procs[j].name)), .hd 4 0 i, .p (eStrs (p.procs[j].vars.map (otherS a b))), .p (eSs (swL a b p.procs[j].body)), .p (eStrs (p.procs[j].fin.map (otherS a b)))]), (0, .obj 25 [.p (eStrs (p.globals.map (otherS a b))), .hd 2 0 j]), (1, .obj 25 [.p .nils, .p .nils]), (2, .own 75 5 acc), (4, .own 78 2 ((p.procs[j].params.take i).map fun x => .agg (swPm a b x).cells))]⟩) (fun i => i ≤ p.procs[j].params.length) (fun i => p.procs[j].params.length - i) 0
        (Le.mk [(4, .own 78 2 [])] (by simp [Chunk.new0]; rfl) (by simp) (by simp) (.cons (.refl _) (.cons (.refl _) (.cons (.refl _) (.cons (.refl _) (.cons (.refl _) (.cons (.refl _) (.cons (.refl _) (.cons (.refl _) (.cons (.refl _) (.cons (.refl _) (.cons (.refl _) (.nil)))))))))))) (.cons rfl (.obj (.cons (.refl _) (.cons (.nil List.mem_cons_self) (.cons (.refl _) (.cons (.refl _) (.cons (.refl _) .nil)))))) (.cons rfl (.refl _) (.cons rfl (.refl _) (.cons rfl (.refl _) (.new List.mem_cons_self .nil)))))) (Nat.zero_le _) ?_
      intro i h3
      rcases Nat.lt_or_ge i p.procs[j].params.length with hi | hi
      · have htk2 : ((p.procs[j].params.take (i + 1)).map fun x => AV.agg (swPm a b x).cells) = ((p.procs[j].params.take i).map fun x => AV.agg (swPm a b x).cells) ++ [.agg (swPm a b p.procs[j].params[i]).cells] := by
          rw [List.take_succ_eq_append_getElem hi, List.map_append]
          rfl
        have hcl : ((p.procs[j].params.take i).map fun x => AV.agg (swPm a b x).cells).length = i := by rw [List.length_map, List.length_take]; omega
        generalize ((p.procs[j].params.take i).map fun x => AV.agg (swPm a b x).cells) = accA at htk2 hcl ⊢
        conv => whnf
        repeat' (first | ((first | (refine CallK.pure (whittlerref3_other _ _ _) (by repeat' (first | exact ArgP.nil | refine ArgP.cons ?_ ?_ | exact Sub.refl _ | exact Sub.tt rfl | exact Sub.ff rfl)) ?_; rintro _ rfl) | (refine DrawK.auto tabOK mixed (by kernel_rfl) ?_) | (refine And.intro rfl ?_) | (refine And.intro ⟨by decide, by decide⟩ ?_) | (refine BsK.pure (fun x hx => by rcases List.mem_singleton.1 hx with rfl; rfl) rfl ?_) | (refine IdxK.map (by omega) (fun _ => rfl) ?_) | (refine Wr.i64 (by omega) (by omega) ?_) | (refine AppK.mk hcl.symm rfl (by show (i+1) * 24 ≤ 140737488355328; omega) (by show i+1 ≤ 9223372036854775807; omega) (fun x hx => by rcases List.mem_singleton.1 hx with rfl; exact ⟨rfl, rfl⟩) ?_)); conv => whnf) | (refine Br.dec (fun _ => ?_) (fun _ => ?_) <;> first | (exfalso; omega) | conv => whnf) | (refine And.intro ?_ ?_ <;> conv => whnf))
        all_goals exact ⟨i + 1, hi, by omega, Le.of_eq (by rw [htk2]; rfl)⟩
      · have hA : ((p.procs[j].params.take i).map fun x => AV.agg (swPm a b x).cells) = ((swPr a b p.procs[j]).params.map fun x => .agg x.cells) := by
          rw [List.take_of_length_le hi]
          show _ = (p.procs[j].params.map (swPm a b)).map _
          rw [List.map_map]
          rfl
        have hcl : i = ((p.procs[j].params.take i).map fun x => AV.agg (swPm a b x).cells).length := by rw [List.length_map, List.length_take]; omega
        generalize ((p.procs[j].params.take i).map fun x => AV.agg (swPm a b x).cells) = accA at hA hcl ⊢
        conv => whnf
        repeat' (refine Br.dec (fun _ => ?_) (fun _ => ?_) <;> first | (exfalso; omega) | conv => whnf)
        refine OpK.layAgg tabOK (k := 4) 70 (swPr a b p.procs[j]).cells rfl rfl rfl (fun q u c h1 h2 => ?_) ?_
        · match q, h1, h2 with
          | 0, h1, h2 => cases h1; cases h2; exact .inl ⟨_, rfl, Sub.refl _⟩
          | 1, h1, h2 => cases h1; cases h2; exact .inr ⟨_, rfl, hcl, by rw [hA]⟩
          | 2, h1, h2 => cases h1; cases h2; exact .inl ⟨_, rfl, Sub.refl _⟩
          | 3, h1, h2 => cases h1; cases h2; exact .inl ⟨_, rfl, Sub.refl _⟩
          | 4, h1, h2 => cases h1; cases h2; exact .inl ⟨_, rfl, Sub.refl _⟩
          | q + 5, h1, h2 => simp at h1
        conv => whnf
        repeat' ((first | (refine And.intro rfl ?_) | (refine And.intro ⟨by decide, by decide⟩ ?_) | (refine BsK.pure (fun x hx => by rcases List.mem_singleton.1 hx with rfl; rfl) rfl ?_) | (refine Wr.i64 (by omega) (by omega) ?_) | (refine AppK.mk htl.symm rfl (by show (j+1) * 112 ≤ 140737488355328; omega) (by show j+1 ≤ 9223372036854775807; omega) (fun x hx => by rcases List.mem_singleton.1 hx with rfl; exact ⟨rfl, rfl⟩) ?_)); conv => whnf)
        exact ⟨j + 1, hj, by omega, Le.of_eq (by rw [htk]; rfl)⟩
  · have hA : ((p.procs.take j).map fun f => AV.agg (swPr a b f).cells) = ((swPg a b p).procs.map fun f => .agg f.cells) := by
      rw [List.take_of_length_le hj]
      show _ = (p.procs.map (swPr a b)).map _
      rw [List.map_map]
      rfl
    have hcl : j = ((p.procs.take j).map fun f => AV.agg (swPr a b f).cells).length := by rw [List.length_map, List.length_take]; omega
    generalize ((p.procs.take j).map fun f => AV.agg (swPr a b f).cells) = acc at hA hcl ⊢
    conv => whnf
    repeat' (first | (refine And.intro rfl ?_; conv => whnf) | (refine Br.dec (fun _ => ?_) (fun _ => ?_) <;> first | (exfalso; omega) | conv => whnf))
    refine ⟨_, .agg (cs := (swPg a b p).cells) rfl fun i l c h1 h3 => ?_, rfl⟩
    match i, h1, h3 with
    | 0, h1, h3 => cases h1; cases h3; exact .p (Sub.refl _)
    | 1, h1, h3 =>
      cases h1
      cases h3
      show Frz _ _ (.sl ((swPg a b p).procs.map fun f => .agg f.cells))
      rw [← hA]
      exact .hd rfl hcl
    | i + 2, h1, h3 => simp at h1
end Go.Ab
namespace Go.Ab
open Go.Proofs
theorem may_name (a : Str) : mayX (.mk 2 0 a []) = isName a := by
  unfold mayX
  rw [deepB]
  show (decide ((0 : Int) = kidsN 2) && (if (2 : Int) = 1 then _ else if (2 : Int) = 2 then decide ((0 : Int) = 0) && isName a else _)) = isName a
  simp [kidsN]
theorem okC_of {p : Pg} (h : Fit p) {f : Pr} (hf : f ∈ p.procs) : ∀ t ∈ flL f.body, okC t := fun t ht => by
  have h1 := h.pr hf
  unfold wPr at h1
  have h2 := flL_w _ _ ht
  have h3 := wS_eq t
  have h4 := wTxs_len t.labels
  have h5 := wArgs_len t.args
  refine ⟨by omega, by omega, by omega, fun a ha => ?_⟩
  have key : ∀ (l : List Arg), a ∈ l → wX a.x ≤ wArgs l := fun l => by
    induction l with
    | nil => intro h; cases h
    | cons b r ih =>
      intro h
      rw [wArgs]
      rcases List.mem_cons.1 h with rfl | h
      · omega
      · have := ih h; omega
  have := key _ ha
  omega
theorem swap_ok {p : Pg} (h : Fit p) (hc : chkB p = true) : p.procs.length ≤ 1000 ∧ p.globals.length ≤ 1000000 ∧ ∀ f ∈ p.procs, f.vars.length ≤ 1000000 ∧ f.fin.length ≤ 1000000 ∧ f.params.length ≤ 1000000 ∧ cntL f.body ≤ 1000000 ∧ ∀ t ∈ flL f.body, okC t := by
  obtain ⟨h1, h2, h3⟩ := chk_cnt hc
  refine ⟨by omega, by omega, fun f hf => ?_⟩
  have h4 := h.pr hf
  unfold wPr at h4
  have h5 := wTxs_len f.vars
  have h6 := wTxs_len f.fin
  have h7 := wPms_len f.params
  have h8 := cnt_wL f.body
  exact ⟨by omega, by omega, by omega, by omega, okC_of h hf⟩
set_option maxHeartbeats 8000000 in
set_option maxRecDepth 100000 in
theorem whittlerlaw15_CfgSwap (p : Pg) (a b : Str) (n id : Int) : SpecP Tryz.prog 3 [.agg p.cells, .str a, .str b, .int .i64 n, .int .i64 id] (fun r => r = .tt) := by
  refine SpecP.body I_whittlerlaw15_CfgSwap tabOK Tryz.func3 rfl Tryz.call3 (by show 5 ≤ _; decide) ?_
  conv => whnf
  cases hfb : fitB p with
  | false =>
    have hno : ¬ gPg p ≤ 20000 := by unfold fitB at hfb; simpa using hfb
    repeat' (first | ((first | (refine CallK.pure (whittlerref3_Fits _) (by repeat' (first | exact ArgP.nil | refine ArgP.cons ?_ ?_ | exact Sub.refl _ | exact Sub.tt rfl | exact Sub.ff rfl)) ?_; rintro _ rfl) | (refine CallK.pure whittlerlaw15_flowing .nil ?_; rintro _ rfl)); conv => whnf) | (refine Br.dec2 (fun _ => ?_) (fun _ => ?_) <;> first | (exfalso; omega) | conv => whnf))
    all_goals first
      | exact ⟨_, .p (Sub.refl _), rfl⟩
      | (exfalso; simp_all; done)
  | true =>
    have hf : Fit p := fit_of hfb
    have hfit : gPg p ≤ 20000 := by unfold fitB at hfb; simpa using hfb
    have hC := check_May p hf
    cases hc : chkB p with
    | false =>
      rw [hc] at hC
      repeat' (first | ((first | (refine CallK.pure (whittlerref3_Fits _) (by repeat' (first | exact ArgP.nil | refine ArgP.cons ?_ ?_ | exact Sub.refl _ | exact Sub.tt rfl | exact Sub.ff rfl)) ?_; rintro _ rfl) | (refine And.intro rfl ?_) | (refine CallK.pure whittlerlaw15_flowing .nil ?_; rintro _ rfl) | (refine CallK.pure hC (.cons (Sub.refl _) .nil) ?_; rintro _ rfl)); conv => whnf) | (refine Br.dec2 (fun _ => ?_) (fun _ => ?_) <;> first | (exfalso; omega) | conv => whnf) | (refine Br.n (fun _ => ?_) (fun _ => ?_) <;> conv => whnf) | (refine Br.b (fun _ => ?_) (fun _ => ?_) <;> conv => whnf))
      all_goals first
        | contradiction
        | exact ⟨_, .p (Sub.refl _), rfl⟩
    | true =>
      rw [hc] at hC
      have hMA := tree_MayExpr (.mk 2 0 a [])
      have hMB := tree_MayExpr (.mk 2 0 b [])
      rw [may_name] at hMA hMB
      have subX : ∀ s : Str, Sub (.agg [.int .i64 2, .int .i64 0, .str s, .nils]) (.agg (X.mk 2 0 s []).cells) := fun s => Sub.agg (.cons (Sub.refl _) (.cons (Sub.refl _) (.cons (Sub.refl _) (.cons Sub.nils .nil))))
      by_cases hnames : isName a = true ∧ isName b = true ∧ a ≠ mainS ∧ b ≠ mainS
      · obtain ⟨hna, hnb, hma, hmb⟩ := hnames
        rw [hna] at hMA
        rw [hnb] at hMB
        have R : Ren a b := ⟨hna, hnb, hma, hmb⟩
        have hf2 : Fit (swPg a b p) := fit_sw hf
        obtain ⟨o1, o2, o3⟩ := swap_ok hf hc
        have hS := whittlerref3_Swap a b p o1 o2 o3
        have hc2 : chkB (swPg a b p) = true := by rw [chkB_sw R, hc]
        have hP1 := whittlerref6_ProcAt p n (fit_procs hc)
        have hP2 := whittlerref6_ProcAt (swPg a b p) n (fit_procs hc2)
        have hB1 := cfg_Behind p hf id
        have hB2 := cfg_Behind (swPg a b p) hf2 id
        rw [behR_sw R] at hB2
        have hO1 := cfg_Of p hf (procAtR p n)
        have hO2 := cfg_Of (swPg a b p) hf2 (procAtR (swPg a b p) n)
        have hL1 := cfg_Live p hf (procAtR p n)
        have hL2 := cfg_Live (swPg a b p) hf2 (procAtR (swPg a b p) n)
        rw [procAt_sw R] at hP2 hO2 hL2
        rw [ofR_sw R] at hO2
        rw [liveR_sw R] at hL2
        have hE1 := cfg_Ends p hf
        have hE2 := cfg_Ends (swPg a b p) hf2
        have hle := endsR_sw R p
        have hQ1 := whittlerref14_EqSteps (ofR p (procAtR p n)) (ofR p (procAtR p n))
        have hQ2 := whittlerref12_EqInts (liveR p (procAtR p n)) (liveR p (procAtR p n))
        rw [decide_eq_true rfl] at hQ1 hQ2
        have hma' : (a == ([109, 97, 105, 110] : Str)) = false := beq_eq_false_iff_ne.2 hma
        have hmb' : (b == ([109, 97, 105, 110] : Str)) = false := beq_eq_false_iff_ne.2 hmb
        generalize otherS a b (procAtR p n) = pn2 at *
        generalize procAtR p n = pn1 at *
        generalize ofR p pn1 = L at *
        generalize liveR p pn1 = LV at *
        generalize endsR p = E1 at *
        generalize endsR (swPg a b p) = E2 at *
        generalize swPg a b p = q at *
        have hl1 : (E1.map AV.str).length = E1.length := List.length_map _
        have hl2 : (E2.map AV.str).length = E2.length := List.length_map _
        generalize behR p id = bh at *
        obtain ⟨x, ok⟩ := bh
        simp only at hB1 hB2
        cases ok <;>
        repeat' (first | ((first | (intro (_ : _ ≤ 9223372036854775807)) | (refine CallK.pure (whittlerref3_Fits _) (by repeat' (first | exact ArgP.nil | refine ArgP.cons ?_ ?_ | exact Sub.refl _ | exact Sub.tt rfl | exact Sub.ff rfl)) ?_; rintro _ rfl) | (refine DrawK.auto tabOK mixed (by kernel_rfl) ?_) | (refine And.intro rfl ?_) | (refine CallK.pure whittlerlaw15_flowing .nil ?_; rintro _ rfl) | (refine CallK.pure hC (.cons (Sub.refl _) .nil) ?_; rintro _ rfl) | (refine CallK.pure hMA (.cons (subX _) .nil) ?_; rintro _ rfl) | (refine CallK.pure hMB (.cons (subX _) .nil) ?_; rintro _ rfl) | (refine CallK.pure hS (.cons (Sub.refl _) (.cons (Sub.refl _) (.cons (Sub.refl _) .nil))) ?_; rintro _ rfl) | (refine CallK.pure hP1 (.cons (Sub.refl _) (.cons (Sub.refl _) .nil)) ?_; rintro _ rfl) | (refine CallK.pure hP2 (.cons (Sub.refl _) (.cons (Sub.refl _) .nil)) ?_; rintro _ rfl) | (refine CallK.pure hB1 (.cons (Sub.refl _) (.cons (Sub.refl _) .nil)) ?_; rintro _ rfl) | (refine CallK.pure hB2 (.cons (Sub.refl _) (.cons (Sub.refl _) .nil)) ?_; rintro _ rfl) | (refine CallK.pure hO1 (.cons (Sub.refl _) (.cons (Sub.refl _) .nil)) ?_; rintro _ rfl) | (refine CallK.pure hO2 (.cons (Sub.refl _) (.cons (Sub.refl _) .nil)) ?_; rintro _ rfl) | (refine CallK.pure hQ1 (.cons (Sub.refl _) (.cons (Sub.refl _) .nil)) ?_; rintro _ rfl) | (refine CallK.pure hL1 (.cons (Sub.refl _) (.cons (Sub.refl _) .nil)) ?_; rintro _ rfl) | (refine CallK.pure hL2 (.cons (Sub.refl _) (.cons (Sub.refl _) .nil)) ?_; rintro _ rfl) | (refine CallK.pure hQ2 (.cons (Sub.refl _) (.cons (Sub.refl _) .nil)) ?_; rintro _ rfl) | (refine CallK.pure hE1 (.cons (Sub.refl _) .nil) ?_; rintro _ rfl) | (refine CallK.pure hE2 (.cons (Sub.refl _) .nil) ?_; rintro _ rfl) | (refine ValO.boolEql tabOK rfl rfl rfl rfl rfl ?_)); conv => whnf) | (refine Br.dec (fun _ => ?_) (fun _ => ?_) <;> first | (exfalso; omega) | conv => whnf) | (refine Br.dec2 (fun _ => ?_) (fun _ => ?_) <;> first | (exfalso; omega) | conv => whnf) | (refine Br.n (fun _ => ?_) (fun _ => ?_) <;> conv => whnf) | (refine Br.b (fun _ => ?_) (fun _ => ?_) <;> conv => whnf))
        all_goals first
          | exact ⟨_, .p (Sub.refl _), rfl⟩
          | exact ⟨_, .p (Sub.tt' (by simp [hl1, hl2, hle])), rfl⟩
          | (exfalso; simp_all; done)
          | trace_state
      · have hna : True := trivial
        repeat' (first | ((first | (refine CallK.pure (whittlerref3_Fits _) (by repeat' (first | exact ArgP.nil | refine ArgP.cons ?_ ?_ | exact Sub.refl _ | exact Sub.tt rfl | exact Sub.ff rfl)) ?_; rintro _ rfl) | (refine And.intro rfl ?_) | (refine CallK.pure whittlerlaw15_flowing .nil ?_; rintro _ rfl) | (refine CallK.pure hC (.cons (Sub.refl _) .nil) ?_; rintro _ rfl) | (refine CallK.pure hMA (.cons (subX _) .nil) ?_; rintro _ rfl) | (refine CallK.pure hMB (.cons (subX _) .nil) ?_; rintro _ rfl)); conv => whnf) | (refine Br.dec2 (fun _ => ?_) (fun _ => ?_) <;> first | (exfalso; omega) | conv => whnf) | (refine Br.n (fun _ => ?_) (fun _ => ?_) <;> conv => whnf) | (refine Br.b (fun _ => ?_) (fun _ => ?_) <;> conv => whnf))
        all_goals first
          | exact ⟨_, .p (Sub.refl _), rfl⟩
          | (exfalso; simp_all; done)
          | (exfalso; simp_all [mainS]; done)
          | trace_state
end Go.Ab
