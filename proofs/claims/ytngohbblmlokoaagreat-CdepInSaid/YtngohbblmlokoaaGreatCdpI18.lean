/- cdep: who decides whom, by whom a statement is decided, in whom it stands; the reference: the ids of a kind. -/
import Derived.Test.YtngohbblmlokoaaGreatCdpI17
set_option linter.unusedSimpArgs false
set_option linter.unusedVariables false
namespace Go.Ab
open Go.Proofs
def kindB (k : Int) (x : RI) : Bool := decide (k = 0) || decide (x.s.kind = k)
def idsR (p : Pg) (k : Int) : List Int := ((allR p).filter (kindB k)).map fun x => x.s.id
set_option maxHeartbeats 1000000 in
set_option maxRecDepth 100000 in
theorem whittlerref6_Ids (p : Pg) (k : Int) (hl : (allR p).length ≤ 1000) : SpecP Tryz.prog 41 [.agg p.cells, .int .i64 k] (fun r => r = eInts (idsR p k)) := by
  refine SpecP.body I_whittlerref6_Ids tabOK Tryz.func41 rfl Tryz.call41 (by show 2 ≤ _; decide) ?_
  conv => whnf
  have hrl := ri_len (allR p)
  repeat' ((first | (intro (_ : _ ≤ 9223372036854775807)) | (refine CallK.pure (whittlerref3_All _) (by repeat' (first | exact ArgP.nil | refine ArgP.cons ?_ ?_ | exact Sub.refl _ | exact Sub.tt rfl | exact Sub.ff rfl)) ?_; rintro _ rfl)); conv => whnf)
  refine LoopK.inv tabOK (fun x : Nat × List Int => ⟨[(1, .p (.int .i64 k)), (5, .hd 0 0 x.2.length), (9, .p (eRIs (allR p))), (10, .p (.int .i64 ((allR p).map fun i => AV.agg i.cells).length)), (11, .p (.int .i64 x.1))], [(0, .own 3 1 (x.2.map (.int .i64)))]⟩) (fun x => x.1 ≤ (allR p).length ∧ x.2.length ≤ x.1 ∧ x.2 ++ (((allR p).drop x.1).filter (kindB k)).map (fun y => y.s.id) = idsR p k) (fun x => (allR p).length - x.1) (0, [])
    (Le.mk [(0, .own 3 1 [])] (by simp [Chunk.new0]; rfl) (by simp) (by simp) (.cons (.refl _) (.cons (.nil List.mem_cons_self) (.cons (.refl _) (.cons (.refl _) (.cons (.refl _) .nil))))) (.new List.mem_cons_self .nil)) ⟨Nat.zero_le _, Nat.le_refl _, rfl⟩ ?_
  rintro ⟨j, o⟩ ⟨h2, h4, h3⟩
  simp only at h2 h3 h4 ⊢
  generalize hL : allR p = L at h2 h3 hrl hl ⊢
  rcases Nat.lt_or_ge j L.length with hj | hj
  · rw [List.drop_eq_getElem_cons hj] at h3
    conv => whnf
    repeat' (first | ((first | (refine And.intro rfl ?_) | (refine And.intro ⟨by decide, by decide⟩ ?_) | (refine BsK.pure (fun x hx => by rcases List.mem_singleton.1 hx with rfl; rfl) rfl ?_) | (refine IdxK.map (by omega) (fun _ => rfl) ?_) | (refine Wr.i64 (by omega) (by omega) ?_) | (refine AppK.int1 (by simp) (by simp; omega) ?_)); conv => whnf) | (refine Br.dec (fun _ => ?_) (fun _ => ?_) <;> first | (exfalso; omega) | conv => whnf))
    all_goals first
      | (have e : kindB k L[j] = true := by unfold kindB; simp [*]; done
         rw [List.filter_cons_of_pos e, List.map_cons] at h3
         exact ⟨(j + 1, o ++ [L[j].s.id]), ⟨hj, by simp; omega, by rw [List.append_assoc]; exact h3⟩, by simp only; omega, Le.of_eq (by simp only [List.length_append, List.map_append, List.length_map]; rfl)⟩)
      | (have e : kindB k L[j] = false := by unfold kindB; simp [*]; done
         rw [List.filter_cons_of_neg (fun hh => by rw [e] at hh; cases hh)] at h3
         exact ⟨(j + 1, o), ⟨hj, by simp only; omega, h3⟩, by simp only; omega, Le.of_eq rfl⟩)
      | trace_state
  · rw [List.drop_eq_nil_of_le hj] at h3
    simp only [List.filter_nil, List.map_nil, List.append_nil] at h3
    conv => whnf
    repeat' (refine Br.dec (fun _ => ?_) (fun _ => ?_) <;> first | (exfalso; omega) | conv => whnf)
    all_goals first
      | exact ⟨_, .hd rfl (by simp), by rw [← h3]; rfl⟩
      | trace_state
noncomputable def decO (p : Pg) (n : Str) : List (Int × Int) := match wayO p n with
  | some w => (match w.p.procs[w.j]? with
    | some f => decL w f (cntL f.body + 2)
    | none => [])
  | none => []
theorem decO_some {p : Pg} {n : Str} {k : Nat} {f : Pr} (hw : wayO p n = some (newWay p k f)) (hk : p.procs[k]? = some f) : decO p n = decL (newWay p k f) f (cntL f.body + 2) := by
  have h : (newWay p k f).p.procs[(newWay p k f).j]? = some f := hk
  unfold decO
  rw [hw]
  simp only
  rw [h]
theorem decO_none {p : Pg} {n : Str} (hw : wayO p n = none) : decO p n = [] := by
  unfold decO
  rw [hw]
theorem decO_len (p : Pg) (n : Str) : (decO p n).length ≤ 1000000 := by
  cases hw : wayO p n with
  | none => rw [decO_none hw]; simp
  | some w =>
    obtain ⟨k, f, hkj, rfl, hc, _⟩ := wayO_some hw
    obtain ⟨_, _, hcn⟩ := chk_cnt hc
    obtain ⟨_, _, _, hlen, hsp⟩ := sheet_spec p
    obtain ⟨_, _, hle, _⟩ := hsp k f hkj
    rw [decO_some hw hkj]
    have h1 := decL_len (f := f) (newWay p k f) (cntL f.body + 2)
    have h2 : (cntL f.body + 2) * (cntL f.body + 2) ≤ 202 * 202 := Nat.mul_le_mul (by omega) (by omega)
    omega
set_option maxRecDepth 100000 in
theorem cdep_Of (p : Pg) (hf : Fit p) (n : Str) : SpecP Tryz.prog 48 [.agg p.cells, .str n] (fun r => r = .sl (avP (decO p n))) := by
  refine SpecP.body I_cdep_Of tabOK Tryz.func48 rfl Tryz.call48 (by show 2 ≤ _; decide) ?_
  conv => whnf
  have hW := way_Of p hf n
  cases hw : wayO p n with
  | none =>
    rw [decO_none hw]
    rw [hw] at hW
    repeat' (refine CallK.pure hW (.cons (Sub.refl _) (.cons (Sub.refl _) .nil)) ?_; rintro _ rfl; conv => whnf)
    exact ⟨_, .p Sub.nils, rfl⟩
  | some w =>
    obtain ⟨k, f, hkj, rfl, hc, _⟩ := wayO_some hw
    have hw0 := hw
    rw [hw] at hW
    repeat' ((first | (refine CallK.pure hW (.cons (Sub.refl _) (.cons (Sub.refl _) .nil)) ?_; rintro _ rfl) | (refine CallK.pure (way_Way_Decides (newWay p k f) f (cntL f.body+2) (wayT hc hkj) (prsA_in hc hkj) (Nat.le_trans (aug_len hc hkj) (by decide))) (.cons (Sub.refl _) .nil) ?_; rintro _ ⟨fm, M, h1, h2, h3, rfl⟩)); conv => whnf)
    exact RetK.p (by rw [decO_some hw0 hkj, ← decL_eq h1 h3])
noncomputable def byR (p : Pg) (n : Str) (id : Int) : List Int := ((decO p n).filter fun d => decide (d.2 = id)).map Prod.fst
set_option maxHeartbeats 1000000 in
set_option maxRecDepth 100000 in
theorem cdep_By (p : Pg) (hf : Fit p) (n : Str) (id : Int) : SpecP Tryz.prog 47 [.agg p.cells, .str n, .int .i64 id] (fun r => r = eInts (byR p n id)) := by
  refine SpecP.body I_cdep_By tabOK Tryz.func47 rfl Tryz.call47 (by show 3 ≤ _; decide) ?_
  conv => whnf
  have hO := cdep_Of p hf n
  have hlen := decO_len p n
  have hB : byR p n id = ((decO p n).filter fun d => decide (d.2 = id)).map Prod.fst := rfl
  generalize decO p n = L at hO hlen hB
  generalize byR p n id = B at hB
  have hal : (avP L).length = L.length := by unfold avP; rw [List.length_map]
  repeat' ((first | (intro (_ : _ ≤ 9223372036854775807)) | (refine CallK.pure hO (.cons (Sub.refl _) (.cons (Sub.refl _) .nil)) ?_; rintro _ rfl)); conv => whnf)
  refine LoopK.inv tabOK (fun x : Nat × List Int => ⟨[(2, .p (.int .i64 id)), (7, .hd 0 0 x.2.length), (12, .p (.sl (avP L))), (13, .p (.int .i64 (avP L).length)), (14, .p (.int .i64 x.1))], [(0, .own 3 1 (x.2.map (.int .i64)))]⟩) (fun x => x.1 ≤ L.length ∧ x.2.length ≤ x.1 ∧ x.2 ++ ((L.drop x.1).filter fun d => decide (d.2 = id)).map Prod.fst = B) (fun x => L.length - x.1) (0, [])
    (Le.mk [(0, .own 3 1 [])] (by simp [Chunk.new0]; rfl) (by simp) (by simp) (.cons (.refl _) (.cons (.nil List.mem_cons_self) (.cons (.refl _) (.cons (.refl _) (.cons (.refl _) .nil))))) (.new List.mem_cons_self .nil)) ⟨Nat.zero_le _, Nat.le_refl _, hB.symm⟩ ?_
  rintro ⟨j, o⟩ ⟨h2, h4, h3⟩
  simp only at h2 h3 h4 ⊢
  rcases Nat.lt_or_ge j L.length with hj | hj
  · rw [List.drop_eq_getElem_cons hj] at h3
    have hme : (avP L)[j]? = some (.agg [.int .i64 L[j].1, .int .i64 L[j].2]) := by simp [avP, hj]
    generalize L[j] = t at hme h3
    conv => whnf
    repeat' (first | ((first | (refine And.intro rfl ?_) | (refine And.intro ⟨by decide, by decide⟩ ?_) | (refine BsK.pure (fun x hx => by rcases List.mem_singleton.1 hx with rfl; rfl) rfl ?_) | (refine Wr.i64 (by omega) (by omega) ?_) | (refine IdxK.at (k := j) rfl hme rfl ?_) | (refine IdxL.mk 1 rfl (by decide) ?_) | (refine IdxL.mk 0 rfl (by decide) ?_) | (refine AppK.int1 (by simp) (by simp; omega) ?_)); conv => whnf) | (refine Br.dec (fun _ => ?_) (fun _ => ?_) <;> first | (exfalso; omega) | conv => whnf))
    all_goals first
      | (have e : decide (t.2 = id) = true := decide_eq_true (by assumption)
         rw [List.filter_cons_of_pos (by exact e), List.map_cons] at h3
         exact ⟨(j + 1, o ++ [t.1]), ⟨hj, by simp; omega, by rw [List.append_assoc]; exact h3⟩, by simp only; omega, Le.of_eq (by simp only [List.length_append, List.map_append, List.length_map]; rfl)⟩)
      | (have e : decide (t.2 = id) = false := decide_eq_false (by assumption)
         rw [List.filter_cons_of_neg (fun hh => by rw [e] at hh; cases hh)] at h3
         exact ⟨(j + 1, o), ⟨hj, by simp only; omega, h3⟩, by simp only; omega, Le.of_eq rfl⟩)
      | trace_state
  · rw [List.drop_eq_nil_of_le hj] at h3
    simp only [List.filter_nil, List.map_nil, List.append_nil] at h3
    conv => whnf
    repeat' (refine Br.dec (fun _ => ?_) (fun _ => ?_) <;> first | (exfalso; omega) | conv => whnf)
    all_goals first
      | exact ⟨_, .hd rfl (by simp), by rw [← h3]; rfl⟩
      | trace_state
def upAt (sh : Sheet) (id : Int) : Int := ((sh.l[(id - 1).toNat]?).map Item.up).getD 0
def upF (sh : Sheet) : Nat → Int → List Int
  | 0, _ => []
  | k + 1, id => if id = 0 then [] else id :: upF sh k (upAt sh id)
mutual
theorem itS_up (proc nx lp : Int) : ∀ (t : S) (up : Int) (n i : Nat) (it : Item), (itS proc up nx lp n t)[i]? = some it → it.up = up ∨ ((n : Int) + 1 ≤ it.up ∧ it.up ≤ n + i)
  | .mk id kind labels name pr x has args thn els, up, n, i, it, h => by
    rw [itS] at h
    cases i with
    | zero => cases h; exact .inl rfl
    | succ i =>
      rw [List.getElem?_cons_succ] at h
      rcases Nat.lt_or_ge i (cntL thn) with hi | hi
      · rw [List.getElem?_append_left (by rw [itL_len]; exact hi)] at h
        have := itL_up proc _ _ thn _ _ i it h
        omega
      · rw [List.getElem?_append_right (by rw [itL_len]; exact hi), itL_len] at h
        have := itL_up proc _ _ els _ _ _ it h
        omega
theorem itL_up (proc nx lp : Int) : ∀ (l : List S) (up : Int) (n i : Nat) (it : Item), (itL proc up nx lp n l)[i]? = some it → it.up = up ∨ ((n : Int) + 1 ≤ it.up ∧ it.up ≤ n + i)
  | [], up, n, i, it, h => by rw [itL] at h; simp at h
  | t :: r, up, n, i, it, h => by
    rw [itL] at h
    rcases Nat.lt_or_ge i (cntS t) with hi | hi
    · rw [List.getElem?_append_left (by rw [itS_len]; exact hi)] at h
      exact itS_up proc _ _ t up n i it h
    · rw [List.getElem?_append_right (by rw [itS_len]; exact hi), itS_len] at h
      have := itL_up proc _ _ r up _ _ it h
      omega
end
theorem pos_proc : ∀ (l : List Pr) (k : Nat), k < cntP l → ∃ j f, l[j]? = some f ∧ offN l j ≤ k ∧ k < offN l j + cntL f.body
  | [], k, h => by rw [cntP] at h; omega
  | g :: r, k, h => by
    rw [cntP] at h
    rcases Nat.lt_or_ge k (cntL g.body) with hk | hk
    · exact ⟨0, g, rfl, by rw [offN]; omega, by rw [offN]; omega⟩
    · obtain ⟨j, f, h1, h2, h3⟩ := pos_proc r (k - cntL g.body) (by omega)
      exact ⟨j + 1, f, by simpa using h1, by rw [offN]; omega, by rw [offN]; omega⟩
theorem up_rng (p : Pg) {id : Int} (h1 : 1 ≤ id) : 0 ≤ upAt (sheetOf p) id ∧ upAt (sheetOf p) id < id := by
  unfold upAt
  obtain ⟨_, _, _, hlen, hsp⟩ := sheet_spec p
  cases hq : (sheetOf p).l[(id - 1).toNat]? with
  | none => exact ⟨Int.le_refl _, by show (0 : Int) < id; omega⟩
  | some it =>
    show 0 ≤ it.up ∧ it.up < id
    have hlt := (List.getElem?_eq_some_iff.1 hq).1
    obtain ⟨j, f, hj, h2, h3⟩ := pos_proc p.procs (id - 1).toNat (by omega)
    obtain ⟨_, _, hle, hdr⟩ := hsp j f hj
    have h4 : (itL j 0 (-1) 0 (offN p.procs j) f.body)[(id - 1).toNat - offN p.procs j]? = some it := by
      rw [← hdr, List.getElem?_drop, List.getElem?_take_of_lt (by omega), show offN p.procs j + ((id - 1).toNat - offN p.procs j) = (id - 1).toNat by omega]
      exact hq
    have := itL_up j (-1) 0 f.body 0 (offN p.procs j) _ it h4
    omega
def inR (p : Pg) (id : Int) : List Int := bif chkB p && (decide (1 ≤ id) && decide (id ≤ (sheetOf p).l.length)) then (upF (sheetOf p) 300 (upAt (sheetOf p) id)).reverse else []
set_option maxHeartbeats 2000000 in
set_option maxRecDepth 100000 in
theorem cdep_In (p : Pg) (hf : Fit p) (id : Int) : SpecP Tryz.prog 44 [.agg p.cells, .int .i64 id] (fun r => r = eInts (inR p id)) := by
  refine SpecP.body I_cdep_In tabOK Tryz.func44 rfl Tryz.call44 (by show 2 ≤ _; decide) ?_
  conv => whnf
  cases hc : chkB p with
  | false =>
    have e : inR p id = [] := by unfold inR; rw [hc]; rfl
    have hA : ¬ (allB p).1 = 0 := by unfold chkB at hc; simpa using hc
    rw [e]
    repeat' (first | (refine CallK.pure (check_May p hf) (by repeat' (first | exact ArgP.nil | refine ArgP.cons ?_ ?_ | exact Sub.refl _ | exact Sub.tt rfl | exact Sub.ff rfl | exact Sub.int (by omega))) ?_; rintro _ rfl; conv => whnf) | (refine Br.dec2 (fun _ => ?_) (fun _ => ?_) <;> first | (exfalso; omega) | conv => whnf))
    all_goals first
      | exact ⟨_, .p Sub.nils, rfl⟩
      | (exfalso; exact hA (by assumption))
  | true =>
    obtain ⟨hg, hpl, hcn⟩ := chk_cnt hc
    have hA : (allB p).1 = 0 := by unfold chkB at hc; simpa using hc
    cases hin : (decide (1 ≤ id) && decide (id ≤ (sheetOf p).l.length)) with
    | false =>
      have e : inR p id = [] := by unfold inR; rw [hc, hin]; rfl
      rw [e]
      repeat' (first | ((first | (refine CallK.pure (check_May p hf) (by repeat' (first | exact ArgP.nil | refine ArgP.cons ?_ ?_ | exact Sub.refl _ | exact Sub.tt rfl | exact Sub.ff rfl | exact Sub.int (by omega))) ?_; rintro _ rfl) | (refine CallK.pure (flat_Sheet_Has _ _) (by repeat' (first | exact ArgP.nil | refine ArgP.cons ?_ ?_ | exact Sub.refl _ | exact Sub.tt rfl | exact Sub.ff rfl)) ?_; rintro _ rfl) | (refine CallK.pure (flat_New p (by omega) (by omega)) (.cons (Sub.refl _) .nil) ?_; rintro _ rfl)); conv => whnf) | (refine Br.dec2 (fun _ => ?_) (fun _ => ?_) <;> first | (exfalso; omega) | conv => whnf) | (refine Br.n (fun _ => ?_) (fun _ => ?_) <;> conv => whnf))
      all_goals first
        | exact ⟨_, .p Sub.nils, rfl⟩
        | (exfalso; omega)
        | (exfalso; simp_all)
    | true =>
      have hid : 1 ≤ id ∧ id ≤ (sheetOf p).l.length := by simpa using hin
      have hlt : (id - 1).toNat < (sheetOf p).l.length := by omega
      have hlen := (sheet_spec p).2.2.2.1
      have e : inR p id = (upF (sheetOf p) 300 (upAt (sheetOf p) id)).reverse := by unfold inR; rw [hc, hin]; rfl
      have hx : ((sheetOf p).l.map fun i => AV.agg i.cells)[(id - 1).toNat]? = some (.agg (sheetOf p).l[(id - 1).toNat].cells) := by rw [List.getElem?_map, List.getElem?_eq_getElem hlt]; rfl
      have hu : (sheetOf p).l[(id - 1).toNat].up = upAt (sheetOf p) id := by unfold upAt; rw [List.getElem?_eq_getElem hlt]; rfl
      have hur := up_rng p hid.1
      rw [e]
      repeat' (first | ((first | (refine CallK.pure (check_May p hf) (by repeat' (first | exact ArgP.nil | refine ArgP.cons ?_ ?_ | exact Sub.refl _ | exact Sub.tt rfl | exact Sub.ff rfl | exact Sub.int (by omega))) ?_; rintro _ rfl) | (refine CallK.pure (flat_Sheet_Has _ _) (by repeat' (first | exact ArgP.nil | refine ArgP.cons ?_ ?_ | exact Sub.refl _ | exact Sub.tt rfl | exact Sub.ff rfl)) ?_; rintro _ rfl) | (refine Wr.i64 (by omega) (by omega) ?_) | (refine CallK.pure (flat_New p (by omega) (by omega)) (.cons (Sub.refl _) .nil) ?_; rintro _ rfl) | (refine IdxK.at (by omega) hx rfl ?_)); conv => whnf) | (refine Br.dec2 (fun _ => ?_) (fun _ => ?_) <;> first | (exfalso; omega) | conv => whnf) | (refine Br.n (fun _ => ?_) (fun _ => ?_) <;> conv => whnf))
      rotate_left 1
      · exfalso
        rename_i h9
        rw [hin] at h9
        cases h9
      refine LoopK.inv tabOK (fun x : Int × List Int × Nat => ⟨[(5, .p (.ip (sheetOf p).cells)), (6, .hd 0 0 x.2.1.length), (7, .p (.int .i64 x.1))], [(0, .own 3 1 (x.2.1.map (.int .i64)))]⟩)
        (fun x => (0 ≤ x.1 ∧ x.1 ≤ (sheetOf p).l.length) ∧ x.1 < x.2.2 ∧ x.2.1.length + x.2.2 ≤ 300 ∧ x.2.1 ++ upF (sheetOf p) x.2.2 x.1 = upF (sheetOf p) 300 (upAt (sheetOf p) id)) (fun x => x.2.2) (upAt (sheetOf p) id, [], 300)
        (Le.mk [(0, .own 3 1 [])] (by simp [Chunk.new0]; rfl) (by simp) (by simp) (.cons (.refl _) (.cons (.nil List.mem_cons_self) (.cons (.of_eq (by rw [hu]; rfl)) .nil))) (.new List.mem_cons_self .nil))
        ⟨⟨by simp only; omega, by simp only; omega⟩, by simp only; omega, by simp, rfl⟩ ?_
      rintro ⟨u, o, k⟩ ⟨⟨h2, h3⟩, h4, h5, h6⟩
      simp only at h2 h3 h4 h5 h6 ⊢
      by_cases h0 : u = 0
      · subst h0
        have hR := slices_Reverse_int_int_ o (by omega)
        have h7 : o = upF (sheetOf p) 300 (upAt (sheetOf p) id) := by
          rw [← h6]
          cases k with
          | zero => rw [upF, List.append_nil]
          | succ k => rw [upF, if_pos rfl, List.append_nil]
        rw [← h7]
        conv => whnf
        repeat' (first | (refine CallK.heap [(1000, 0)] 5 (ArgsH.cons (LSub.refl _) ArgsH.nil) (by refine BlksH.cons (j := 0) rfl rfl ?_ ?_; exact CSub.refl _; exact BlksH.nil) hR rfl rfl ?_; rintro l' H' ⟨rfl, rfl⟩; conv => whnf) | (refine Br.dec2 (fun _ => ?_) (fun _ => ?_) <;> first | (exfalso; omega) | conv => whnf))
        exact ⟨_, .hd rfl (by simp), rfl⟩
      · have hlt2 : (u - 1).toNat < (sheetOf p).l.length := by omega
        have hx2 : ((sheetOf p).l.map fun i => AV.agg i.cells)[(u - 1).toNat]? = some (.agg (sheetOf p).l[(u - 1).toNat].cells) := by rw [List.getElem?_map, List.getElem?_eq_getElem hlt2]; rfl
        have hu2 : (sheetOf p).l[(u - 1).toNat].up = upAt (sheetOf p) u := by unfold upAt; rw [List.getElem?_eq_getElem hlt2]; rfl
        have hur2 := up_rng p (id := u) (by omega)
        have h7 : upF (sheetOf p) k u = u :: upF (sheetOf p) (k - 1) (upAt (sheetOf p) u) := by
          cases k with
          | zero => exact absurd h4 (by omega)
          | succ k => rw [upF, if_neg h0]; rfl
        rw [h7] at h6
        conv => whnf
        repeat' (first | ((first | (refine And.intro rfl ?_) | (refine And.intro ⟨by decide, by decide⟩ ?_) | (refine BsK.pure (fun x hx => by rcases List.mem_singleton.1 hx with rfl; rfl) rfl ?_) | (refine Wr.i64 (by omega) (by omega) ?_) | (refine AppK.int1 (by simp) (by simp; omega) ?_) | (refine IdxK.at (by omega) hx2 rfl ?_)); conv => whnf) | (refine Br.dec2 (fun _ => ?_) (fun _ => ?_) <;> first | (exfalso; omega) | conv => whnf))
        all_goals first
          | (exfalso; omega)
          | exact ⟨(upAt (sheetOf p) u, o ++ [u], k - 1), ⟨⟨by simp only; omega, by simp only; omega⟩, by simp only; omega, by simp; omega, by rw [List.append_assoc]; exact h6⟩, by simp only; omega, Le.of_eq (by rw [← hu2]; simp only [List.length_append, List.map_append, List.length_map]; rfl)⟩
          | trace_state
end Go.Ab
namespace Go.Ab
open Go.Proofs
theorem follow_ex {n : Nat} {nx : List (List Int)} (hnx : ∀ a, ∀ x ∈ nx.getD a [], 0 ≤ x ∧ x < (n : Int)) : ∃ fm, FollowP n nx fm := by
  let F : Nat → Nat → Bool := fun a b => @decide (¬ Avd nx n b a) (Classical.propDecidable _)
  have hF : ∀ a b, F a b = true ↔ ¬ Avd nx n b a := fun a b => by simp only [F]; exact @decide_eq_true_iff _ (Classical.propDecidable _)
  have hrow : ∀ a, a < n → ((List.range n).map fun a => (List.range n).map fun b => F a b).getD a [] = (List.range n).map fun b => F a b := fun a ha => by
    rw [List.getD_eq_getElem?_getD, List.getElem?_map, List.getElem?_range ha]
    rfl
  have hbit : ∀ a b, a < n → b < n → bitF ((List.range n).map fun a => (List.range n).map fun b => F a b) a b = F a b := fun a b ha hb => by
    unfold bitF
    rw [hrow a ha, List.getD_eq_getElem?_getD, List.getElem?_map, List.getElem?_range hb]
    rfl
  have hfix : ∀ a b, a < n - 1 → b < n → F a b = (rowF n nx ((List.range n).map fun a => (List.range n).map fun b => F a b) a).getD b false := fun a b ha hb => by
    rw [rowF_get hb, Bool.eq_iff_iff, hF, Bool.or_eq_true, decide_eq_true_eq, shared_iff]
    constructor
    · intro h
      by_cases hab : a = b
      · exact .inl hab
      · refine .inr fun t ht => ?_
        have hr := hnx a t ht
        rw [hbit _ _ (by omega) hb, hF]
        exact fun h2 => h (.step hab (by rw [Int.toNat_of_nonneg hr.1]; exact ht) h2)
    · rintro h h2
      cases h2 with
      | exit hne => omega
      | @step _ t hab ht h3 =>
        have hr := hnx a _ ht
        rcases h with h | h
        · exact hab h
        · have h4 := h _ ht
          rw [Int.toNat_natCast, hbit _ _ (by omega) hb, hF] at h4
          exact h4 h3
  refine ⟨(List.range n).map fun a => (List.range n).map fun b => F a b, ⟨by simp, fun r hr => ?_, ?_, fun a b ha hb h => ?_, fun a b ha hb h => ?_⟩, fun a ha => ?_⟩
  · obtain ⟨a, _, rfl⟩ := List.mem_map.1 hr
    simp
  · cases n with
    | zero => rfl
    | succ n =>
      rw [hrow _ (by omega)]
      unfold filRow
      refine List.map_congr_left fun b hb => ?_
      rw [List.mem_range] at hb
      rw [Bool.eq_iff_iff, hF, Bool.or_eq_true, decide_eq_true_eq, decide_eq_true_eq]
      constructor
      · intro h
        refine .inr (Classical.byContradiction fun he => h ?_)
        exact .exit fun e => he e.symm
      · rintro (h | h) h2
        · omega
        · cases h2 with
          | exit hne => exact hne h.symm
          | step hab _ _ => exact hab h
  · rw [hbit a b (by omega) hb, hfix a b ha hb]
    exact h
  · rw [hbit a b ha hb] at h
    refine Classical.byContradiction fun h2 => ?_
    rw [(hF a b).2 h2] at h
    cases h
  · rw [hrow a (by omega)]
    refine List.ext_getElem (by rw [rowF_len]; simp) fun b h1 h2 => ?_
    have hb : b < n := by simpa using h1
    have h3 := hfix a b ha hb
    rw [List.getD_eq_getElem?_getD, List.getElem?_eq_getElem h2] at h3
    simp only [List.getElem_map, List.getElem_range]
    exact h3
theorem nextR_get {n : Nat} {l : List (Int × Int)} (h : ∀ t ∈ l, (0 ≤ t.1 ∧ t.1 < n) ∧ 0 ≤ t.2 ∧ t.2 < n) : ∀ a, ∀ x ∈ (nextR n l).getD a [], 0 ≤ x ∧ x < (n : Int) := fun a x hx => by
  obtain ⟨t, ht, _, rfl⟩ := (nextR_mem fun t ht => (h t ht).1).1 hx
  exact (h t ht).2
theorem dec_iff {p : Pg} {j : Nat} {f : Pr} (h : chkB p = true) (hj : p.procs[j]? = some f) {a b : Int} : (a, b) ∈ decL (newWay p j f) f (cntL f.body + 2) ↔ plP p j f a ∧ plP p j f b ∧ 0 < b ∧ decP p j f a b := by
  obtain ⟨fm, hF⟩ := follow_ex (n := cntL f.body + 2) (nextR_get (prsA_in h hj))
  exact decL_mem h hj hF
theorem byR_iff {p : Pg} {n : Str} {j : Nat} {f : Pr} (h : chkB p = true) (hj : p.procs[j]? = some f) (hw : wayO p n = some (newWay p j f)) {a b : Int} : a ∈ byR p n b ↔ plP p j f a ∧ plP p j f b ∧ 0 < b ∧ decP p j f a b := by
  unfold byR
  rw [decO_some hw hj, ← dec_iff h hj, List.mem_map]
  constructor
  · rintro ⟨⟨x, y⟩, h1, rfl⟩
    obtain ⟨h2, h3⟩ := List.mem_filter.1 h1
    rw [decide_eq_true_eq] at h3
    have h3 : y = b := h3
    subst h3
    exact h2
  · exact fun h1 => ⟨(a, b), List.mem_filter.2 ⟨h1, by simp⟩, rfl⟩
def OkL (l : List Int) : Prop := l.Nodup ∧ ∀ x ∈ l, 0 ≤ x ∧ x ≤ 200
theorem OkL.len {l : List Int} (h : OkL l) : l.length ≤ 201 := by
  have := nodup_len (m := (List.range 201).map Int.ofNat) h.1 fun x hx => by
    have := h.2 x hx
    refine List.mem_map.2 ⟨x.toNat, List.mem_range.2 (by omega), ?_⟩
    show (x.toNat : Int) = x
    omega
  simpa using this
theorem byR_ok (p : Pg) (n : Str) (id : Int) : OkL (byR p n id) := by
  cases hw : wayO p n with
  | none =>
    have : byR p n id = [] := by unfold byR; rw [decO_none hw]; rfl
    rw [this]
    exact ⟨List.nodup_nil, fun x hx => absurd hx List.not_mem_nil⟩
  | some w =>
    obtain ⟨k, f, hkj, rfl, hc, _⟩ := wayO_some hw
    obtain ⟨_, _, hcn⟩ := chk_cnt hc
    obtain ⟨_, _, _, hlen, hsp⟩ := sheet_spec p
    obtain ⟨_, _, hle, _⟩ := hsp k f hkj
    refine ⟨?_, fun x hx => ?_⟩
    · unfold byR
      rw [decO_some hw hkj]
      show List.Pairwise _ _
      rw [List.pairwise_map]
      refine ((decL_nodup hc hkj).filter _).imp_of_mem fun {u v} hu hv hne he => hne ?_
      have h1 := (List.mem_filter.1 hu).2
      have h2 := (List.mem_filter.1 hv).2
      rw [decide_eq_true_eq] at h1 h2
      exact Prod.ext he (by rw [h1, h2])
    · obtain ⟨h1, _, _, t, ht, _⟩ := (byR_iff hc hkj hw).1 hx
      have h2 := (aR_pl hc hkj ht).2.2.1
      unfold plP at h1
      omega
def addB (l : List Int) (bs : List Int) : List Int := bs.foldl (fun l a => if hasI l a then l else l ++ [a]) l
noncomputable def abF (p : Pg) (n : Str) : Nat → Nat → List Int → List Int
  | 0, _, l => l
  | k + 1, i, l => if i < l.length then (if l.getD i 0 = 0 then abF p n k (i + 1) l else abF p n k (i + 1) (addB l (byR p n (l.getD i 0)))) else l
noncomputable def aboveR (p : Pg) (n : Str) (id : Int) : List Int := abF p n 300 0 (byR p n id)
theorem OkL.snoc {l : List Int} {a : Int} (h : OkL l) (ha : 0 ≤ a ∧ a ≤ 200) (hn : hasI l a = false) : OkL (l ++ [a]) := by
  have hna : a ∉ l := fun hm => by
    unfold hasI at hn
    have := List.any_eq_false.1 hn a hm
    simp at this
  refine ⟨?_, fun x hx => ?_⟩
  · show List.Pairwise _ _
    rw [List.pairwise_append]
    refine ⟨h.1, List.pairwise_singleton _ _, fun x hx y hy e => ?_⟩
    rw [List.mem_singleton.1 hy] at e
    exact hna (e ▸ hx)
  · rcases List.mem_append.1 hx with hx | hx
    · exact h.2 x hx
    · rw [List.mem_singleton.1 hx]
      exact ha
namespace Own
set_option maxHeartbeats 1000000 in
set_option maxRecDepth 100000 in
theorem cdep_By (p : Pg) (hf : Fit p) (n : Str) (id : Int) : SpecH Tryz.prog 47 [.p (.agg p.cells), .p (.str n), .p (.int .i64 id)] [] (fun r H => r = .hd 0 0 (byR p n id).length ∧ H = [(0, .own 3 1 ((byR p n id).map (.int .i64)))]) := by
  refine SpecH.body I_cdep_By tabOK Tryz.func47 rfl Tryz.call47 (by show 3 ≤ _; decide) ?_
  conv => whnf
  have hO := cdep_Of p hf n
  have hlen := decO_len p n
  have hB : byR p n id = ((decO p n).filter fun d => decide (d.2 = id)).map Prod.fst := rfl
  generalize decO p n = L at hO hlen hB
  generalize byR p n id = B at hB
  have hal : (avP L).length = L.length := by unfold avP; rw [List.length_map]
  repeat' ((first | (intro (_ : _ ≤ 9223372036854775807)) | (refine CallK.pure hO (.cons (Sub.refl _) (.cons (Sub.refl _) .nil)) ?_; rintro _ rfl)); conv => whnf)
  refine LoopK.inv tabOK (fun x : Nat × List Int => ⟨[(2, .p (.int .i64 id)), (7, .hd 0 0 x.2.length), (12, .p (.sl (avP L))), (13, .p (.int .i64 (avP L).length)), (14, .p (.int .i64 x.1))], [(0, .own 3 1 (x.2.map (.int .i64)))]⟩) (fun x => x.1 ≤ L.length ∧ x.2.length ≤ x.1 ∧ x.2 ++ ((L.drop x.1).filter fun d => decide (d.2 = id)).map Prod.fst = B) (fun x => L.length - x.1) (0, [])
    (Le.mk [(0, .own 3 1 [])] (by simp [Chunk.new0]; rfl) (by simp) (by simp) (.cons (.refl _) (.cons (.nil List.mem_cons_self) (.cons (.refl _) (.cons (.refl _) (.cons (.refl _) .nil))))) (.new List.mem_cons_self .nil)) ⟨Nat.zero_le _, Nat.le_refl _, hB.symm⟩ ?_
  rintro ⟨j, o⟩ ⟨h2, h4, h3⟩
  simp only at h2 h3 h4 ⊢
  rcases Nat.lt_or_ge j L.length with hj | hj
  · rw [List.drop_eq_getElem_cons hj] at h3
    have hme : (avP L)[j]? = some (.agg [.int .i64 L[j].1, .int .i64 L[j].2]) := by simp [avP, hj]
    generalize L[j] = t at hme h3
    conv => whnf
    repeat' (first | ((first | (refine And.intro rfl ?_) | (refine And.intro ⟨by decide, by decide⟩ ?_) | (refine BsK.pure (fun x hx => by rcases List.mem_singleton.1 hx with rfl; rfl) rfl ?_) | (refine Wr.i64 (by omega) (by omega) ?_) | (refine IdxK.at (k := j) rfl hme rfl ?_) | (refine IdxL.mk 1 rfl (by decide) ?_) | (refine IdxL.mk 0 rfl (by decide) ?_) | (refine AppK.int1 (by simp) (by simp; omega) ?_)); conv => whnf) | (refine Br.dec (fun _ => ?_) (fun _ => ?_) <;> first | (exfalso; omega) | conv => whnf))
    all_goals first
      | (have e : decide (t.2 = id) = true := decide_eq_true (by assumption)
         rw [List.filter_cons_of_pos (by exact e), List.map_cons] at h3
         exact ⟨(j + 1, o ++ [t.1]), ⟨hj, by simp; omega, by rw [List.append_assoc]; exact h3⟩, by simp only; omega, Le.of_eq (by simp only [List.length_append, List.map_append, List.length_map]; rfl)⟩)
      | (have e : decide (t.2 = id) = false := decide_eq_false (by assumption)
         rw [List.filter_cons_of_neg (fun hh => by rw [e] at hh; cases hh)] at h3
         exact ⟨(j + 1, o), ⟨hj, by simp only; omega, h3⟩, by simp only; omega, Le.of_eq rfl⟩)
      | trace_state
  · rw [List.drop_eq_nil_of_le hj] at h3
    simp only [List.filter_nil, List.map_nil, List.append_nil] at h3
    conv => whnf
    repeat' (refine Br.dec (fun _ => ?_) (fun _ => ?_) <;> first | (exfalso; omega) | conv => whnf)
    all_goals first
      | exact ⟨_, LSub.refl _, by rw [← h3], by rw [← h3]⟩
      | trace_state
end Own
set_option maxHeartbeats 4000000 in
set_option maxRecDepth 100000 in
theorem whittlerlaw18_above (p : Pg) (hf : Fit p) (n : Str) (id : Int) : SpecP Tryz.prog 42 [.agg p.cells, .str n, .int .i64 id] (fun r => r = eInts (aboveR p n id)) := by
  refine SpecP.body I_whittlerlaw18_above tabOK Tryz.func42 rfl Tryz.call42 (by show 3 ≤ _; decide) ?_
  conv => whnf
  repeat' (refine CallK.heap [] 5 (ArgsH.cons (LSub.refl _) (ArgsH.cons (LSub.refl _) (ArgsH.cons (LSub.refl _) ArgsH.nil))) BlksH.nil (Own.cdep_By p hf n id) rfl rfl ?_; rintro l' H' ⟨rfl, rfl⟩; conv => whnf)
  have hbs := fun x => byR_ok p n x
  refine LoopK.inv tabOK (fun x : Nat × List Int => ⟨[(1, .p (.str n)), (3, .p (.ip p.cells)), (7, .hd 5 0 x.2.length), (8, .p (.int .i64 x.1))], [(5, .own 3 1 (x.2.map (.int .i64)))]⟩) (fun x => x.1 ≤ 300 ∧ OkL x.2 ∧ abF p n (300 - x.1) x.1 x.2 = aboveR p n id) (fun x => 300 - x.1) (0, byR p n id) (Le.of_eq rfl) ⟨Nat.zero_le _, hbs _, rfl⟩ ?_
  rintro ⟨i, l⟩ ⟨h2, h3, h4⟩
  simp only at h2 h3 h4 ⊢
  have hll := h3.len
  by_cases hi : i < l.length ∧ i < 300
  rotate_left 1
  · have h5 : l = aboveR p n id := by
      rw [← h4]
      cases hk : 300 - i with
      | zero => rw [abF]
      | succ k => rw [abF, if_neg (by omega)]
    subst h5
    conv => whnf
    repeat' (first | (intro (_ : _ ≤ 9223372036854775807); conv => whnf) | (refine Br.dec (fun _ => ?_) (fun _ => ?_) <;> first | (exfalso; omega) | conv => whnf))
    all_goals first
      | exact ⟨_, .hd rfl (by simp), rfl⟩
      | (exfalso; omega)
      | trace_state
  obtain ⟨hi1, hi2⟩ := hi
  have hg : (l.map (AV.int .i64))[i]? = some (.int .i64 (l.getD i 0)) := by
    rw [List.getElem?_map, List.getElem?_eq_getElem hi1, List.getD_eq_getElem?_getD, List.getElem?_eq_getElem hi1]
    rfl
  rw [show 300 - i = (300 - (i + 1)) + 1 by omega, abF, if_pos hi1] at h4
  generalize l.getD i 0 = y at hg h4
  have hB := cdep_By p hf n y
  have hbl := (hbs y).len
  have hbr := (hbs y).2
  generalize byR p n y = bs at hB hbl hbr h4
  have hbm : (bs.map (AV.int .i64)).length = bs.length := List.length_map _
  conv => whnf
  repeat' (first | ((first | (intro (_ : _ ≤ 9223372036854775807)) | (refine DrawK.auto tabOK mixed (by kernel_rfl) ?_) | (refine And.intro rfl ?_) | (refine Wr.i64 (by omega) (by omega) ?_) | (refine IdxL.mk i rfl hi1 ?_) | (refine LdOwn.mk i 0 _ (by show (0+i)*1 = i*1+0; omega) hg ?_) | (refine CallK.pure hB (.cons (Sub.refl _) (.cons (Sub.refl _) (.cons (Sub.refl _) .nil))) ?_; rintro _ rfl)); conv => whnf) | (refine Br.dec (fun _ => ?_) (fun _ => ?_) <;> first | (exfalso; omega) | conv => whnf))
  · have hy : y = 0 := by assumption
    rw [if_pos hy] at h4
    exact ⟨(i + 1, l), ⟨by simp only; omega, h3, h4⟩, by simp only; omega, Le.of_eq rfl⟩
  have hy : ¬ y = 0 := by assumption
  rw [if_neg hy] at h4
  refine LoopK.inv tabOK (fun x : Nat × List Int => ⟨[(1, .p (.str n)), (3, .p (.ip p.cells)), (7, .hd 5 0 x.2.length), (8, .p (.int .i64 i)), (36, .p (eInts bs)), (37, .p (.int .i64 (bs.map (AV.int .i64)).length)), (38, .p (.int .i64 x.1))], [(5, .own 3 1 (x.2.map (.int .i64)))]⟩) (fun x => x.1 ≤ bs.length ∧ OkL x.2 ∧ addB x.2 (bs.drop x.1) = addB l bs) (fun x => bs.length - x.1) (0, l) (Le.of_eq rfl) ⟨Nat.zero_le _, h3, rfl⟩ ?_
  rintro ⟨j, o⟩ ⟨h5, h6, h7⟩
  simp only at h5 h6 h7 ⊢
  have hol := h6.len
  rcases Nat.lt_or_ge j bs.length with hj | hj
  · rw [List.drop_eq_getElem_cons hj] at h7
    have hb1 := hbr _ (List.getElem_mem hj)
    have hst : addB (if hasI o bs[j] then o else o ++ [bs[j]]) (bs.drop (j + 1)) = addB l bs := h7
    cases hh : hasI o bs[j] with
    | true =>
      have hH := whittlerref14_Has o bs[j]
      rw [hh] at hH
      rw [hh, if_pos rfl] at hst
      conv => whnf
      repeat' (first | ((first | (refine And.intro rfl ?_) | (refine And.intro ⟨by decide, by decide⟩ ?_) | (refine BsK.pure (fun x hx => by rcases List.mem_singleton.1 hx with rfl; rfl) rfl ?_) | (refine IdxK.map (by omega) (fun _ => rfl) ?_) | (refine Wr.i64 (by omega) (by omega) ?_) | (refine CallK.borrow hH (.cons (.hd rfl (by simp)) (.cons (.p (Sub.refl _)) .nil)) (by rintro _ rfl; rfl) ?_; rintro _ rfl)); conv => whnf) | (refine Br.dec (fun _ => ?_) (fun _ => ?_) <;> first | (exfalso; omega) | conv => whnf) | (refine Br.n (fun _ => ?_) (fun _ => ?_) <;> conv => whnf))
      all_goals first
        | contradiction
        | exact ⟨(j + 1, o), ⟨by simp only; omega, h6, hst⟩, by simp only; omega, Le.of_eq rfl⟩
    | false =>
      have hH := whittlerref14_Has o bs[j]
      rw [hh] at hH
      rw [hh, if_neg (by decide)] at hst
      conv => whnf
      repeat' (first | ((first | (refine And.intro rfl ?_) | (refine And.intro ⟨by decide, by decide⟩ ?_) | (refine BsK.pure (fun x hx => by rcases List.mem_singleton.1 hx with rfl; rfl) rfl ?_) | (refine IdxK.map (by omega) (fun _ => rfl) ?_) | (refine Wr.i64 (by omega) (by omega) ?_) | (refine CallK.borrow hH (.cons (.hd rfl (by simp)) (.cons (.p (Sub.refl _)) .nil)) (by rintro _ rfl; rfl) ?_; rintro _ rfl) | (refine AppK.int1 (by simp) (by simp; omega) ?_)); conv => whnf) | (refine Br.dec (fun _ => ?_) (fun _ => ?_) <;> first | (exfalso; omega) | conv => whnf) | (refine Br.n (fun _ => ?_) (fun _ => ?_) <;> conv => whnf))
      all_goals first
        | contradiction
        | exact ⟨(j + 1, o ++ [bs[j]]), ⟨by simp only; omega, h6.snoc hb1 hh, hst⟩, by simp only; omega, Le.of_eq (by simp only [List.length_append, List.map_append, List.length_map]; rfl)⟩
  · rw [List.drop_eq_nil_of_le hj] at h7
    have h7 : o = addB l bs := h7
    rw [← h7] at h4
    conv => whnf
    repeat' (first | (refine Wr.i64 (by omega) (by omega) ?_; conv => whnf) | (refine Br.dec (fun _ => ?_) (fun _ => ?_) <;> first | (exfalso; omega) | conv => whnf))
    exact ⟨(i + 1, o), ⟨by simp only; omega, h6, h4⟩, by simp only; omega, Le.of_eq rfl⟩
end Go.Ab
namespace Go.Ab
open Go.Proofs
/-- Is there a way of so many steps to the last place that is off another one? -/
def avF (nx : List (List Int)) (n b : Nat) : Nat → Nat → Bool
  | 0, _ => false
  | k + 1, a => (decide (a = n - 1) && decide (b ≠ n - 1)) || (decide (a ≠ b) && (nx.getD a []).any fun t => decide (0 ≤ t) && avF nx n b k t.toNat)
theorem avF_avd {nx : List (List Int)} {n b : Nat} : ∀ (k a : Nat), avF nx n b k a = true → Avd nx n b a
  | 0, _, h => by cases h
  | k + 1, a, h => by
    rw [avF, Bool.or_eq_true, Bool.and_eq_true, Bool.and_eq_true, decide_eq_true_eq, decide_eq_true_eq, decide_eq_true_eq, List.any_eq_true] at h
    rcases h with ⟨rfl, h⟩ | ⟨h1, t, ht, h2⟩
    · exact .exit h
    · rw [Bool.and_eq_true, decide_eq_true_eq] at h2
      exact .step h1 (by rw [Int.toNat_of_nonneg h2.1]; exact ht) (avF_avd k _ h2.2)
theorem follow_of {n : Nat} {nx : List (List Int)} {G : List (List Bool)} (hl : G.length = n) (hr : ∀ r ∈ G, r.length = n) (hlast : G.getD (n - 1) [] = filRow n (n - 1))
    (hfix : ((List.range (n - 1)).all fun a => decide (G.getD a [] = rowF n nx G a)) = true) (hmin : ((List.range n).all fun a => (List.range n).all fun b => bitF G a b || avF nx n b n a) = true) : FollowP n nx G := by
  have hf : ∀ a, a < n - 1 → G.getD a [] = rowF n nx G a := fun a ha => of_decide_eq_true (List.all_eq_true.1 hfix a (List.mem_range.2 ha))
  refine ⟨⟨hl, hr, hlast, fun a b ha hb h => ?_, fun a b ha hb h => ?_⟩, hf⟩
  · unfold bitF
    rw [hf a ha]
    exact h
  · have h1 := List.all_eq_true.1 (List.all_eq_true.1 hmin a (List.mem_range.2 ha)) b (List.mem_range.2 hb)
    rw [h, Bool.false_or] at h1
    exact avF_avd _ _ h1
theorem prsA1 : prsA (newWay someP 1 f1) f1 = [(0, 1), (0, 5), (1, 2), (2, 3), (2, 4), (3, 4), (3, 5), (4, 5)] := by
  unfold prsA
  rw [aug1]
  kernel_rfl
theorem prsA0 : prsA (newWay someP 0 f0) f0 = [(0, 1), (0, 5), (1, 2), (2, 3), (3, 4), (4, 5)] := by
  unfold prsA
  rw [aug0]
  kernel_rfl
def fol1 : List (List Bool) := [[true, false, false, false, false, true], [false, true, true, false, false, true], [false, false, true, false, false, true], [false, false, false, true, false, true], [false, false, false, false, true, true], [false, false, false, false, false, true]]
def fol0 : List (List Bool) := [[true, false, false, false, false, true], [false, true, true, true, true, true], [false, false, true, true, true, true], [false, false, false, true, true, true], [false, false, false, false, true, true], [false, false, false, false, false, true]]
theorem foll1 : folM 6 (nextR 6 [(0, 1), (0, 5), (1, 2), (2, 3), (2, 4), (3, 4), (3, 5), (4, 5)]) = fol1 := (follow_of (by kernel_rfl) (by decide) (by kernel_rfl) (by kernel_rfl) (by kernel_rfl)).eq.symm
theorem foll0 : folM 6 (nextR 6 [(0, 1), (0, 5), (1, 2), (2, 3), (3, 4), (4, 5)]) = fol0 := (follow_of (by kernel_rfl) (by decide) (by kernel_rfl) (by kernel_rfl) (by kernel_rfl)).eq.symm
theorem decL1 : decO someP [112] = [(0, 5), (0, 6), (6, 7), (6, 8), (7, 8)] := by
  rw [decO_some (f := f1) some_way rfl]
  show decL (newWay someP 1 f1) f1 6 = _
  unfold decL
  rw [prsA1, foll1]
  kernel_rfl
theorem decL0 : decO someP [109, 97, 105, 110] = [(0, 1), (0, 2), (0, 3), (0, 4)] := by
  rw [decO_some (f := f0) some_way0 rfl]
  show decL (newWay someP 0 f0) f0 6 = _
  unfold decL
  rw [prsA0, foll0]
  kernel_rfl
theorem by8 : byR someP [112] 8 = [6, 7] := by
  unfold byR
  rw [decL1]
  kernel_rfl
theorem in7 : inR someP 7 = [6] := by
  unfold inR
  rw [some_chk]
  kernel_rfl
set_option maxHeartbeats 2000000 in
set_option maxRecDepth 100000 in
theorem whittlerlaw18_deciding : SpecP Tryz.prog 38 [] (fun r => r = .tt) := by
  have hB := cdep_By someP some_fit [112] 8
  rw [by8] at hB
  have hI := cdep_In someP some_fit 7
  rw [in7] at hI
  have hO := cdep_Of someP some_fit [109, 97, 105, 110]
  rw [decL0] at hO
  refine SpecP.body I_whittlerlaw18_deciding tabOK Tryz.func38 rfl Tryz.call38 (by show 0 ≤ _; decide) ?_
  conv => whnf
  repeat' (first | ((first | (intro (_ : _ ≤ 9223372036854775807)) | (refine And.intro rfl ?_) | (refine CallK.pure whittlerref3_Some .nil ?_; rintro _ rfl) | (refine CallK.pure hB (.cons (Sub.refl _) (.cons (Sub.refl _) (.cons (Sub.refl _) .nil))) ?_; rintro _ rfl) | (refine CallK.pure hI (.cons (Sub.refl _) (.cons (Sub.refl _) .nil)) ?_; rintro _ rfl) | (refine CallK.pure hO (.cons (Sub.refl _) (.cons (Sub.refl _) .nil)) ?_; rintro _ rfl) | (refine IdxK.at (k := 0) (e := .int .i64 6) rfl rfl rfl ?_) | (refine IdxK.at (k := 1) (e := .int .i64 7) rfl rfl rfl ?_)); conv => whnf) | (refine Br.dec (fun _ => ?_) (fun _ => ?_) <;> first | (exfalso; omega) | conv => whnf))
  all_goals first
    | exact RetK.tt rfl
    | exact ⟨_, .p (Sub.tt' rfl), rfl⟩
    | exact ⟨_, .p (Sub.tt rfl), rfl⟩
    | (rename_i h; exact absurd rfl h)
    | skip
end Go.Ab
namespace Go.Ab
open Go.Proofs
/-- A way of which all places but the last one are some. -/
inductive Pth (R : Int → Int → Prop) (Q : Int → Prop) : Int → Int → Prop
  | refl (a : Int) : Pth R Q a a
  | head {a t b : Int} (hq : Q a) (hr : R a t) (h : Pth R Q t b) : Pth R Q a b
theorem Pth.one {R : Int → Int → Prop} {Q : Int → Prop} {a b : Int} (hq : Q a) (hr : R a b) : Pth R Q a b := .head hq hr (.refl b)
theorem Pth.trans {R : Int → Int → Prop} {Q : Int → Prop} {a b c : Int} (h : Pth R Q a b) (h' : Pth R Q b c) : Pth R Q a c := by
  induction h with
  | refl => exact h'
  | head hq hr _ ih => exact .head hq hr (ih h')
theorem Pth.mono {R : Int → Int → Prop} {Q Q' : Int → Prop} (hQ : ∀ v, Q v → Q' v) {a b : Int} (h : Pth R Q a b) : Pth R Q' a b := by
  induction h with
  | refl => exact .refl _
  | head hq hr _ ih => exact .head (hQ _ hq) hr ih
/-- A way to the exit that is off some places. -/
inductive AvdD (R : Int → Int → Prop) (D : Int → Prop) : Int → Prop
  | exit (h : ¬ D (-1)) : AvdD R D (-1)
  | step {a t : Int} (ha : ¬ D a) (hs : R a t) (h : AvdD R D t) : AvdD R D a
theorem AvdD.mono {R : Int → Int → Prop} {D D' : Int → Prop} (hD : ∀ v, D' v → D v) {a : Int} (h : AvdD R D a) : AvdD R D' a := by
  induction h with
  | exit h => exact .exit fun hd => h (hD _ hd)
  | step ha hs _ ih => exact .step (fun hd => ha (hD _ hd)) hs ih
theorem AvdD.one {R : Int → Int → Prop} {D : Int → Prop} {a b : Int} (hb : D b) (h : AvdD R D a) : AvdP R b a := by
  induction h with
  | exit h => exact .exit fun e => h (e ▸ hb)
  | step ha hs _ ih => exact .step (fun e => ha (e ▸ hb)) hs ih
theorem Pth.off {R : Int → Int → Prop} {Q D : Int → Prop} {a c : Int} (h : Pth R Q a c) (hQ : ∀ v, Q v → ¬ D v) (hc : AvdD R D c) : AvdD R D a := by
  induction h with
  | refl => exact hc
  | head hq hr _ ih => exact .step (hQ _ hq) hr (ih hc)
theorem avd_no_self {R : Int → Int → Prop} {b : Int} : ¬ AvdP R b b := fun h => by
  cases h with
  | exit h => exact h rfl
  | step h _ _ => exact h rfl
/-- On a way to a place, from one that it does not follow, somebody decides it. -/
theorem decider {R : Int → Int → Prop} {Q : Int → Prop} {a b : Int} (h : Pth R Q a b) (ha : AvdP R b a) : ∃ v t, Q v ∧ R v t ∧ ¬ AvdP R b t ∧ AvdP R b v := by
  induction h with
  | refl => exact absurd ha avd_no_self
  | @head a t b hq hr _ ih =>
    by_cases ht : AvdP R b t
    · exact ih ht
    · exact ⟨a, t, hq, hr, ht, ha⟩
/-- The steps of a row's statements. -/
def stepI (sh : Sheet) (f : Pr) (R : Int → Int → Prop) (l : List Item) : Prop := ∀ it ∈ l, (∀ y ∈ goesI sh f it, R it.s.id y) ∧ (7 ≤ it.s.kind → R it.s.id it.next)
theorem stepI.sub {sh : Sheet} {f : Pr} {R : Int → Int → Prop} {l m : List Item} (h : stepI sh f R l) (hs : ∀ x ∈ m, x ∈ l) : stepI sh f R m := fun it hi => h it (hs it hi)
def rng (a b : Int) (v : Int) : Prop := a ≤ v ∧ v ≤ b
theorem cntS_pa : ∀ t : S, cntS t = 1 + cntL t.thn + cntL t.els
  | .mk id kind labels name pr x has args thn els => by rw [cntS]; rfl
theorem itL_ids {proc up nx lp : Int} {n : Nat} {nest m : Int} {l : List S} (h : rowL nest n l = some m) {it : Item} (hi : it ∈ itL proc up nx lp n l) : (n : Int) + 1 ≤ it.s.id ∧ it.s.id ≤ (n : Int) + cntL l := by
  have h1 : it.s ∈ flL l := by
    rw [← itL_s proc up nx lp n l]
    exact List.mem_map.2 ⟨it, hi, rfl⟩
  have h2 : it.s.id ∈ idsN n (cntL l) := by
    rw [← rowL_ids nest l h]
    exact List.mem_map.2 ⟨it.s, h1, rfl⟩
  have := idsN_mem h2
  omega
theorem head_row {nest m nx : Int} {n : Nat} {u : S} {r : List S} (h : rowL nest n (u :: r) = some m) : headI (u :: r) nx = (n : Int) + 1 := by
  obtain ⟨_, m1, h1, _⟩ := rowL_parts h
  exact (rowS_parts h1).2.1
/-- Where the next statement of a row stands. -/
theorem next_head {nest m nx : Int} {n c : Nat} {r : List S} (h : rowL nest ((n + c : Nat) : Int) r = some m) : (if r.isEmpty then nx else (n : Int) + 1 + c) = headI r nx := by
  cases r with
  | nil => rfl
  | cons u r =>
    rw [head_row h, if_neg (by simp)]
    omega
/-- What a statement steps to, by its kind. -/
structure GoF (R : Int → Int → Prop) (t : S) (nx : Int) : Prop where
  k5 : t.kind = 5 → R t.id (headI t.thn nx) ∧ R t.id (headI t.els nx)
  k6 : t.kind = 6 → R t.id (headI t.thn t.id) ∧ R t.id nx
  oth : t.kind ≠ 5 → t.kind ≠ 6 → R t.id nx
theorem goF {sh : Sheet} {f : Pr} {R : Int → Int → Prop} {t : S} {proc up nx lp : Int} (hF : OneF t) (h : stepI sh f R [⟨t, proc, up, nx, lp⟩]) : GoF R t nx := by
  obtain ⟨h1, h2⟩ := h _ List.mem_cons_self
  unfold goesI at h1
  have hhi := hF.hi
  refine ⟨fun hk => ?_, fun hk => ?_, fun k5 k6 => ?_⟩
  · rw [if_pos (by exact hk)] at h1
    exact ⟨h1 _ List.mem_cons_self, h1 _ (List.mem_cons_of_mem _ List.mem_cons_self)⟩
  · rw [if_neg (by show ¬ t.kind = 5; omega), if_pos (by exact hk)] at h1
    exact ⟨h1 _ List.mem_cons_self, h1 _ (List.mem_cons_of_mem _ List.mem_cons_self)⟩
  · by_cases h7 : 7 ≤ t.kind
    · exact h2 h7
    · rw [if_neg (by exact k5), if_neg (by exact k6), if_neg (by show ¬ t.kind = 7; omega), if_neg (by show ¬ t.kind = 8; omega), if_neg (by show ¬ t.kind = 9; omega), if_neg (by show ¬ t.kind = 10; omega)] at h1
      exact h1 _ List.mem_cons_self
/-- A statement's parts. -/
structure PartsF (sh : Sheet) (f : Pr) (R : Int → Int → Prop) (t : S) (n : Nat) (proc nx lp : Int) : Prop where
  one : OneF t
  id : t.id = (n : Int) + 1
  go : GoF R t nx
  thn : ∃ nest m, rowL nest ((n + 1 : Nat) : Int) t.thn = some m
  els : ∃ nest m, rowL nest ((n + 1 + cntL t.thn : Nat) : Int) t.els = some m
  st : stepI sh f R (itL proc (n + 1) (if t.kind = 6 then n + 1 else nx) (if t.kind = 6 then n + 1 else lp) (n + 1) t.thn)
  se : stepI sh f R (itL proc (n + 1) (if t.kind = 6 then n + 1 else nx) (if t.kind = 6 then n + 1 else lp) (n + 1 + cntL t.thn) t.els)
theorem partsF {sh : Sheet} {f : Pr} {R : Int → Int → Prop} {t : S} {nest m : Int} {n : Nat} {proc up nx lp : Int} (h : rowS nest n t = some m) (hs : stepI sh f R (itS proc up nx lp n t)) : PartsF sh f R t n proc nx lp := by
  obtain ⟨h1, hid, m1, h3, h4⟩ := rowS_parts h
  have hF := one_facts h1
  have hm1 := rowL_cnt _ _ t.thn h3
  rw [itS_eq] at hs
  refine ⟨hF, hid, goF hF (hs.sub fun x hx => by rw [List.mem_singleton.1 hx]; exact List.mem_cons_self), ⟨nest + 1, m1, by rw [← h3]; rfl⟩, ⟨nest + 1, m, ?_⟩, hs.sub fun x hx => List.mem_cons_of_mem _ (List.mem_append.2 (.inl hx)), hs.sub fun x hx => List.mem_cons_of_mem _ (List.mem_append.2 (.inr hx))⟩
  rw [← h4, hm1]
  congr 1
mutual
theorem passS {sh : Sheet} {f : Pr} {R : Int → Int → Prop} (proc : Int) : ∀ (t : S) {nest m : Int} (up nx lp : Int) (n : Nat), rowS nest n t = some m → stepI sh f R (itS proc up nx lp n t) → Pth R (rng (n + 1) (n + cntS t)) t.id nx
  | .mk id kind labels name pr x has args thn els, nest, m, up, nx, lp, n, h, hs => by
    have P := partsF h hs
    have hc := cntS_pa (.mk id kind labels name pr x has args thn els)
    have hid := P.id
    have h0 : rng (n + 1) (n + cntS (.mk id kind labels name pr x has args thn els)) id := by
      constructor
      · show _ ≤ (S.mk id kind labels name pr x has args thn els).id
        omega
      · show (S.mk id kind labels name pr x has args thn els).id ≤ _
        omega
    by_cases k5 : kind = 5
    · obtain ⟨nest1, m1, h3⟩ := P.thn
      have q := passL proc thn _ _ _ (n + 1) h3 P.st
      have hne : ¬ kind = 6 := by omega
      simp only [show (S.mk id kind labels name pr x has args thn els).kind = kind from rfl, if_neg hne] at q
      refine .head h0 (P.go.k5 k5).1 (q.mono fun v hv => ?_)
      unfold rng at hv ⊢
      have e : (S.mk id kind labels name pr x has args thn els).thn = thn := rfl
      rw [e] at hc
      omega
    · by_cases k6 : kind = 6
      · exact .one h0 (P.go.k6 k6).2
      · exact .one h0 (P.go.oth k5 k6)
theorem passL {sh : Sheet} {f : Pr} {R : Int → Int → Prop} (proc : Int) : ∀ (l : List S) {nest m : Int} (up nx lp : Int) (n : Nat), rowL nest n l = some m → stepI sh f R (itL proc up nx lp n l) → Pth R (rng (n + 1) (n + cntL l)) (headI l nx) nx
  | [], nest, m, up, nx, lp, n, h, hs => .refl _
  | t :: r, nest, m, up, nx, lp, n, h, hs => by
    obtain ⟨_, m1, h1, h2⟩ := rowL_parts h
    have hm1 := rowS_cnt _ _ t h1
    have h2' : rowL nest ((n + cntS t : Nat) : Int) r = some m := by rw [← h2, hm1]; rfl
    rw [itL] at hs
    have q1 := passS proc t up _ lp n h1 (hs.sub fun x hx => List.mem_append.2 (.inl hx))
    have q2 := passL proc r up nx lp (n + cntS t) h2' (hs.sub fun x hx => List.mem_append.2 (.inr hx))
    rw [next_head h2'] at q1
    have hc : cntL (t :: r) = cntS t + cntL r := by rw [cntL]
    refine Pth.trans (q1.mono fun v hv => ?_) (q2.mono fun v hv => ?_)
    · unfold rng at hv ⊢
      omega
    · unfold rng at hv ⊢
      omega
end
def befP (a b : Int) (v : Int) : Prop := a ≤ v ∧ v < b
mutual
theorem enterS {sh : Sheet} {f : Pr} {R : Int → Int → Prop} (proc : Int) : ∀ (t : S) {nest m : Int} (up nx lp : Int) (n : Nat), rowS nest n t = some m → stepI sh f R (itS proc up nx lp n t) → ∀ it ∈ itS proc up nx lp n t, Pth R (befP t.id it.s.id) t.id it.s.id
  | .mk id kind labels name pr x has args thn els, nest, m, up, nx, lp, n, h, hs, it, hi => by
    have P := partsF h hs
    have hid : id = (n : Int) + 1 := P.id
    obtain ⟨nest1, m1, h3⟩ := P.thn
    obtain ⟨nest2, m2, h4⟩ := P.els
    rw [itS] at hi
    rcases List.mem_cons.1 hi with rfl | hi
    · exact .refl _
    rcases List.mem_append.1 hi with hi | hi
    · have q := enterL proc thn _ _ _ (n + 1) h3 P.st it hi
      have hr := itL_ids h3 hi
      have hmem : thn ≠ [] := fun e => by rw [e, itL] at hi; cases hi
      refine .head ⟨Int.le_refl _, by show id < _; omega⟩ ?_ (q.mono fun v hv => ⟨by have := hv.1; show id ≤ v; omega, hv.2⟩)
      rcases P.one.thn with h0 | k5 | k6
      · exact absurd (List.eq_nil_of_length_eq_zero h0) hmem
      · have k5 : kind = 5 := k5
        have hne : ¬ kind = 6 := by omega
        have := (P.go.k5 k5).1
        simp only [show (S.mk id kind labels name pr x has args thn els).kind = kind from rfl, if_neg hne]
        exact this
      · have k6 : kind = 6 := k6
        have := (P.go.k6 k6).1
        simp only [show (S.mk id kind labels name pr x has args thn els).kind = kind from rfl, if_pos k6]
        rw [← hid]
        exact this
    · have q := enterL proc els _ _ _ (n + 1 + cntL thn) h4 P.se it hi
      have hr := itL_ids h4 hi
      have hmem : els ≠ [] := fun e => by rw [e, itL] at hi; cases hi
      refine .head ⟨Int.le_refl _, by show id < _; omega⟩ ?_ (q.mono fun v hv => ⟨by have := hv.1; show id ≤ v; omega, hv.2⟩)
      rcases P.one.els with h0 | k5
      · exact absurd (List.eq_nil_of_length_eq_zero h0) hmem
      · have k5 : kind = 5 := k5
        have hne : ¬ kind = 6 := by omega
        have := (P.go.k5 k5).2
        simp only [show (S.mk id kind labels name pr x has args thn els).kind = kind from rfl, if_neg hne]
        exact this
theorem enterL {sh : Sheet} {f : Pr} {R : Int → Int → Prop} (proc : Int) : ∀ (l : List S) {nest m : Int} (up nx lp : Int) (n : Nat), rowL nest n l = some m → stepI sh f R (itL proc up nx lp n l) → ∀ it ∈ itL proc up nx lp n l, Pth R (befP (n + 1) it.s.id) (headI l nx) it.s.id
  | [], nest, m, up, nx, lp, n, h, hs, it, hi => by rw [itL] at hi; cases hi
  | t :: r, nest, m, up, nx, lp, n, h, hs, it, hi => by
    obtain ⟨_, m1, h1, h2⟩ := rowL_parts h
    have hm1 := rowS_cnt _ _ t h1
    have h2' : rowL nest ((n + cntS t : Nat) : Int) r = some m := by rw [← h2, hm1]; rfl
    have hid := (rowS_parts h1).2.1
    rw [itL] at hs hi
    have hst := hs.sub (m := itS proc up (if r.isEmpty then nx else n + 1 + cntS t) lp n t) fun x hx => List.mem_append.2 (.inl hx)
    rcases List.mem_append.1 hi with hi | hi
    · have q := enterS proc t up _ lp n h1 hst it hi
      exact q.mono fun v hv => ⟨by have := hv.1; omega, hv.2⟩
    · have q1 := passS proc t up _ lp n h1 hst
      have q2 := enterL proc r up nx lp (n + cntS t) h2' (hs.sub fun x hx => List.mem_append.2 (.inr hx)) it hi
      have hr := itL_ids h2' hi
      rw [next_head h2'] at q1
      exact Pth.trans (q1.mono fun v hv => ⟨hv.1, by have := hv.2; omega⟩) (q2.mono fun v hv => ⟨by have := hv.1; omega, hv.2⟩)
end
/-- From a statement ways lead to each one within, through those ahead of it; from it leads a way to the exit that is off that one. -/
structure WithinF (R : Int → Int → Prop) (u : S) : Prop where
  to : ∀ y, u.id < y → y < u.id + cntS u → Pth R (befP u.id y) u.id y
  off : ∀ y, u.id < y → y < u.id + cntS u → AvdP R y u.id
theorem ids_it {proc up nx lp : Int} {n : Nat} {nest m : Int} {l : List S} (h : rowL nest n l = some m) {y : Int} (h1 : (n : Int) + 1 ≤ y) (h2 : y ≤ (n : Int) + cntL l) : ∃ it ∈ itL proc up nx lp n l, it.s.id = y := by
  have h3 : y ∈ idsN n (cntL l) := idsN_has h1 (by omega)
  rw [← rowL_ids nest l h, ← itL_s proc up nx lp n l, List.map_map] at h3
  obtain ⟨it, hi, he⟩ := List.mem_map.1 h3
  exact ⟨it, hi, he⟩
mutual
theorem allS {sh : Sheet} {f : Pr} {R : Int → Int → Prop} (proc : Int) : ∀ (t : S) {nest m : Int} (up nx lp : Int) (n : Nat), rowS nest n t = some m → stepI sh f R (itS proc up nx lp n t) → AvdD R (rng (n + 1) (n + cntS t)) nx → ∀ it ∈ itS proc up nx lp n t, WithinF R it.s
  | .mk id kind labels name pr x has args thn els, nest, m, up, nx, lp, n, h, hs, hx => by
    have P := partsF h hs
    have hid : id = (n : Int) + 1 := P.id
    have hc : cntS (.mk id kind labels name pr x has args thn els) = 1 + cntL thn + cntL els := cntS_pa _
    obtain ⟨nest1, m1, h3⟩ := P.thn
    obtain ⟨nest2, m2, h4⟩ := P.els
    have hsplit : ∀ y, id < y → y < id + cntS (.mk id kind labels name pr x has args thn els) → ((n + 1 : Nat) : Int) + 1 ≤ y ∧ y ≤ ((n + 1 : Nat) : Int) + cntL thn ∨ ((n + 1 + cntL thn : Nat) : Int) + 1 ≤ y ∧ y ≤ ((n + 1 + cntL thn : Nat) : Int) + cntL els := fun y h1 h2 => by omega
    have self : WithinF R (.mk id kind labels name pr x has args thn els) := by
      refine ⟨fun y h1 h2 => ?_, fun y h1 h2 => ?_⟩
      · have hi : ∃ it ∈ itS proc up nx lp n (.mk id kind labels name pr x has args thn els), it.s.id = y := by
          rw [itS]
          rcases hsplit y h1 h2 with ⟨h5, h6⟩ | ⟨h5, h6⟩
          · obtain ⟨it, hi, he⟩ := ids_it (proc := proc) (up := n + 1) (nx := if kind = 6 then n + 1 else nx) (lp := if kind = 6 then n + 1 else lp) h3 h5 h6
            exact ⟨it, List.mem_cons_of_mem _ (List.mem_append.2 (.inl hi)), he⟩
          · obtain ⟨it, hi, he⟩ := ids_it (proc := proc) (up := n + 1) (nx := if kind = 6 then n + 1 else nx) (lp := if kind = 6 then n + 1 else lp) h4 h5 h6
            exact ⟨it, List.mem_cons_of_mem _ (List.mem_append.2 (.inr hi)), he⟩
        obtain ⟨it, hi, he⟩ := hi
        have := enterS proc _ up nx lp n h hs it hi
        rw [he] at this
        exact this
      · have hy : rng (n + 1) (n + cntS (.mk id kind labels name pr x has args thn els)) y := by
          have h1 : id < y := h1
          have h2 : y < id + cntS (.mk id kind labels name pr x has args thn els) := h2
          constructor <;> omega
        have hx1 := hx.one hy
        have hne : (S.mk id kind labels name pr x has args thn els).id ≠ y := by
          show id ≠ y
          have h1 : id < y := h1
          omega
        by_cases k6 : kind = 6
        · exact .step hne (P.go.k6 k6).2 hx1
        · by_cases k5 : kind = 5
          · have q1 := passL proc thn _ _ _ (n + 1) h3 P.st
            have q2 := passL proc els _ _ _ (n + 1 + cntL thn) h4 P.se
            simp only [show (S.mk id kind labels name pr x has args thn els).kind = kind from rfl, if_neg k6] at q1 q2
            have hxy : AvdD R (fun v => v = y) nx := hx.mono fun v hv => by rw [hv]; exact hy
            rcases hsplit y h1 h2 with ⟨h5, h6⟩ | ⟨h5, h6⟩
            · refine .step hne (P.go.k5 k5).2 (AvdD.one (D := fun v => v = y) rfl (q2.off (fun v hv e => ?_) hxy))
              unfold rng at hv
              omega
            · refine .step hne (P.go.k5 k5).1 (AvdD.one (D := fun v => v = y) rfl (q1.off (fun v hv e => ?_) hxy))
              unfold rng at hv
              omega
          · exact .step hne (P.go.oth k5 k6) hx1
    have hxt : ∀ D : Int → Prop, (∀ v, D v → rng (n + 1 + 1) (n + cntS (.mk id kind labels name pr x has args thn els)) v) → AvdD R D (if kind = 6 then (n : Int) + 1 else nx) := fun D hD => by
      have hx2 : AvdD R D nx := hx.mono fun v hv => by
        have := hD v hv
        unfold rng at this ⊢
        omega
      split
      · rename_i k6
        refine .step (fun hd => ?_) (by rw [← hid]; exact (P.go.k6 k6).2) hx2
        have := hD _ hd
        unfold rng at this
        omega
      · exact hx2
    intro it hi
    rw [itS] at hi
    rcases List.mem_cons.1 hi with rfl | hi
    · exact self
    rcases List.mem_append.1 hi with hi | hi
    · exact allL proc thn _ _ _ (n + 1) h3 P.st (hxt _ fun v hv => by unfold rng at hv ⊢; omega) it hi
    · exact allL proc els _ _ _ (n + 1 + cntL thn) h4 P.se (hxt _ fun v hv => by unfold rng at hv ⊢; omega) it hi
theorem allL {sh : Sheet} {f : Pr} {R : Int → Int → Prop} (proc : Int) : ∀ (l : List S) {nest m : Int} (up nx lp : Int) (n : Nat), rowL nest n l = some m → stepI sh f R (itL proc up nx lp n l) → AvdD R (rng (n + 1) (n + cntL l)) nx → ∀ it ∈ itL proc up nx lp n l, WithinF R it.s
  | [], nest, m, up, nx, lp, n, h, hs, hx, it, hi => by rw [itL] at hi; cases hi
  | t :: r, nest, m, up, nx, lp, n, h, hs, hx, it, hi => by
    obtain ⟨_, m1, h1, h2⟩ := rowL_parts h
    have hm1 := rowS_cnt _ _ t h1
    have h2' : rowL nest ((n + cntS t : Nat) : Int) r = some m := by rw [← h2, hm1]; rfl
    have hc : cntL (t :: r) = cntS t + cntL r := by rw [cntL]
    rw [itL] at hs hi
    have hsr := hs.sub (m := itL proc up nx lp (n + cntS t) r) fun x hx => List.mem_append.2 (.inr hx)
    rcases List.mem_append.1 hi with hi | hi
    · refine allS proc t up _ lp n h1 (hs.sub fun x hx => List.mem_append.2 (.inl hx)) ?_ it hi
      rw [next_head h2']
      refine (passL proc r up nx lp (n + cntS t) h2' hsr).off (fun v hv hd => ?_) (hx.mono fun v hv => ?_)
      · unfold rng at hv hd
        omega
      · unfold rng at hv ⊢
        omega
    · exact allL proc r up nx lp (n + cntS t) h2' hsr (hx.mono fun v hv => by unfold rng at hv ⊢; omega) it hi
end
end Go.Ab
namespace Go.Ab
open Go.Proofs
/-- Who decides one, or somebody who decides it, and so on. -/
inductive TrD (p : Pg) (n : Str) (b : Int) : Int → Prop
  | base {a : Int} (h : a ∈ byR p n b) : TrD p n b a
  | step {x a : Int} (hx : TrD p n b x) (h0 : x ≠ 0) (h : a ∈ byR p n x) : TrD p n b a
theorem TrD.trans {p : Pg} {n : Str} {b x a : Int} (h : TrD p n b x) (h0 : x ≠ 0) (h' : TrD p n x a) : TrD p n b a := by
  induction h' with
  | base h1 => exact .step h h0 h1
  | step _ h1 h2 ih => exact .step ih h1 h2
theorem addB_spec : ∀ (bs l : List Int), OkL l → (∀ a ∈ bs, 0 ≤ a ∧ a ≤ 200) → OkL (addB l bs) ∧ (∃ s, addB l bs = l ++ s) ∧ ∀ a ∈ bs, a ∈ addB l bs
  | [], l, h, _ => ⟨h, ⟨[], by simp [addB]⟩, fun a ha => absurd ha List.not_mem_nil⟩
  | b :: r, l, h, hb => by
    have e : addB l (b :: r) = addB (if hasI l b then l else l ++ [b]) r := rfl
    rw [e]
    have hbr : ∀ a ∈ r, 0 ≤ a ∧ a ≤ 200 := fun a ha => hb a (List.mem_cons_of_mem _ ha)
    cases hh : hasI l b with
    | true =>
      rw [if_pos rfl]
      obtain ⟨h1, ⟨s, h2⟩, h3⟩ := addB_spec r l h hbr
      refine ⟨h1, ⟨s, h2⟩, fun a ha => ?_⟩
      rcases List.mem_cons.1 ha with rfl | ha
      · rw [h2]
        unfold hasI at hh
        obtain ⟨y, hy, hye⟩ := List.any_eq_true.1 hh
        rw [decide_eq_true_eq] at hye
        exact List.mem_append.2 (.inl (hye ▸ hy))
      · exact h3 a ha
    | false =>
      rw [if_neg (by decide)]
      obtain ⟨h1, ⟨s, h2⟩, h3⟩ := addB_spec r (l ++ [b]) (h.snoc (hb b List.mem_cons_self) hh) hbr
      refine ⟨h1, ⟨[b] ++ s, by rw [h2, List.append_assoc]⟩, fun a ha => ?_⟩
      rcases List.mem_cons.1 ha with rfl | ha
      · rw [h2]
        exact List.mem_append.2 (.inl (List.mem_append.2 (.inr List.mem_cons_self)))
      · exact h3 a ha
theorem abF_spec (p : Pg) (n : Str) : ∀ (k i : Nat) (l : List Int), i + k = 300 → OkL l → (∀ m, m < i → ∀ y, l[m]? = some y → y ≠ 0 → ∀ a ∈ byR p n y, a ∈ l) → (∀ x ∈ l, x ∈ abF p n k i l) ∧ (∀ y ∈ abF p n k i l, y ≠ 0 → ∀ a ∈ byR p n y, a ∈ abF p n k i l)
  | 0, i, l, hk, hl, hp => by
    rw [abF]
    refine ⟨fun x hx => hx, fun y hy h0 a ha => ?_⟩
    obtain ⟨m, hm, rfl⟩ := List.mem_iff_getElem.1 hy
    have := hl.len
    exact hp m (by omega) _ (List.getElem?_eq_getElem hm) h0 a ha
  | k + 1, i, l, hk, hl, hp => by
    rw [abF]
    split
    · rename_i hi
      have hg : l[i]? = some (l.getD i 0) := by rw [List.getD_eq_getElem?_getD, List.getElem?_eq_getElem hi]; rfl
      split
      · rename_i h0
        refine abF_spec p n k (i + 1) l (by omega) hl fun m hm y hy hy0 => ?_
        by_cases he : m = i
        · subst he
          rw [hg] at hy
          cases hy
          exact absurd h0 hy0
        · exact hp m (by omega) y hy hy0
      · obtain ⟨h1, ⟨s, h2⟩, h3⟩ := addB_spec (byR p n (l.getD i 0)) l hl (byR_ok p n _).2
        obtain ⟨h4, h5⟩ := abF_spec p n k (i + 1) (addB l (byR p n (l.getD i 0))) (by omega) h1 fun m hm y hy hy0 a ha => by
          have hlm : m < l.length := by omega
          rw [h2, List.getElem?_append_left hlm] at hy
          by_cases he : m = i
          · subst he
            rw [hg] at hy
            obtain rfl := Option.some.inj hy
            exact h3 a ha
          · rw [h2]
            exact List.mem_append.2 (.inl (hp m (by omega) y hy hy0 a ha))
        exact ⟨fun x hx => h4 x (by rw [h2]; exact List.mem_append.2 (.inl hx)), h5⟩
    · rename_i hi
      refine ⟨fun x hx => hx, fun y hy h0 a ha => ?_⟩
      obtain ⟨m, hm, rfl⟩ := List.mem_iff_getElem.1 hy
      exact hp m (by omega) _ (List.getElem?_eq_getElem hm) h0 a ha
theorem above_mem {p : Pg} {n : Str} {b a : Int} (h : TrD p n b a) : a ∈ aboveR p n b := by
  obtain ⟨h1, h2⟩ := abF_spec p n 300 0 (byR p n b) rfl (byR_ok p n b) fun m hm => absurd hm (Nat.not_lt_zero _)
  induction h with
  | base h => exact h1 _ h
  | step _ h0 h3 ih => exact h2 _ ih h0 _ h3
mutual
theorem itS_in (proc : Int) : ∀ (t : S) {nest m : Int} (up nx lp : Int) (n : Nat), rowS nest n t = some m → ∀ it ∈ itS proc up nx lp n t, it.up = up ∨ ∃ iu ∈ itS proc up nx lp n t, iu.s.id = it.up ∧ iu.s.id < it.s.id ∧ it.s.id < iu.s.id + cntS iu.s
  | .mk id kind labels name pr x has args thn els, nest, m, up, nx, lp, n, h, it, hi => by
    obtain ⟨_, hid, m1, h3, h4⟩ := rowS_parts h
    have hid : id = (n : Int) + 1 := hid
    have hc : cntS (.mk id kind labels name pr x has args thn els) = 1 + cntL thn + cntL els := cntS_pa _
    have hm1 := rowL_cnt _ _ thn h3
    have h3' : rowL (nest + 1) ((n + 1 : Nat) : Int) thn = some m1 := by rw [← h3]; rfl
    have h4' : rowL (nest + 1) ((n + 1 + cntL thn : Nat) : Int) els = some m := by
      rw [← h4, hm1]
      congr 1
    rw [itS] at hi ⊢
    rcases List.mem_cons.1 hi with rfl | hi
    · exact .inl rfl
    rcases List.mem_append.1 hi with hi | hi
    · have hr := itL_ids h3' hi
      rcases itL_in proc thn _ _ _ (n + 1) h3' it hi with h5 | ⟨iu, h5, h6⟩
      · refine .inr ⟨_, List.mem_cons_self, ?_, ?_, ?_⟩
        · rw [h5]; exact hid
        · show id < _
          omega
        · show _ < id + _
          rw [hc]
          omega
      · exact .inr ⟨iu, List.mem_cons_of_mem _ (List.mem_append.2 (.inl h5)), h6⟩
    · have hr := itL_ids h4' hi
      rcases itL_in proc els _ _ _ (n + 1 + cntL thn) h4' it hi with h5 | ⟨iu, h5, h6⟩
      · refine .inr ⟨_, List.mem_cons_self, ?_, ?_, ?_⟩
        · rw [h5]; exact hid
        · show id < _
          omega
        · show _ < id + _
          rw [hc]
          omega
      · exact .inr ⟨iu, List.mem_cons_of_mem _ (List.mem_append.2 (.inr h5)), h6⟩
theorem itL_in (proc : Int) : ∀ (l : List S) {nest m : Int} (up nx lp : Int) (n : Nat), rowL nest n l = some m → ∀ it ∈ itL proc up nx lp n l, it.up = up ∨ ∃ iu ∈ itL proc up nx lp n l, iu.s.id = it.up ∧ iu.s.id < it.s.id ∧ it.s.id < iu.s.id + cntS iu.s
  | [], nest, m, up, nx, lp, n, h, it, hi => by rw [itL] at hi; cases hi
  | t :: r, nest, m, up, nx, lp, n, h, it, hi => by
    obtain ⟨_, m1, h1, h2⟩ := rowL_parts h
    have hm1 := rowS_cnt _ _ t h1
    have h2' : rowL nest ((n + cntS t : Nat) : Int) r = some m := by rw [← h2, hm1]; rfl
    rw [itL] at hi ⊢
    rcases List.mem_append.1 hi with hi | hi
    · rcases itS_in proc t up _ lp n h1 it hi with h5 | ⟨iu, h5, h6⟩
      · exact .inl h5
      · exact .inr ⟨iu, List.mem_append.2 (.inl h5), h6⟩
    · rcases itL_in proc r up nx lp (n + cntS t) h2' it hi with h5 | ⟨iu, h5, h6⟩
      · exact .inl h5
      · exact .inr ⟨iu, List.mem_append.2 (.inr h5), h6⟩
end
section
variable {p : Pg} {j : Nat} {f : Pr} {n : Str}
theorem aug_stepI (h : chkB p = true) (hj : p.procs[j]? = some f) : stepI (sheetOf p) f (aR p j f) (itL (j : Nat) 0 (-1) 0 (offN p.procs j) f.body) := fun it hi =>
  ⟨fun y hy => (aR_iff h hj).2 (.inl ⟨⟨it.s.id, y, 1⟩, ((real_spec h hj).2 _).2 (raw_go hi hy), rfl, rfl⟩), fun hk => (aR_iff h hj).2 (.inr (.inr (.inr ⟨it, hi, hk, rfl, rfl⟩)))⟩
theorem within (h : chkB p = true) (hj : p.procs[j]? = some f) : ∀ it ∈ itsOf p j f, WithinF (aR p j f) it.s := by
  obtain ⟨m, hr⟩ := may_row (chk_parts h).1 hj
  refine allL (j : Nat) f.body 0 (-1) 0 (offN p.procs j) hr (aug_stepI h hj) (.exit fun hd => ?_)
  unfold rng at hd
  omega
theorem dec_by (h : chkB p = true) (hj : p.procs[j]? = some f) (hw : wayO p n = some (newWay p j f)) {v t b : Int} (hb : plP p j f b) (hb0 : 0 < b) (hR : aR p j f v t) (h1 : ¬ AvdP (aR p j f) b t) (h2 : AvdP (aR p j f) b v) : v ∈ byR p n b :=
  (byR_iff h hj hw).2 ⟨(aR_pl h hj hR).1, hb, hb0, t, hR, h1, .inr fun h3 => h3 h2⟩
theorem entry_tr (h : chkB p = true) (hj : p.procs[j]? = some f) (hw : wayO p n = some (newWay p j f)) : ∀ (N : Nat) (y : Int), (offN p.procs j : Int) + 1 ≤ y → y ≤ (offN p.procs j + cntL f.body : Nat) → y.toNat ≤ N → TrD p n y 0
  | N, y, h1, h2, hN => by
    obtain ⟨m, hr⟩ := may_row (chk_parts h).1 hj
    have h0 : aR p j f 0 (headI f.body (-1)) := by
      rw [← fst_head h hj]
      exact (aR_iff h hj).2 (.inl (entry_go h hj))
    obtain ⟨it, hi, rfl⟩ := ids_it (proc := (j : Nat)) (up := 0) (nx := -1) (lp := 0) hr h1 (by omega)
    have q := enterL (j : Nat) f.body 0 (-1) 0 (offN p.procs j) hr (aug_stepI h hj) it hi
    have q2 : Pth (aR p j f) (fun v => v = 0 ∨ befP ((offN p.procs j : Nat) + 1) it.s.id v) 0 it.s.id := .head (.inl rfl) h0 (q.mono fun v hv => .inr hv)
    have ha : AvdP (aR p j f) it.s.id 0 := .step (by omega) ((aR_iff h hj).2 (.inr (.inl ⟨rfl, rfl⟩))) (.exit (by omega))
    obtain ⟨v, t, hv, hR, hn, hav⟩ := decider q2 ha
    have hby := dec_by h hj hw (.inr (.inr ⟨h1, h2⟩)) (by omega) hR hn hav
    rcases hv with rfl | ⟨h3, h4⟩
    · exact .base hby
    · match N, hN with
      | 0, hN => omega
      | N + 1, hN => exact TrD.trans (.base hby) (by omega) (entry_tr h hj hw N v (by omega) (by omega) (by omega))
theorem within_tr (h : chkB p = true) (hj : p.procs[j]? = some f) (hw : wayO p n = some (newWay p j f)) {iu : Item} (hu : iu ∈ itsOf p j f) (hcn : ∀ y, iu.s.id < y → y < iu.s.id + cntS iu.s → y ≤ (offN p.procs j + cntL f.body : Nat)) : ∀ (N : Nat) (y : Int), iu.s.id < y → y < iu.s.id + cntS iu.s → y.toNat ≤ N → TrD p n y iu.s.id
  | N, y, h1, h2, hN => by
    have hW := within h hj iu hu
    have hb := body_id (chk_parts h).1 hj (its_s hu)
    have hyu := hcn y h1 h2
    obtain ⟨v, t, ⟨h3, h4⟩, hR, hn, hav⟩ := decider (hW.to y h1 h2) (hW.off y h1 h2)
    have hby := dec_by h hj hw (.inr (.inr ⟨by omega, by omega⟩)) (by omega) hR hn hav
    by_cases he : v = iu.s.id
    · subst he
      exact .base hby
    · match N, hN with
      | 0, hN => omega
      | N + 1, hN => exact TrD.trans (.base hby) (by omega) (within_tr h hj hw hu hcn N v (by omega) (by omega) (by omega))
mutual
theorem itS_top (proc : Int) : ∀ (t : S) {nest m : Int} (up nx lp : Int) (n : Nat), rowS nest n t = some m → ∀ it ∈ itS proc up nx lp n t, it.s.id + cntS it.s ≤ (n : Int) + 1 + cntS t
  | .mk id kind labels name pr x has args thn els, nest, m, up, nx, lp, n, h, it, hi => by
    obtain ⟨_, hid, m1, h3, h4⟩ := rowS_parts h
    have hid : id = (n : Int) + 1 := hid
    have hc : cntS (.mk id kind labels name pr x has args thn els) = 1 + cntL thn + cntL els := cntS_pa _
    have hm1 := rowL_cnt _ _ thn h3
    have h3' : rowL (nest + 1) ((n + 1 : Nat) : Int) thn = some m1 := by rw [← h3]; rfl
    have h4' : rowL (nest + 1) ((n + 1 + cntL thn : Nat) : Int) els = some m := by
      rw [← h4, hm1]
      congr 1
    rw [itS] at hi
    rcases List.mem_cons.1 hi with rfl | hi
    · show id + (cntS (.mk id kind labels name pr x has args thn els) : Int) ≤ _
      omega
    rcases List.mem_append.1 hi with hi | hi
    · have := itL_top proc thn _ _ _ (n + 1) h3' it hi
      omega
    · have := itL_top proc els _ _ _ (n + 1 + cntL thn) h4' it hi
      omega
theorem itL_top (proc : Int) : ∀ (l : List S) {nest m : Int} (up nx lp : Int) (n : Nat), rowL nest n l = some m → ∀ it ∈ itL proc up nx lp n l, it.s.id + cntS it.s ≤ (n : Int) + 1 + cntL l
  | [], nest, m, up, nx, lp, n, h, it, hi => by rw [itL] at hi; cases hi
  | t :: r, nest, m, up, nx, lp, n, h, it, hi => by
    obtain ⟨_, m1, h1, h2⟩ := rowL_parts h
    have hm1 := rowS_cnt _ _ t h1
    have h2' : rowL nest ((n + cntS t : Nat) : Int) r = some m := by rw [← h2, hm1]; rfl
    have hc : cntL (t :: r) = cntS t + cntL r := by rw [cntL]
    rw [itL] at hi
    rcases List.mem_append.1 hi with hi | hi
    · have := itS_top proc t up _ lp n h1 it hi
      omega
    · have := itL_top proc r up nx lp (n + cntS t) h2' it hi
      omega
end
theorem up_tr (h : chkB p = true) (hj : p.procs[j]? = some f) (hw : wayO p n = some (newWay p j f)) : ∀ (k : Nat) {y : Int}, (offN p.procs j : Int) + 1 ≤ y → y ≤ (offN p.procs j + cntL f.body : Nat) → ∀ a ∈ upF (sheetOf p) k (upAt (sheetOf p) y), TrD p n y a
  | 0, y, _, _, a, ha => by rw [upF] at ha; cases ha
  | k + 1, y, h1, h2, a, ha => by
    obtain ⟨m, hr⟩ := may_row (chk_parts h).1 hj
    obtain ⟨it, hi, rfl⟩ := ids_it (proc := (j : Nat)) (up := 0) (nx := -1) (lp := 0) hr h1 (by omega)
    have hup : upAt (sheetOf p) it.s.id = it.up := by unfold upAt; rw [it_at h hj hi]; rfl
    rw [hup, upF] at ha
    split at ha
    · cases ha
    · rename_i h0
      rcases itL_in (j : Nat) f.body 0 (-1) 0 (offN p.procs j) hr it hi with h5 | ⟨iu, hu, h5, h6, h7⟩
      · exact absurd h5 h0
      · have htop := itL_top (j : Nat) f.body 0 (-1) 0 (offN p.procs j) hr iu hu
        have hbu := body_id (chk_parts h).1 hj (its_s (p := p) (j := j) hu)
        have t1 : TrD p n it.s.id iu.s.id := within_tr h hj hw hu (fun y _ hy => by omega) _ _ h6 h7 (Nat.le_refl _)
        rcases List.mem_cons.1 ha with rfl | ha
        · rw [← h5]
          exact t1
        · rw [← h5] at ha
          exact TrD.trans t1 (by omega) (up_tr h hj hw k hbu.1 hbu.2 a ha)
end
theorem way_name {p : Pg} (h : chkB p = true) {f : Pr} (hf : f ∈ p.procs) : ∃ k, p.procs[k]? = some f ∧ wayO p f.name = some (newWay p k f) := by
  cases hw : wayO p f.name with
  | none =>
    exfalso
    unfold wayO at hw
    rw [h, cond_true] at hw
    cases hq : p.procs.find? (fun g => g.name == f.name) with
    | none =>
      have := List.find?_eq_none.1 hq _ hf
      simp at this
    | some g => rw [hq] at hw; cases hw
  | some w =>
    obtain ⟨k, g, hkj, rfl, _, hgn, _⟩ := wayO_some hw
    have he : g = f := nodup_inj (names_nodup h) g (List.mem_of_getElem? hkj) f hf hgn
    subst he
    exact ⟨k, hkj, rfl⟩
/-- A statement's procedure. -/
theorem proc_way {p : Pg} (h : chkB p = true) {id : Int} (hid : id ∈ idsR p 0) : ∃ k f t, p.procs[k]? = some f ∧ t ∈ flL f.body ∧ t.id = id ∧ wayO p (findO p id).2.1 = some (newWay p k f) := by
  have hm := (chk_parts h).1
  unfold idsR at hid
  obtain ⟨x, hx, rfl⟩ := List.mem_map.1 hid
  have hx := (List.mem_filter.1 hx).1
  rw [allR_eq hm] at hx
  obtain ⟨g, hg, hxg⟩ := List.mem_flatMap.1 hx
  rw [← flatR_eq hm hg] at hxg
  unfold findO
  cases hr : findR p x.s.id with
  | none =>
    exfalso
    unfold findR at hr
    have h1 := List.findSome?_eq_none_iff.1 hr g hg
    unfold findF at h1
    rw [Option.map_eq_none_iff, List.find?_eq_none] at h1
    exact h1 x hxg (by simp)
  | some y =>
    obtain ⟨y, nm⟩ := y
    unfold findR at hr
    obtain ⟨f, hf, h1⟩ := List.exists_of_findSome?_eq_some hr
    unfold findF at h1
    rw [Option.map_eq_some_iff] at h1
    obtain ⟨z, h2, h3⟩ := h1
    obtain rfl : z = y := congrArg Prod.fst h3
    have hnm : f.name = nm := congrArg Prod.snd h3
    obtain ⟨k, hk, hw⟩ := way_name h hf
    refine ⟨k, f, z.s, hk, flat_pl h hk (List.mem_of_find?_eq_some h2), by simpa using List.find?_some h2, ?_⟩
    show wayO p nm = _
    rw [← hnm]
    exact hw
theorem pick_in {l : List Int} (n : Int) (h : l ≠ []) : pickR l n ∈ l := by
  unfold pickR
  have hl : 0 < (l.length : Int) := by
    have := List.length_pos_iff.2 h
    omega
  have := modI_rng (n := n) hl
  rw [if_neg h, List.getD_eq_getElem?_getD, List.getElem?_eq_getElem (by omega)]
  exact List.getElem_mem _
theorem has_of {l : List Int} {x : Int} (h : x ∈ l) : hasI l x = true := by
  unfold hasI
  rw [List.any_eq_true]
  exact ⟨x, h, by simp⟩
/-- What the statements CdepEntry and CdepIn say. -/
theorem cdep_facts {p : Pg} (h : chkB p = true) (n : Int) (h0 : pickR (idsR p 0) n ≠ 0) : hasI (aboveR p (findO p (pickR (idsR p 0) n)).2.1 (pickR (idsR p 0) n)) 0 = true ∧ ∀ a ∈ inR p (pickR (idsR p 0) n), hasI (aboveR p (findO p (pickR (idsR p 0) n)).2.1 (pickR (idsR p 0) n)) a = true := by
  have hne : idsR p 0 ≠ [] := fun e => h0 (by rw [e]; rfl)
  obtain ⟨k, f, t, hk, ht, he, hw⟩ := proc_way h (pick_in n hne)
  rw [← he] at hw ⊢
  have hb := body_id (chk_parts h).1 hk ht
  refine ⟨has_of (above_mem (entry_tr h hk hw _ _ hb.1 hb.2 (Nat.le_refl _))), fun a ha => has_of (above_mem ?_)⟩
  unfold inR at ha
  cases hc : (chkB p && (decide (1 ≤ t.id) && decide (t.id ≤ (sheetOf p).l.length))) with
  | false => rw [hc] at ha; cases ha
  | true =>
    rw [hc, cond_true, List.mem_reverse] at ha
    exact up_tr h hk hw _ hb.1 hb.2 a ha
end Go.Ab
namespace Go.Ab
open Go.Proofs
theorem ids_len {p : Pg} (h : chkB p = true) (k : Int) : (allR p).length ≤ 1000 ∧ (idsR p k).length ≤ 1000000 := by
  have h1 := (may_facts (chk_parts h).1).len
  refine ⟨by omega, ?_⟩
  unfold idsR
  rw [List.length_map]
  have := List.length_filter_le (kindB k) (allR p)
  omega
theorem small_chk {p : Pg} {m : Int} (h : smallB p m = true) : chkB p = true := by
  unfold smallB at h
  rw [Bool.and_eq_true] at h
  exact h.1
end Go.Ab
namespace Go.Ab
open Go.Proofs
set_option maxHeartbeats 8000000 in
set_option maxRecDepth 100000 in
theorem whittlerlaw18_CdepIn (p : Pg) (n : Int) : SpecP Tryz.prog 7 [.agg p.cells, .int .i64 n] (fun r => r = .tt) := by
  refine SpecP.body I_whittlerlaw18_CdepIn tabOK Tryz.func7 rfl Tryz.call7 (by show 2 ≤ _; decide) ?_
  conv => whnf
  cases hfb : fitB p with
  | false =>
    have hno : ¬ gPg p ≤ 20000 := by unfold fitB at hfb; simpa using hfb
    repeat' (first | ((first | (refine CallK.pure (whittlerref3_Fits _) (by repeat' (first | exact ArgP.nil | refine ArgP.cons ?_ ?_ | exact Sub.refl _ | exact Sub.tt rfl | exact Sub.ff rfl)) ?_; rintro _ rfl) | (refine CallK.pure whittlerlaw18_deciding .nil ?_; rintro _ rfl)); conv => whnf) | (refine Br.dec2 (fun _ => ?_) (fun _ => ?_) <;> first | (exfalso; omega) | conv => whnf))
    all_goals first
      | exact ⟨_, .p (Sub.refl _), rfl⟩
      | (exfalso; simp_all; done)
  | true =>
    have hf : Fit p := fit_of hfb
    have hfit : gPg p ≤ 20000 := by unfold fitB at hfb; simpa using hfb
    have hS := whittlerlaw18_small p hf 60
    cases hs : smallB p 60 with
    | false =>
      rw [hs] at hS
      repeat' (first | ((first | (refine CallK.pure (whittlerref3_Fits _) (by repeat' (first | exact ArgP.nil | refine ArgP.cons ?_ ?_ | exact Sub.refl _ | exact Sub.tt rfl | exact Sub.ff rfl)) ?_; rintro _ rfl) | (refine CallK.pure whittlerlaw18_deciding .nil ?_; rintro _ rfl) | (refine CallK.pure hS (.cons (Sub.refl _) (.cons (Sub.refl _) .nil)) ?_; rintro _ rfl)); conv => whnf) | (refine Br.dec2 (fun _ => ?_) (fun _ => ?_) <;> first | (exfalso; omega) | conv => whnf) | (refine Br.n (fun _ => ?_) (fun _ => ?_) <;> conv => whnf))
      all_goals first
        | contradiction
        | exact ⟨_, .p (Sub.refl _), rfl⟩
    | true =>
      rw [hs] at hS
      have hc := small_chk hs
      obtain ⟨hl1, hl2⟩ := ids_len hc 0
      have hI := whittlerref6_Ids p 0 hl1
      have hP := whittlerref6_Pick (idsR p 0) n hl2
      have hK := fun h => (cdep_facts hc n h).2
      generalize pickR (idsR p 0) n = id at hP hK
      have hO := whittlerref6_ProcOf p id
      generalize (findO p id).2.1 = nm at hO hK
      have hA := whittlerlaw18_above p hf nm id
      have hIn := cdep_In p hf id
      generalize inR p id = L at hIn hK
      generalize aboveR p nm id = A at hA hK
      have hLm : (L.map (AV.int .i64)).length = L.length := List.length_map _
      by_cases h0 : id = 0
      · subst h0
        repeat' (first | ((first | (refine CallK.pure (whittlerref3_Fits _) (by repeat' (first | exact ArgP.nil | refine ArgP.cons ?_ ?_ | exact Sub.refl _ | exact Sub.tt rfl | exact Sub.ff rfl)) ?_; rintro _ rfl) | (refine CallK.pure whittlerlaw18_deciding .nil ?_; rintro _ rfl) | (refine CallK.pure hS (.cons (Sub.refl _) (.cons (Sub.refl _) .nil)) ?_; rintro _ rfl) | (refine CallK.pure hI (.cons (Sub.refl _) (.cons (Sub.refl _) .nil)) ?_; rintro _ rfl) | (refine CallK.pure hP (.cons (Sub.refl _) (.cons (Sub.refl _) .nil)) ?_; rintro _ rfl)); conv => whnf) | (refine Br.dec (fun _ => ?_) (fun _ => ?_) <;> first | (exfalso; omega) | conv => whnf) | (refine Br.dec2 (fun _ => ?_) (fun _ => ?_) <;> first | (exfalso; omega) | conv => whnf) | (refine Br.n (fun _ => ?_) (fun _ => ?_) <;> conv => whnf))
        all_goals first
          | contradiction
          | exact ⟨_, .p (Sub.refl _), rfl⟩
          | exact ⟨_, .p (Sub.tt' rfl), rfl⟩
          | skip
      · have hK := hK h0
        repeat' (first | ((first | (intro (_ : _ ≤ 9223372036854775807)) | (refine CallK.pure (whittlerref3_Fits _) (by repeat' (first | exact ArgP.nil | refine ArgP.cons ?_ ?_ | exact Sub.refl _ | exact Sub.tt rfl | exact Sub.ff rfl)) ?_; rintro _ rfl) | (refine DrawK.auto tabOK mixed (by kernel_rfl) ?_) | (refine CallK.pure whittlerlaw18_deciding .nil ?_; rintro _ rfl) | (refine CallK.pure hS (.cons (Sub.refl _) (.cons (Sub.refl _) .nil)) ?_; rintro _ rfl) | (refine CallK.pure hI (.cons (Sub.refl _) (.cons (Sub.refl _) .nil)) ?_; rintro _ rfl) | (refine CallK.pure hP (.cons (Sub.refl _) (.cons (Sub.refl _) .nil)) ?_; rintro _ rfl) | (refine CallK.pure hO (.cons (Sub.refl _) (.cons (Sub.refl _) .nil)) ?_; rintro _ rfl) | (refine CallK.pure hA (.cons (Sub.refl _) (.cons (Sub.refl _) (.cons (Sub.refl _) .nil))) ?_; rintro _ rfl) | (refine CallK.pure hIn (.cons (Sub.refl _) (.cons (Sub.refl _) .nil)) ?_; rintro _ rfl)); conv => whnf) | (refine Br.dec (fun _ => ?_) (fun _ => ?_) <;> first | (exfalso; omega) | conv => whnf) | (refine Br.dec2 (fun _ => ?_) (fun _ => ?_) <;> first | (exfalso; omega) | conv => whnf) | (refine Br.n (fun _ => ?_) (fun _ => ?_) <;> conv => whnf))
        all_goals first
          | contradiction
          | skip
        refine LoopK.inv tabOK (fun j : Nat => ⟨[(6, .p (eInts A)), (31, .p (eInts L)), (32, .p (.int .i64 (L.map (AV.int .i64)).length)), (33, .p (.int .i64 j))], []⟩) (fun j => j ≤ L.length) (fun j => L.length - j) 0 (Le.of_eq rfl) (Nat.zero_le _) ?_
        intro j hj
        rcases Nat.lt_or_ge j L.length with hj | hj
        · have hH := whittlerref14_Has A L[j]
          rw [hK _ (List.getElem_mem hj)] at hH
          conv => whnf
          repeat' (first | ((first | (refine IdxK.map (by omega) (fun _ => rfl) ?_) | (refine Wr.i64 (by omega) (by omega) ?_) | (refine CallK.pure hH (.cons (Sub.refl _) (.cons (Sub.refl _) .nil)) ?_; rintro _ rfl)); conv => whnf) | (refine Br.dec (fun _ => ?_) (fun _ => ?_) <;> first | (exfalso; omega) | conv => whnf) | (refine Br.n (fun _ => ?_) (fun _ => ?_) <;> conv => whnf))
          all_goals first
            | contradiction
            | exact ⟨j + 1, by omega, by omega, Le.of_eq rfl⟩
        · conv => whnf
          repeat' (refine Br.dec (fun _ => ?_) (fun _ => ?_) <;> first | (exfalso; omega) | conv => whnf)
          exact ⟨_, .p (Sub.refl _), rfl⟩
end Go.Ab
