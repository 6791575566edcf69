/- cdep: who decides whom, by whom a statement is decided, in whom it stands; the reference: the ids of a kind. -/
import Derived.Test.YtneccajakpeodaaGreatCdpF9
import Derived.Test.YtneccajakpeodaaGreatCdpF16
import Derived.Test.YtneccajakpeodaaGreatCdpF18
set_option linter.unusedSimpArgs false
set_option linter.unusedVariables false
set_option maxRecDepth 100000
set_option maxHeartbeats 16000000
namespace Go.Ab
open Go.Proofs
def kindB (k : Int) (x : RI) : Bool := decide (k = 0) || decide (x.s.kind = k)
def idsR (p : Pg) (k : Int) : List Int := ((allR p).filter (kindB k)).map fun x => x.s.id
theorem whittlerref6_Ids (p : Pg) (k : Int) (hl : (allR p).length ≤ 1000) : SpecP Tryz.prog 49 [.agg p.cells, .int .i64 k] (fun r => r = eInts (idsR p k)) := by
 refine SpecP.body I_whittlerref6_Ids tabOK Tryz.func49 rfl Tryz.call49 (by show 2 ≤ _; decide) ?_
 conv => whnf
 have hrl := ri_len (allR p)
 repeat' ((first | (intro (_ : _ ≤ 9223372036854775807)) | (refine CallK.pure (whittlerref3_All _) (by repeat' (first | exact ArgP.nil | refine ArgP.cons ?_ ?_ | exact Sub.refl _ | exact Sub.tt rfl | exact Sub.ff rfl)) ?_; rintro _ rfl)); conv => whnf)
 refine LoopK.inv tabOK (fun x : Nat × List Int => ⟨[(1, .p (.int .i64 k)), (5, .hd 0 0 x.2.length), (9, .p (eRIs (allR p))), (10, .p (.int .i64 ((allR p).map fun i => AV.agg i.cells).length)), (11, .p (.int .i64 x.1))], [(0, .own 3 1 (x.2.map (.int .i64)))]⟩) (fun x => x.1 ≤ (allR p).length ∧ x.2.length ≤ x.1 ∧ x.2 ++ (((allR p).drop x.1).filter (kindB k)).map (fun y => y.s.id) = idsR p k) (fun x => (allR p).length - x.1) (0, [])
  (Le.mk [(0, .own 3 1 [])] (by simp [Chunk.new0]; rfl) (by simp) (by simp) (.cons (.refl _) (.cons (.nil List.mem_cons_self) (.cons (.refl _) (.cons (.refl _) (.cons (.refl _) .nil))))) (.new List.mem_cons_self .nil)) ⟨Nat.zero_le _, Nat.le_refl _, rfl⟩ ?_
 rintro ⟨j, o⟩ ⟨h2, h4, h3⟩
 simp only at h2 h3 h4 ⊢
 generalize hL : allR p = L at h2 h3 hrl hl ⊢
 rcases Nat.lt_or_ge j L.length with hj | hj
 ·rw [List.drop_eq_getElem_cons hj] at h3
  conv => whnf
  repeat' (first | ((first | (refine And.intro rfl ?_) | (refine And.intro ⟨by decide, by decide⟩ ?_) | (refine BsK.pure (fun x hx => by rcases List.mem_singleton.1 hx with rfl; rfl) rfl ?_) | (refine IdxK.map (by omega) (fun _ => rfl) ?_) | (refine Wr.i64 (by omega) (by omega) ?_) | (refine AppK.int1 (by simp) (by simp; omega) ?_)); conv => whnf) | (refine Br.dec (fun _ => ?_) (fun _ => ?_) <;> first | (exfalso; omega) | conv => whnf))
  all_goals first
   | (have e : kindB k L[j] = true := by unfold kindB; simp [*]; done
      rw [List.filter_cons_of_pos e, List.map_cons] at h3
      exact ⟨(j + 1, o ++ [L[j].s.id]), ⟨hj, by simp; omega, by rw [List.append_assoc]; exact h3⟩, by simp only; omega, Le.of_eq (by simp only [List.length_append, List.map_append, List.length_map]; rfl)⟩)
   | (have e : kindB k L[j] = false := by unfold kindB; simp [*]; done
      rw [List.filter_cons_of_neg (fun hh => by rw [e] at hh; cases hh)] at h3
      exact ⟨(j + 1, o), ⟨hj, by simp only; omega, h3⟩, by simp only; omega, Le.of_eq rfl⟩)
   | trace_state
 ·rw [List.drop_eq_nil_of_le hj] at h3
  simp only [List.filter_nil, List.map_nil, List.append_nil] at h3
  conv => whnf
  repeat' (refine Br.dec (fun _ => ?_) (fun _ => ?_) <;> first | (exfalso; omega) | conv => whnf)
  all_goals first
   | exact ⟨_, .hd rfl (by simp), by rw [← h3]; rfl⟩
   | trace_state
noncomputable def decO (p : Pg) (n : Str) : List (Int × Int) := match wayO p n with
 | some w => (match w.p.procs[w.j]? with
   | some f => decL w f (cntL f.body + 2)
   | none => [])
 | none => []
theorem decO_some {p : Pg} {n : Str} {k : Nat} {f : Pr} (hw : wayO p n = some (newWay p k f)) (hk : p.procs[k]? = some f) : decO p n = decL (newWay p k f) f (cntL f.body + 2) := by
 have h : (newWay p k f).p.procs[(newWay p k f).j]? = some f := hk
 unfold decO
 rw [hw]
 simp only
 rw [h]
theorem decO_none {p : Pg} {n : Str} (hw : wayO p n = none) : decO p n = [] := by
 unfold decO
 rw [hw]
theorem decO_len (p : Pg) (n : Str) : (decO p n).length ≤ 1000000 := by
 cases hw : wayO p n with
 | none => rw [decO_none hw]; simp
 | some w =>
   obtain ⟨k, f, hkj, rfl, hc, _⟩ := wayO_some hw
   obtain ⟨_, _, hcn⟩ := chk_cnt hc
   obtain ⟨_, _, _, hlen, hsp⟩ := sheet_spec p
   obtain ⟨_, _, hle, _⟩ := hsp k f hkj
   rw [decO_some hw hkj]
   have h1 := decL_len (f := f) (newWay p k f) (cntL f.body + 2)
   have h2 : (cntL f.body + 2) * (cntL f.body + 2) ≤ 202 * 202 := Nat.mul_le_mul (by omega) (by omega)
   omega
theorem cdep_Of (p : Pg) (hf : Fit p) (n : Str) : SpecP Tryz.prog 42 [.agg p.cells, .str n] (fun r => r = .sl (avP (decO p n))) := by
 refine SpecP.body I_cdep_Of tabOK Tryz.func42 rfl Tryz.call42 (by show 2 ≤ _; decide) ?_
 conv => whnf
 have hW := way_Of p hf n
 cases hw : wayO p n with
 | none =>
   rw [decO_none hw]
   rw [hw] at hW
   repeat' (refine CallK.pure hW (.cons (Sub.refl _) (.cons (Sub.refl _) .nil)) ?_; rintro _ rfl; conv => whnf)
   exact ⟨_, .p Sub.nils, rfl⟩
 | some w =>
   obtain ⟨k, f, hkj, rfl, hc, _⟩ := wayO_some hw
   have hw0 := hw
   rw [hw] at hW
   repeat' ((first | (refine CallK.pure hW (.cons (Sub.refl _) (.cons (Sub.refl _) .nil)) ?_; rintro _ rfl) | (refine CallK.pure (way_Way_Decides (newWay p k f) f (cntL f.body+2) (wayT hc hkj) (prsA_in hc hkj) (Nat.le_trans (aug_len hc hkj) (by decide))) (.cons (Sub.refl _) .nil) ?_; rintro _ ⟨fm, M, h1, h2, h3, rfl⟩)); conv => whnf)
   exact RetK.p (by rw [decO_some hw0 hkj, ← decL_eq h1 h3])
noncomputable def byR (p : Pg) (n : Str) (id : Int) : List Int := ((decO p n).filter fun d => decide (d.2 = id)).map Prod.fst
theorem cdep_By (p : Pg) (hf : Fit p) (n : Str) (id : Int) : SpecP Tryz.prog 43 [.agg p.cells, .str n, .int .i64 id] (fun r => r = eInts (byR p n id)) := by
 refine SpecP.body I_cdep_By tabOK Tryz.func43 rfl Tryz.call43 (by show 3 ≤ _; decide) ?_
 conv => whnf
 have hO := cdep_Of p hf n
 have hlen := decO_len p n
 have hB : byR p n id = ((decO p n).filter fun d => decide (d.2 = id)).map Prod.fst := rfl
 generalize decO p n = L at hO hlen hB
 generalize byR p n id = B at hB
 have hal : (avP L).length = L.length := by unfold avP; rw [List.length_map]
 repeat' ((first | (intro (_ : _ ≤ 9223372036854775807)) | (refine CallK.pure hO (.cons (Sub.refl _) (.cons (Sub.refl _) .nil)) ?_; rintro _ rfl)); conv => whnf)
 refine LoopK.inv tabOK (fun x : Nat × List Int => ⟨[(2, .p (.int .i64 id)), (7, .hd 0 0 x.2.length), (12, .p (.sl (avP L))), (13, .p (.int .i64 (avP L).length)), (14, .p (.int .i64 x.1))], [(0, .own 3 1 (x.2.map (.int .i64)))]⟩) (fun x => x.1 ≤ L.length ∧ x.2.length ≤ x.1 ∧ x.2 ++ ((L.drop x.1).filter fun d => decide (d.2 = id)).map Prod.fst = B) (fun x => L.length - x.1) (0, [])
  (Le.mk [(0, .own 3 1 [])] (by simp [Chunk.new0]; rfl) (by simp) (by simp) (.cons (.refl _) (.cons (.nil List.mem_cons_self) (.cons (.refl _) (.cons (.refl _) (.cons (.refl _) .nil))))) (.new List.mem_cons_self .nil)) ⟨Nat.zero_le _, Nat.le_refl _, hB.symm⟩ ?_
 rintro ⟨j, o⟩ ⟨h2, h4, h3⟩
 simp only at h2 h3 h4 ⊢
 rcases Nat.lt_or_ge j L.length with hj | hj
 ·rw [List.drop_eq_getElem_cons hj] at h3
  have hme : (avP L)[j]? = some (.agg [.int .i64 L[j].1, .int .i64 L[j].2]) := by simp [avP, hj]
  generalize L[j] = t at hme h3
  conv => whnf
  repeat' (first | ((first | (refine And.intro rfl ?_) | (refine And.intro ⟨by decide, by decide⟩ ?_) | (refine BsK.pure (fun x hx => by rcases List.mem_singleton.1 hx with rfl; rfl) rfl ?_) | (refine Wr.i64 (by omega) (by omega) ?_) | (refine IdxK.at (k := j) rfl hme rfl ?_) | (refine IdxL.mk 1 rfl (by decide) ?_) | (refine IdxL.mk 0 rfl (by decide) ?_) | (refine AppK.int1 (by simp) (by simp; omega) ?_)); conv => whnf) | (refine Br.dec (fun _ => ?_) (fun _ => ?_) <;> first | (exfalso; omega) | conv => whnf))
  all_goals first
   | (have e : decide (t.2 = id) = true := decide_eq_true (by assumption)
      rw [List.filter_cons_of_pos (by exact e), List.map_cons] at h3
      exact ⟨(j + 1, o ++ [t.1]), ⟨hj, by simp; omega, by rw [List.append_assoc]; exact h3⟩, by simp only; omega, Le.of_eq (by simp only [List.length_append, List.map_append, List.length_map]; rfl)⟩)
   | (have e : decide (t.2 = id) = false := decide_eq_false (by assumption)
      rw [List.filter_cons_of_neg (fun hh => by rw [e] at hh; cases hh)] at h3
      exact ⟨(j + 1, o), ⟨hj, by simp only; omega, h3⟩, by simp only; omega, Le.of_eq rfl⟩)
   | trace_state
 ·rw [List.drop_eq_nil_of_le hj] at h3
  simp only [List.filter_nil, List.map_nil, List.append_nil] at h3
  conv => whnf
  repeat' (refine Br.dec (fun _ => ?_) (fun _ => ?_) <;> first | (exfalso; omega) | conv => whnf)
  all_goals first
   | exact ⟨_, .hd rfl (by simp), by rw [← h3]; rfl⟩
   | trace_state
def upAt (sh : Sheet) (id : Int) : Int := ((sh.l[(id - 1).toNat]?).map Item.up).getD 0
def upF (sh : Sheet) : Nat → Int → List Int
 | 0, _ => []
 | k + 1, id => if id = 0 then [] else id :: upF sh k (upAt sh id)
mutual
theorem itS_up (proc nx lp : Int) : ∀ (t : S) (up : Int) (n i : Nat) (it : Item), (itS proc up nx lp n t)[i]? = some it → it.up = up ∨ ((n : Int) + 1 ≤ it.up ∧ it.up ≤ n + i)
 | .mk id kind labels name pr x has args thn els, up, n, i, it, h => by
   rw [itS] at h
   cases i with
   | zero => cases h; exact .inl rfl
   | succ i =>
     rw [List.getElem?_cons_succ] at h
     rcases Nat.lt_or_ge i (cntL thn) with hi | hi
     ·rw [List.getElem?_append_left (by rw [itL_len]; exact hi)] at h
      have := itL_up proc _ _ thn _ _ i it h
      omega
     ·rw [List.getElem?_append_right (by rw [itL_len]; exact hi), itL_len] at h
      have := itL_up proc _ _ els _ _ _ it h
      omega
theorem itL_up (proc nx lp : Int) : ∀ (l : List S) (up : Int) (n i : Nat) (it : Item), (itL proc up nx lp n l)[i]? = some it → it.up = up ∨ ((n : Int) + 1 ≤ it.up ∧ it.up ≤ n + i)
 | [], up, n, i, it, h => by rw [itL] at h; simp at h
 | t :: r, up, n, i, it, h => by
   rw [itL] at h
   rcases Nat.lt_or_ge i (cntS t) with hi | hi
   ·rw [List.getElem?_append_left (by rw [itS_len]; exact hi)] at h
    exact itS_up proc _ _ t up n i it h
   ·rw [List.getElem?_append_right (by rw [itS_len]; exact hi), itS_len] at h
    have := itL_up proc _ _ r up _ _ it h
    omega
end
theorem pos_proc : ∀ (l : List Pr) (k : Nat), k < cntP l → ∃ j f, l[j]? = some f ∧ offN l j ≤ k ∧ k < offN l j + cntL f.body
 | [], k, h => by rw [cntP] at h; omega
 | g :: r, k, h => by
   rw [cntP] at h
   rcases Nat.lt_or_ge k (cntL g.body) with hk | hk
   ·exact ⟨0, g, rfl, by rw [offN]; omega, by rw [offN]; omega⟩
   ·obtain ⟨j, f, h1, h2, h3⟩ := pos_proc r (k - cntL g.body) (by omega)
    exact ⟨j + 1, f, by simpa using h1, by rw [offN]; omega, by rw [offN]; omega⟩
theorem up_rng (p : Pg) {id : Int} (h1 : 1 ≤ id) : 0 ≤ upAt (sheetOf p) id ∧ upAt (sheetOf p) id < id := by
 unfold upAt
 obtain ⟨_, _, _, hlen, hsp⟩ := sheet_spec p
 cases hq : (sheetOf p).l[(id - 1).toNat]? with
 | none => exact ⟨Int.le_refl _, by show (0 : Int) < id; omega⟩
 | some it =>
   show 0 ≤ it.up ∧ it.up < id
   have hlt := (List.getElem?_eq_some_iff.1 hq).1
   obtain ⟨j, f, hj, h2, h3⟩ := pos_proc p.procs (id - 1).toNat (by omega)
   obtain ⟨_, _, hle, hdr⟩ := hsp j f hj
   have h4 : (itL j 0 (-1) 0 (offN p.procs j) f.body)[(id - 1).toNat - offN p.procs j]? = some it := by
    rw [← hdr, List.getElem?_drop, List.getElem?_take_of_lt (by omega), show offN p.procs j + ((id - 1).toNat - offN p.procs j) = (id - 1).toNat by omega]
    exact hq
   have := itL_up j (-1) 0 f.body 0 (offN p.procs j) _ it h4
   omega
theorem upF_len (p : Pg) : ∀ (k : Nat) (u : Int), 0 ≤ u → ((upF (sheetOf p) k u).length : Int) ≤ u
 | 0, u, h => by rw [upF]; simpa using h
 | k + 1, u, h => by
   rw [upF]
   split
   ·simpa using h
   ·have h1 := up_rng p (id := u) (by omega)
    have := upF_len p k _ h1.1
    rw [List.length_cons]
    omega
def inR (p : Pg) (id : Int) : List Int := bif chkB p && (decide (1 ≤ id) && decide (id ≤ (sheetOf p).l.length)) then (upF (sheetOf p) 300 (upAt (sheetOf p) id)).reverse else []
theorem cdep_In (p : Pg) (hf : Fit p) (id : Int) : SpecP Tryz.prog 44 [.agg p.cells, .int .i64 id] (fun r => r = eInts (inR p id)) := by
 refine SpecP.body I_cdep_In tabOK Tryz.func44 rfl Tryz.call44 (by show 2 ≤ _; decide) ?_
 conv => whnf
 cases hc : chkB p with
 | false =>
   have e : inR p id = [] := by unfold inR; rw [hc]; rfl
   have hA : ¬ (allB p).1 = 0 := by unfold chkB at hc; simpa using hc
   rw [e]
   repeat' (first | (refine CallK.pure (check_May p hf) (by repeat' (first | exact ArgP.nil | refine ArgP.cons ?_ ?_ | exact Sub.refl _ | exact Sub.tt rfl | exact Sub.ff rfl | exact Sub.int (by omega))) ?_; rintro _ rfl; conv => whnf) | (refine Br.dec2 (fun _ => ?_) (fun _ => ?_) <;> first | (exfalso; omega) | conv => whnf))
   all_goals first
    | exact ⟨_, .p Sub.nils, rfl⟩
    | (exfalso; exact hA (by assumption))
 | true =>
   obtain ⟨hg, hpl, hcn⟩ := chk_cnt hc
   have hA : (allB p).1 = 0 := by unfold chkB at hc; simpa using hc
   cases hin : (decide (1 ≤ id) && decide (id ≤ (sheetOf p).l.length)) with
   | false =>
     have e : inR p id = [] := by unfold inR; rw [hc, hin]; rfl
     rw [e]
     repeat' (first | ((first | (refine CallK.pure (check_May p hf) (by repeat' (first | exact ArgP.nil | refine ArgP.cons ?_ ?_ | exact Sub.refl _ | exact Sub.tt rfl | exact Sub.ff rfl | exact Sub.int (by omega))) ?_; rintro _ rfl) | (refine CallK.pure (flat_Sheet_Has _ _) (by repeat' (first | exact ArgP.nil | refine ArgP.cons ?_ ?_ | exact Sub.refl _ | exact Sub.tt rfl | exact Sub.ff rfl)) ?_; rintro _ rfl) | (refine CallK.pure (flat_New p (by omega) (by omega)) (.cons (Sub.refl _) .nil) ?_; rintro _ rfl)); conv => whnf) | (refine Br.dec2 (fun _ => ?_) (fun _ => ?_) <;> first | (exfalso; omega) | conv => whnf) | (refine Br.n (fun _ => ?_) (fun _ => ?_) <;> conv => whnf))
     all_goals first
      | exact ⟨_, .p Sub.nils, rfl⟩
      | (exfalso; omega)
      | (exfalso; simp_all)
   | true =>
     have hid : 1 ≤ id ∧ id ≤ (sheetOf p).l.length := by simpa using hin
     have hlt : (id - 1).toNat < (sheetOf p).l.length := by omega
     have hlen := (sheet_spec p).2.2.2.1
     have e : inR p id = (upF (sheetOf p) 300 (upAt (sheetOf p) id)).reverse := by unfold inR; rw [hc, hin]; rfl
     have hx : ((sheetOf p).l.map fun i => AV.agg i.cells)[(id - 1).toNat]? = some (.agg (sheetOf p).l[(id - 1).toNat].cells) := by rw [List.getElem?_map, List.getElem?_eq_getElem hlt]; rfl
     have hu : (sheetOf p).l[(id - 1).toNat].up = upAt (sheetOf p) id := by unfold upAt; rw [List.getElem?_eq_getElem hlt]; rfl
     have hur := up_rng p hid.1
     rw [e]
     repeat' (first | ((first | (refine CallK.pure (check_May p hf) (by repeat' (first | exact ArgP.nil | refine ArgP.cons ?_ ?_ | exact Sub.refl _ | exact Sub.tt rfl | exact Sub.ff rfl | exact Sub.int (by omega))) ?_; rintro _ rfl) | (refine CallK.pure (flat_Sheet_Has _ _) (by repeat' (first | exact ArgP.nil | refine ArgP.cons ?_ ?_ | exact Sub.refl _ | exact Sub.tt rfl | exact Sub.ff rfl)) ?_; rintro _ rfl) | (refine Wr.i64 (by omega) (by omega) ?_) | (refine CallK.pure (flat_New p (by omega) (by omega)) (.cons (Sub.refl _) .nil) ?_; rintro _ rfl) | (refine IdxK.at (by omega) hx rfl ?_)); conv => whnf) | (refine Br.dec2 (fun _ => ?_) (fun _ => ?_) <;> first | (exfalso; omega) | conv => whnf) | (refine Br.n (fun _ => ?_) (fun _ => ?_) <;> conv => whnf))
     rotate_left 1
     ·exfalso
      rename_i h9
      rw [hin] at h9
      cases h9
     refine LoopK.inv tabOK (fun x : Int × List Int × Nat => ⟨[(5, .p (.ip (sheetOf p).cells)), (6, .hd 0 0 x.2.1.length), (7, .p (.int .i64 x.1))], [(0, .own 3 1 (x.2.1.map (.int .i64)))]⟩)
      (fun x => (0 ≤ x.1 ∧ x.1 ≤ (sheetOf p).l.length) ∧ x.1 < x.2.2 ∧ x.2.1.length + x.2.2 ≤ 300 ∧ x.2.1 ++ upF (sheetOf p) x.2.2 x.1 = upF (sheetOf p) 300 (upAt (sheetOf p) id)) (fun x => x.2.2) (upAt (sheetOf p) id, [], 300)
      (Le.mk [(0, .own 3 1 [])] (by simp [Chunk.new0]; rfl) (by simp) (by simp) (.cons (.refl _) (.cons (.nil List.mem_cons_self) (.cons (.of_eq (by rw [hu]; rfl)) .nil))) (.new List.mem_cons_self .nil))
      ⟨⟨by simp only; omega, by simp only; omega⟩, by simp only; omega, by simp, rfl⟩ ?_
     rintro ⟨u, o, k⟩ ⟨⟨h2, h3⟩, h4, h5, h6⟩
     simp only at h2 h3 h4 h5 h6 ⊢
     by_cases h0 : u = 0
     ·subst h0
      have hR := slices_Reverse_int_int_ o (by omega)
      have h7 : o = upF (sheetOf p) 300 (upAt (sheetOf p) id) := by
       rw [← h6]
       cases k with
       | zero => rw [upF, List.append_nil]
       | succ k => rw [upF, if_pos rfl, List.append_nil]
      rw [← h7]
      conv => whnf
      repeat' (first | (refine CallK.heap [(1000, 0)] 5 (ArgsH.cons (LSub.refl _) ArgsH.nil) (by refine BlksH.cons (j := 0) rfl rfl ?_ ?_; exact CSub.refl _; exact BlksH.nil) hR rfl rfl ?_; rintro l' H' ⟨rfl, rfl⟩; conv => whnf) | (refine Br.dec2 (fun _ => ?_) (fun _ => ?_) <;> first | (exfalso; omega) | conv => whnf))
      exact ⟨_, .hd rfl (by simp), rfl⟩
     ·have hlt2 : (u - 1).toNat < (sheetOf p).l.length := by omega
      have hx2 : ((sheetOf p).l.map fun i => AV.agg i.cells)[(u - 1).toNat]? = some (.agg (sheetOf p).l[(u - 1).toNat].cells) := by rw [List.getElem?_map, List.getElem?_eq_getElem hlt2]; rfl
      have hu2 : (sheetOf p).l[(u - 1).toNat].up = upAt (sheetOf p) u := by unfold upAt; rw [List.getElem?_eq_getElem hlt2]; rfl
      have hur2 := up_rng p (id := u) (by omega)
      have h7 : upF (sheetOf p) k u = u :: upF (sheetOf p) (k - 1) (upAt (sheetOf p) u) := by
       cases k with
       | zero => exact absurd h4 (by omega)
       | succ k => rw [upF, if_neg h0]; rfl
      rw [h7] at h6
      conv => whnf
      repeat' (first | ((first | (refine And.intro rfl ?_) | (refine And.intro ⟨by decide, by decide⟩ ?_) | (refine BsK.pure (fun x hx => by rcases List.mem_singleton.1 hx with rfl; rfl) rfl ?_) | (refine Wr.i64 (by omega) (by omega) ?_) | (refine AppK.int1 (by simp) (by simp; omega) ?_) | (refine IdxK.at (by omega) hx2 rfl ?_)); conv => whnf) | (refine Br.dec2 (fun _ => ?_) (fun _ => ?_) <;> first | (exfalso; omega) | conv => whnf))
      all_goals first
       | (exfalso; omega)
       | exact ⟨(upAt (sheetOf p) u, o ++ [u], k - 1), ⟨⟨by simp only; omega, by simp only; omega⟩, by simp only; omega, by simp; omega, by rw [List.append_assoc]; exact h6⟩, by simp only; omega, Le.of_eq (by rw [← hu2]; simp only [List.length_append, List.map_append, List.length_map]; rfl)⟩
       | trace_state
open Go.Proofs
theorem follow_ex {n : Nat} {nx : List (List Int)} (hnx : ∀ a, ∀ x ∈ nx.getD a [], 0 ≤ x ∧ x < (n : Int)) : ∃ fm, FollowP n nx fm := by
 let F : Nat → Nat → Bool := fun a b => @decide (¬ Avd nx n b a) (Classical.propDecidable _)
 have hF : ∀ a b, F a b = true ↔ ¬ Avd nx n b a := fun a b => by simp only [F]; exact @decide_eq_true_iff _ (Classical.propDecidable _)
 have hrow : ∀ a, a < n → ((List.range n).map fun a => (List.range n).map fun b => F a b).getD a [] = (List.range n).map fun b => F a b := fun a ha => by
  rw [List.getD_eq_getElem?_getD, List.getElem?_map, List.getElem?_range ha]
  rfl
 have hbit : ∀ a b, a < n → b < n → bitF ((List.range n).map fun a => (List.range n).map fun b => F a b) a b = F a b := fun a b ha hb => by
  unfold bitF
  rw [hrow a ha, List.getD_eq_getElem?_getD, List.getElem?_map, List.getElem?_range hb]
  rfl
 have hfix : ∀ a b, a < n - 1 → b < n → F a b = (rowF n nx ((List.range n).map fun a => (List.range n).map fun b => F a b) a).getD b false := fun a b ha hb => by
  rw [rowF_get hb, Bool.eq_iff_iff, hF, Bool.or_eq_true, decide_eq_true_eq, shared_iff]
  constructor
  ·intro h
   by_cases hab : a = b
   ·exact .inl hab
   ·refine .inr fun t ht => ?_
    have hr := hnx a t ht
    rw [hbit _ _ (by omega) hb, hF]
    exact fun h2 => h (.step hab (by rw [Int.toNat_of_nonneg hr.1]; exact ht) h2)
  ·rintro h h2
   cases h2 with
   | exit hne => omega
   | @step _ t hab ht h3 =>
     have hr := hnx a _ ht
     rcases h with h | h
     ·exact hab h
     ·have h4 := h _ ht
      rw [Int.toNat_natCast, hbit _ _ (by omega) hb, hF] at h4
      exact h4 h3
 refine ⟨(List.range n).map fun a => (List.range n).map fun b => F a b, ⟨by simp, fun r hr => ?_, ?_, fun a b ha hb h => ?_, fun a b ha hb h => ?_⟩, fun a ha => ?_⟩
 ·obtain ⟨a, _, rfl⟩ := List.mem_map.1 hr
  simp
 ·cases n with
  | zero => rfl
  | succ n =>
    rw [hrow _ (by omega)]
    unfold filRow
    refine List.map_congr_left fun b hb => ?_
    rw [List.mem_range] at hb
    rw [Bool.eq_iff_iff, hF, Bool.or_eq_true, decide_eq_true_eq, decide_eq_true_eq]
    constructor
    ·intro h
     refine .inr (Classical.byContradiction fun he => h ?_)
     exact .exit fun e => he e.symm
    ·rintro (h | h) h2
     ·omega
     ·cases h2 with
      | exit hne => exact hne h.symm
      | step hab _ _ => exact hab h
 ·rw [hbit a b (by omega) hb, hfix a b ha hb]
  exact h
 ·rw [hbit a b ha hb] at h
  refine Classical.byContradiction fun h2 => ?_
  rw [(hF a b).2 h2] at h
  cases h
 ·rw [hrow a (by omega)]
  refine List.ext_getElem (by rw [rowF_len]; simp) fun b h1 h2 => ?_
  have hb : b < n := by simpa using h1
  have h3 := hfix a b ha hb
  rw [List.getD_eq_getElem?_getD, List.getElem?_eq_getElem h2] at h3
  simp only [List.getElem_map, List.getElem_range]
  exact h3
theorem nextR_get {n : Nat} {l : List (Int × Int)} (h : ∀ t ∈ l, (0 ≤ t.1 ∧ t.1 < n) ∧ 0 ≤ t.2 ∧ t.2 < n) : ∀ a, ∀ x ∈ (nextR n l).getD a [], 0 ≤ x ∧ x < (n : Int) := fun a x hx => by
 obtain ⟨t, ht, _, rfl⟩ := (nextR_mem fun t ht => (h t ht).1).1 hx
 exact (h t ht).2
theorem dec_iff {p : Pg} {j : Nat} {f : Pr} (h : chkB p = true) (hj : p.procs[j]? = some f) {a b : Int} : (a, b) ∈ decL (newWay p j f) f (cntL f.body + 2) ↔ plP p j f a ∧ plP p j f b ∧ 0 < b ∧ decP p j f a b := by
 obtain ⟨fm, hF⟩ := follow_ex (n := cntL f.body + 2) (nextR_get (prsA_in h hj))
 exact decL_mem h hj hF
theorem byR_iff {p : Pg} {n : Str} {j : Nat} {f : Pr} (h : chkB p = true) (hj : p.procs[j]? = some f) (hw : wayO p n = some (newWay p j f)) {a b : Int} : a ∈ byR p n b ↔ plP p j f a ∧ plP p j f b ∧ 0 < b ∧ decP p j f a b := by
 unfold byR
 rw [decO_some hw hj, ← dec_iff h hj, List.mem_map]
 constructor
 ·rintro ⟨⟨x, y⟩, h1, rfl⟩
  obtain ⟨h2, h3⟩ := List.mem_filter.1 h1
  rw [decide_eq_true_eq] at h3
  have h3 : y = b := h3
  subst h3
  exact h2
 ·exact fun h1 => ⟨(a, b), List.mem_filter.2 ⟨h1, by simp⟩, rfl⟩
def OkL (l : List Int) : Prop := l.Nodup ∧ ∀ x ∈ l, 0 ≤ x ∧ x ≤ 200
theorem OkL.len {l : List Int} (h : OkL l) : l.length ≤ 201 := by
 have := nodup_len (m := (List.range 201).map Int.ofNat) h.1 fun x hx => by
  have := h.2 x hx
  refine List.mem_map.2 ⟨x.toNat, List.mem_range.2 (by omega), ?_⟩
  show (x.toNat : Int) = x
  omega
 simpa using this
theorem OkL.snoc {l : List Int} {a : Int} (h : OkL l) (ha : 0 ≤ a ∧ a ≤ 200) (hn : hasI l a = false) : OkL (l ++ [a]) := by
 have hna : a ∉ l := fun hm => by
  unfold hasI at hn
  have := List.any_eq_false.1 hn a hm
  simp at this
 refine ⟨?_, fun x hx => ?_⟩
 ·show List.Pairwise _ _
  rw [List.pairwise_append]
  refine ⟨h.1, List.pairwise_singleton _ _, fun x hx y hy e => ?_⟩
  rw [List.mem_singleton.1 hy] at e
  exact hna (e ▸ hx)
 ·rcases List.mem_append.1 hx with hx | hx
  ·exact h.2 x hx
  ·rw [List.mem_singleton.1 hx]
   exact ha
namespace Own
theorem cdep_By (p : Pg) (hf : Fit p) (n : Str) (id : Int) : SpecH Tryz.prog 43 [.p (.agg p.cells), .p (.str n), .p (.int .i64 id)] [] (fun r H => r = .hd 0 0 (byR p n id).length ∧ H = [(0, .own 3 1 ((byR p n id).map (.int .i64)))]) := by
 refine SpecH.body I_cdep_By tabOK Tryz.func43 rfl Tryz.call43 (by show 3 ≤ _; decide) ?_
 conv => whnf
 have hO := cdep_Of p hf n
 have hlen := decO_len p n
 have hB : byR p n id = ((decO p n).filter fun d => decide (d.2 = id)).map Prod.fst := rfl
 generalize decO p n = L at hO hlen hB
 generalize byR p n id = B at hB
 have hal : (avP L).length = L.length := by unfold avP; rw [List.length_map]
 repeat' ((first | (intro (_ : _ ≤ 9223372036854775807)) | (refine CallK.pure hO (.cons (Sub.refl _) (.cons (Sub.refl _) .nil)) ?_; rintro _ rfl)); conv => whnf)
 refine LoopK.inv tabOK (fun x : Nat × List Int => ⟨[(2, .p (.int .i64 id)), (7, .hd 0 0 x.2.length), (12, .p (.sl (avP L))), (13, .p (.int .i64 (avP L).length)), (14, .p (.int .i64 x.1))], [(0, .own 3 1 (x.2.map (.int .i64)))]⟩) (fun x => x.1 ≤ L.length ∧ x.2.length ≤ x.1 ∧ x.2 ++ ((L.drop x.1).filter fun d => decide (d.2 = id)).map Prod.fst = B) (fun x => L.length - x.1) (0, [])
  (Le.mk [(0, .own 3 1 [])] (by simp [Chunk.new0]; rfl) (by simp) (by simp) (.cons (.refl _) (.cons (.nil List.mem_cons_self) (.cons (.refl _) (.cons (.refl _) (.cons (.refl _) .nil))))) (.new List.mem_cons_self .nil)) ⟨Nat.zero_le _, Nat.le_refl _, hB.symm⟩ ?_
 rintro ⟨j, o⟩ ⟨h2, h4, h3⟩
 simp only at h2 h3 h4 ⊢
 rcases Nat.lt_or_ge j L.length with hj | hj
 ·rw [List.drop_eq_getElem_cons hj] at h3
  have hme : (avP L)[j]? = some (.agg [.int .i64 L[j].1, .int .i64 L[j].2]) := by simp [avP, hj]
  generalize L[j] = t at hme h3
  conv => whnf
  repeat' (first | ((first | (refine And.intro rfl ?_) | (refine And.intro ⟨by decide, by decide⟩ ?_) | (refine BsK.pure (fun x hx => by rcases List.mem_singleton.1 hx with rfl; rfl) rfl ?_) | (refine Wr.i64 (by omega) (by omega) ?_) | (refine IdxK.at (k := j) rfl hme rfl ?_) | (refine IdxL.mk 1 rfl (by decide) ?_) | (refine IdxL.mk 0 rfl (by decide) ?_) | (refine AppK.int1 (by simp) (by simp; omega) ?_)); conv => whnf) | (refine Br.dec (fun _ => ?_) (fun _ => ?_) <;> first | (exfalso; omega) | conv => whnf))
  all_goals first
   | (have e : decide (t.2 = id) = true := decide_eq_true (by assumption)
      rw [List.filter_cons_of_pos (by exact e), List.map_cons] at h3
      exact ⟨(j + 1, o ++ [t.1]), ⟨hj, by simp; omega, by rw [List.append_assoc]; exact h3⟩, by simp only; omega, Le.of_eq (by simp only [List.length_append, List.map_append, List.length_map]; rfl)⟩)
   | (have e : decide (t.2 = id) = false := decide_eq_false (by assumption)
      rw [List.filter_cons_of_neg (fun hh => by rw [e] at hh; cases hh)] at h3
      exact ⟨(j + 1, o), ⟨hj, by simp only; omega, h3⟩, by simp only; omega, Le.of_eq rfl⟩)
   | trace_state
 ·rw [List.drop_eq_nil_of_le hj] at h3
  simp only [List.filter_nil, List.map_nil, List.append_nil] at h3
  conv => whnf
  repeat' (refine Br.dec (fun _ => ?_) (fun _ => ?_) <;> first | (exfalso; omega) | conv => whnf)
  all_goals first
   | exact ⟨_, LSub.refl _, by rw [← h3], by rw [← h3]⟩
   | trace_state
end Own
open Go.Proofs
def avF (nx : List (List Int)) (n b : Nat) : Nat → Nat → Bool
 | 0, _ => false
 | k + 1, a => (decide (a = n - 1) && decide (b ≠ n - 1)) || (decide (a ≠ b) && (nx.getD a []).any fun t => decide (0 ≤ t) && avF nx n b k t.toNat)
theorem avF_avd {nx : List (List Int)} {n b : Nat} : ∀ (k a : Nat), avF nx n b k a = true → Avd nx n b a
 | 0, _, h => by cases h
 | k + 1, a, h => by
   rw [avF, Bool.or_eq_true, Bool.and_eq_true, Bool.and_eq_true, decide_eq_true_eq, decide_eq_true_eq, decide_eq_true_eq, List.any_eq_true] at h
   rcases h with ⟨rfl, h⟩ | ⟨h1, t, ht, h2⟩
   ·exact .exit h
   ·rw [Bool.and_eq_true, decide_eq_true_eq] at h2
    exact .step h1 (by rw [Int.toNat_of_nonneg h2.1]; exact ht) (avF_avd k _ h2.2)
theorem follow_of {n : Nat} {nx : List (List Int)} {G : List (List Bool)} (hl : G.length = n) (hr : ∀ r ∈ G, r.length = n) (hlast : G.getD (n - 1) [] = filRow n (n - 1))
  (hfix : ((List.range (n - 1)).all fun a => decide (G.getD a [] = rowF n nx G a)) = true) (hmin : ((List.range n).all fun a => (List.range n).all fun b => bitF G a b || avF nx n b n a) = true) : FollowP n nx G := by
 have hf : ∀ a, a < n - 1 → G.getD a [] = rowF n nx G a := fun a ha => of_decide_eq_true (List.all_eq_true.1 hfix a (List.mem_range.2 ha))
 refine ⟨⟨hl, hr, hlast, fun a b ha hb h => ?_, fun a b ha hb h => ?_⟩, hf⟩
 ·unfold bitF
  rw [hf a ha]
  exact h
 ·have h1 := List.all_eq_true.1 (List.all_eq_true.1 hmin a (List.mem_range.2 ha)) b (List.mem_range.2 hb)
  rw [h, Bool.false_or] at h1
  exact avF_avd _ _ h1
theorem prsA1 : prsA (newWay someP 1 f1) f1 = [(0, 1), (0, 5), (1, 2), (2, 3), (2, 4), (3, 4), (3, 5), (4, 5)] := by
 unfold prsA
 rw [aug1]
 kernel_rfl
theorem prsA0 : prsA (newWay someP 0 f0) f0 = [(0, 1), (0, 5), (1, 2), (2, 3), (3, 4), (4, 5)] := by
 unfold prsA
 rw [aug0]
 kernel_rfl
def fol1 : List (List Bool) := [[true, false, false, false, false, true], [false, true, true, false, false, true], [false, false, true, false, false, true], [false, false, false, true, false, true], [false, false, false, false, true, true], [false, false, false, false, false, true]]
def fol0 : List (List Bool) := [[true, false, false, false, false, true], [false, true, true, true, true, true], [false, false, true, true, true, true], [false, false, false, true, true, true], [false, false, false, false, true, true], [false, false, false, false, false, true]]
theorem foll1 : folM 6 (nextR 6 [(0, 1), (0, 5), (1, 2), (2, 3), (2, 4), (3, 4), (3, 5), (4, 5)]) = fol1 := (follow_of (by kernel_rfl) (by decide) (by kernel_rfl) (by kernel_rfl) (by kernel_rfl)).eq.symm
theorem foll0 : folM 6 (nextR 6 [(0, 1), (0, 5), (1, 2), (2, 3), (3, 4), (4, 5)]) = fol0 := (follow_of (by kernel_rfl) (by decide) (by kernel_rfl) (by kernel_rfl) (by kernel_rfl)).eq.symm
theorem decL1 : decO someP [112] = [(0, 5), (0, 6), (6, 7), (6, 8), (7, 8)] := by
 rw [decO_some (f := f1) some_way rfl]
 show decL (newWay someP 1 f1) f1 6 = _
 unfold decL
 rw [prsA1, foll1]
 kernel_rfl
theorem decL0 : decO someP [109, 97, 105, 110] = [(0, 1), (0, 2), (0, 3), (0, 4)] := by
 rw [decO_some (f := f0) some_way0 rfl]
 show decL (newWay someP 0 f0) f0 6 = _
 unfold decL
 rw [prsA0, foll0]
 kernel_rfl
theorem by8 : byR someP [112] 8 = [6, 7] := by
 unfold byR
 rw [decL1]
 kernel_rfl
theorem in7 : inR someP 7 = [6] := by
 unfold inR
 rw [some_chk]
 kernel_rfl
theorem whittlerlaw18_deciding : SpecP Tryz.prog 39 [] (fun r => r = .tt) := by
 have hB := cdep_By someP some_fit [112] 8
 rw [by8] at hB
 have hI := cdep_In someP some_fit 7
 rw [in7] at hI
 have hO := cdep_Of someP some_fit [109, 97, 105, 110]
 rw [decL0] at hO
 refine SpecP.body I_whittlerlaw18_deciding tabOK Tryz.func39 rfl Tryz.call39 (by show 0 ≤ _; decide) ?_
 conv => whnf
 repeat' (first | ((first | (intro (_ : _ ≤ 9223372036854775807)) | (refine And.intro rfl ?_) | (refine CallK.pure whittlerref3_Some .nil ?_; rintro _ rfl) | (refine CallK.pure hB (.cons (Sub.refl _) (.cons (Sub.refl _) (.cons (Sub.refl _) .nil))) ?_; rintro _ rfl) | (refine CallK.pure hI (.cons (Sub.refl _) (.cons (Sub.refl _) .nil)) ?_; rintro _ rfl) | (refine CallK.pure hO (.cons (Sub.refl _) (.cons (Sub.refl _) .nil)) ?_; rintro _ rfl) | (refine IdxK.at (k := 0) (e := .int .i64 6) rfl rfl rfl ?_) | (refine IdxK.at (k := 1) (e := .int .i64 7) rfl rfl rfl ?_)); conv => whnf) | (refine Br.dec (fun _ => ?_) (fun _ => ?_) <;> first | (exfalso; omega) | conv => whnf))
 all_goals first
  | exact RetK.tt rfl
  | exact ⟨_, .p (Sub.tt' rfl), rfl⟩
  | exact ⟨_, .p (Sub.tt rfl), rfl⟩
  | (rename_i h; exact absurd rfl h)
  | skip
open Go.Proofs
inductive Pth (R : Int → Int → Prop) (Q : Int → Prop) : Int → Int → Prop
 | refl (a : Int) : Pth R Q a a
 | head {a t b : Int} (hq : Q a) (hr : R a t) (h : Pth R Q t b) : Pth R Q a b
theorem Pth.one {R : Int → Int → Prop} {Q : Int → Prop} {a b : Int} (hq : Q a) (hr : R a b) : Pth R Q a b := .head hq hr (.refl b)
theorem Pth.trans {R : Int → Int → Prop} {Q : Int → Prop} {a b c : Int} (h : Pth R Q a b) (h' : Pth R Q b c) : Pth R Q a c := by
 induction h with
 | refl => exact h'
 | head hq hr _ ih => exact .head hq hr (ih h')
theorem Pth.mono {R : Int → Int → Prop} {Q Q' : Int → Prop} (hQ : ∀ v, Q v → Q' v) {a b : Int} (h : Pth R Q a b) : Pth R Q' a b := by
 induction h with
 | refl => exact .refl _
 | head hq hr _ ih => exact .head (hQ _ hq) hr ih
inductive AvdD (R : Int → Int → Prop) (D : Int → Prop) : Int → Prop
 | exit (h : ¬ D (-1)) : AvdD R D (-1)
 | step {a t : Int} (ha : ¬ D a) (hs : R a t) (h : AvdD R D t) : AvdD R D a
theorem AvdD.mono {R : Int → Int → Prop} {D D' : Int → Prop} (hD : ∀ v, D' v → D v) {a : Int} (h : AvdD R D a) : AvdD R D' a := by
 induction h with
 | exit h => exact .exit fun hd => h (hD _ hd)
 | step ha hs _ ih => exact .step (fun hd => ha (hD _ hd)) hs ih
theorem AvdD.one {R : Int → Int → Prop} {D : Int → Prop} {a b : Int} (hb : D b) (h : AvdD R D a) : AvdP R b a := by
 induction h with
 | exit h => exact .exit fun e => h (e ▸ hb)
 | step ha hs _ ih => exact .step (fun e => ha (e ▸ hb)) hs ih
theorem Pth.off {R : Int → Int → Prop} {Q D : Int → Prop} {a c : Int} (h : Pth R Q a c) (hQ : ∀ v, Q v → ¬ D v) (hc : AvdD R D c) : AvdD R D a := by
 induction h with
 | refl => exact hc
 | head hq hr _ ih => exact .step (hQ _ hq) hr (ih hc)
theorem avd_no_self {R : Int → Int → Prop} {b : Int} : ¬ AvdP R b b := fun h => by
 cases h with
 | exit h => exact h rfl
 | step h _ _ => exact h rfl
def stepI (sh : Sheet) (f : Pr) (R : Int → Int → Prop) (l : List Item) : Prop := ∀ it ∈ l, (∀ y ∈ goesI sh f it, R it.s.id y) ∧ (7 ≤ it.s.kind → R it.s.id it.next)
theorem stepI.sub {sh : Sheet} {f : Pr} {R : Int → Int → Prop} {l m : List Item} (h : stepI sh f R l) (hs : ∀ x ∈ m, x ∈ l) : stepI sh f R m := fun it hi => h it (hs it hi)
def rng (a b : Int) (v : Int) : Prop := a ≤ v ∧ v ≤ b
theorem cntS_pa : ∀ t : S, cntS t = 1 + cntL t.thn + cntL t.els
 | .mk id kind labels name pr x has args thn els => by rw [cntS]; rfl
theorem itL_ids {proc up nx lp : Int} {n : Nat} {nest m : Int} {l : List S} (h : rowL nest n l = some m) {it : Item} (hi : it ∈ itL proc up nx lp n l) : (n : Int) + 1 ≤ it.s.id ∧ it.s.id ≤ (n : Int) + cntL l := by
 have h1 : it.s ∈ flL l := by
  rw [← itL_s proc up nx lp n l]
  exact List.mem_map.2 ⟨it, hi, rfl⟩
 have h2 : it.s.id ∈ idsN n (cntL l) := by
  rw [← rowL_ids nest l h]
  exact List.mem_map.2 ⟨it.s, h1, rfl⟩
 have := idsN_mem h2
 omega
theorem head_row {nest m nx : Int} {n : Nat} {u : S} {r : List S} (h : rowL nest n (u :: r) = some m) : headI (u :: r) nx = (n : Int) + 1 := by
 obtain ⟨_, m1, h1, _⟩ := rowL_parts h
 exact (rowS_parts h1).2.1
theorem next_head {nest m nx : Int} {n c : Nat} {r : List S} (h : rowL nest ((n + c : Nat) : Int) r = some m) : (if r.isEmpty then nx else (n : Int) + 1 + c) = headI r nx := by
 cases r with
 | nil => rfl
 | cons u r =>
   rw [head_row h, if_neg (by simp)]
   omega
structure GoF (R : Int → Int → Prop) (t : S) (nx : Int) : Prop where
 k5 : t.kind = 5 → R t.id (headI t.thn nx) ∧ R t.id (headI t.els nx)
 k6 : t.kind = 6 → R t.id (headI t.thn t.id) ∧ R t.id nx
 oth : t.kind ≠ 5 → t.kind ≠ 6 → R t.id nx
theorem goF {sh : Sheet} {f : Pr} {R : Int → Int → Prop} {t : S} {proc up nx lp : Int} (hF : OneF t) (h : stepI sh f R [⟨t, proc, up, nx, lp⟩]) : GoF R t nx := by
 obtain ⟨h1, h2⟩ := h _ List.mem_cons_self
 unfold goesI at h1
 have hhi := hF.hi
 refine ⟨fun hk => ?_, fun hk => ?_, fun k5 k6 => ?_⟩
 ·rw [if_pos (by exact hk)] at h1
  exact ⟨h1 _ List.mem_cons_self, h1 _ (List.mem_cons_of_mem _ List.mem_cons_self)⟩
 ·rw [if_neg (by show ¬ t.kind = 5; omega), if_pos (by exact hk)] at h1
  exact ⟨h1 _ List.mem_cons_self, h1 _ (List.mem_cons_of_mem _ List.mem_cons_self)⟩
 ·by_cases h7 : 7 ≤ t.kind
  ·exact h2 h7
  ·rw [if_neg (by exact k5), if_neg (by exact k6), if_neg (by show ¬ t.kind = 7; omega), if_neg (by show ¬ t.kind = 8; omega), if_neg (by show ¬ t.kind = 9; omega), if_neg (by show ¬ t.kind = 10; omega)] at h1
   exact h1 _ List.mem_cons_self
structure PartsF (sh : Sheet) (f : Pr) (R : Int → Int → Prop) (t : S) (n : Nat) (proc nx lp : Int) : Prop where
 one : OneF t
 id : t.id = (n : Int) + 1
 go : GoF R t nx
 thn : ∃ nest m, rowL nest ((n + 1 : Nat) : Int) t.thn = some m
 els : ∃ nest m, rowL nest ((n + 1 + cntL t.thn : Nat) : Int) t.els = some m
 st : stepI sh f R (itL proc (n + 1) (if t.kind = 6 then n + 1 else nx) (if t.kind = 6 then n + 1 else lp) (n + 1) t.thn)
 se : stepI sh f R (itL proc (n + 1) (if t.kind = 6 then n + 1 else nx) (if t.kind = 6 then n + 1 else lp) (n + 1 + cntL t.thn) t.els)
theorem partsF {sh : Sheet} {f : Pr} {R : Int → Int → Prop} {t : S} {nest m : Int} {n : Nat} {proc up nx lp : Int} (h : rowS nest n t = some m) (hs : stepI sh f R (itS proc up nx lp n t)) : PartsF sh f R t n proc nx lp := by
 obtain ⟨h1, hid, m1, h3, h4⟩ := rowS_parts h
 have hF := one_facts h1
 have hm1 := rowL_cnt _ _ t.thn h3
 rw [itS_eq] at hs
 refine ⟨hF, hid, goF hF (hs.sub fun x hx => by rw [List.mem_singleton.1 hx]; exact List.mem_cons_self), ⟨nest + 1, m1, by rw [← h3]; rfl⟩, ⟨nest + 1, m, ?_⟩, hs.sub fun x hx => List.mem_cons_of_mem _ (List.mem_append.2 (.inl hx)), hs.sub fun x hx => List.mem_cons_of_mem _ (List.mem_append.2 (.inr hx))⟩
 rw [← h4, hm1]
 congr 1
mutual
theorem passS {sh : Sheet} {f : Pr} {R : Int → Int → Prop} (proc : Int) : ∀ (t : S) {nest m : Int} (up nx lp : Int) (n : Nat), rowS nest n t = some m → stepI sh f R (itS proc up nx lp n t) → Pth R (rng (n + 1) (n + cntS t)) t.id nx
 | .mk id kind labels name pr x has args thn els, nest, m, up, nx, lp, n, h, hs => by
   have P := partsF h hs
   have hc := cntS_pa (.mk id kind labels name pr x has args thn els)
   have hid := P.id
   have h0 : rng (n + 1) (n + cntS (.mk id kind labels name pr x has args thn els)) id := by
    constructor
    ·show _ ≤ (S.mk id kind labels name pr x has args thn els).id
     omega
    ·show (S.mk id kind labels name pr x has args thn els).id ≤ _
     omega
   by_cases k5 : kind = 5
   ·obtain ⟨nest1, m1, h3⟩ := P.thn
    have q := passL proc thn _ _ _ (n + 1) h3 P.st
    have hne : ¬ kind = 6 := by omega
    simp only [show (S.mk id kind labels name pr x has args thn els).kind = kind from rfl, if_neg hne] at q
    refine .head h0 (P.go.k5 k5).1 (q.mono fun v hv => ?_)
    unfold rng at hv ⊢
    have e : (S.mk id kind labels name pr x has args thn els).thn = thn := rfl
    rw [e] at hc
    omega
   ·by_cases k6 : kind = 6
    ·exact .one h0 (P.go.k6 k6).2
    ·exact .one h0 (P.go.oth k5 k6)
theorem passL {sh : Sheet} {f : Pr} {R : Int → Int → Prop} (proc : Int) : ∀ (l : List S) {nest m : Int} (up nx lp : Int) (n : Nat), rowL nest n l = some m → stepI sh f R (itL proc up nx lp n l) → Pth R (rng (n + 1) (n + cntL l)) (headI l nx) nx
 | [], nest, m, up, nx, lp, n, h, hs => .refl _
 | t :: r, nest, m, up, nx, lp, n, h, hs => by
   obtain ⟨_, m1, h1, h2⟩ := rowL_parts h
   have hm1 := rowS_cnt _ _ t h1
   have h2' : rowL nest ((n + cntS t : Nat) : Int) r = some m := by rw [← h2, hm1]; rfl
   rw [itL] at hs
   have q1 := passS proc t up _ lp n h1 (hs.sub fun x hx => List.mem_append.2 (.inl hx))
   have q2 := passL proc r up nx lp (n + cntS t) h2' (hs.sub fun x hx => List.mem_append.2 (.inr hx))
   rw [next_head h2'] at q1
   have hc : cntL (t :: r) = cntS t + cntL r := by rw [cntL]
   refine Pth.trans (q1.mono fun v hv => ?_) (q2.mono fun v hv => ?_)
   ·unfold rng at hv ⊢
    omega
   ·unfold rng at hv ⊢
    omega
end
def befP (a b : Int) (v : Int) : Prop := a ≤ v ∧ v < b
mutual
theorem enterS {sh : Sheet} {f : Pr} {R : Int → Int → Prop} (proc : Int) : ∀ (t : S) {nest m : Int} (up nx lp : Int) (n : Nat), rowS nest n t = some m → stepI sh f R (itS proc up nx lp n t) → ∀ it ∈ itS proc up nx lp n t, Pth R (befP t.id it.s.id) t.id it.s.id
 | .mk id kind labels name pr x has args thn els, nest, m, up, nx, lp, n, h, hs, it, hi => by
   have P := partsF h hs
   have hid : id = (n : Int) + 1 := P.id
   obtain ⟨nest1, m1, h3⟩ := P.thn
   obtain ⟨nest2, m2, h4⟩ := P.els
   rw [itS] at hi
   rcases List.mem_cons.1 hi with rfl | hi
   ·exact .refl _
   rcases List.mem_append.1 hi with hi | hi
   ·have q := enterL proc thn _ _ _ (n + 1) h3 P.st it hi
    have hr := itL_ids h3 hi
    have hmem : thn ≠ [] := fun e => by rw [e, itL] at hi; cases hi
    refine .head ⟨Int.le_refl _, by show id < _; omega⟩ ?_ (q.mono fun v hv => ⟨by have := hv.1; show id ≤ v; omega, hv.2⟩)
    rcases P.one.thn with h0 | k5 | k6
    ·exact absurd (List.eq_nil_of_length_eq_zero h0) hmem
    ·have k5 : kind = 5 := k5
     have hne : ¬ kind = 6 := by omega
     have := (P.go.k5 k5).1
     simp only [show (S.mk id kind labels name pr x has args thn els).kind = kind from rfl, if_neg hne]
     exact this
    ·have k6 : kind = 6 := k6
     have := (P.go.k6 k6).1
     simp only [show (S.mk id kind labels name pr x has args thn els).kind = kind from rfl, if_pos k6]
     rw [← hid]
     exact this
   ·have q := enterL proc els _ _ _ (n + 1 + cntL thn) h4 P.se it hi
    have hr := itL_ids h4 hi
    have hmem : els ≠ [] := fun e => by rw [e, itL] at hi; cases hi
    refine .head ⟨Int.le_refl _, by show id < _; omega⟩ ?_ (q.mono fun v hv => ⟨by have := hv.1; show id ≤ v; omega, hv.2⟩)
    rcases P.one.els with h0 | k5
    ·exact absurd (List.eq_nil_of_length_eq_zero h0) hmem
    ·have k5 : kind = 5 := k5
     have hne : ¬ kind = 6 := by omega
     have := (P.go.k5 k5).2
     simp only [show (S.mk id kind labels name pr x has args thn els).kind = kind from rfl, if_neg hne]
     exact this
theorem enterL {sh : Sheet} {f : Pr} {R : Int → Int → Prop} (proc : Int) : ∀ (l : List S) {nest m : Int} (up nx lp : Int) (n : Nat), rowL nest n l = some m → stepI sh f R (itL proc up nx lp n l) → ∀ it ∈ itL proc up nx lp n l, Pth R (befP (n + 1) it.s.id) (headI l nx) it.s.id
 | [], nest, m, up, nx, lp, n, h, hs, it, hi => by rw [itL] at hi; cases hi
 | t :: r, nest, m, up, nx, lp, n, h, hs, it, hi => by
   obtain ⟨_, m1, h1, h2⟩ := rowL_parts h
   have hm1 := rowS_cnt _ _ t h1
   have h2' : rowL nest ((n + cntS t : Nat) : Int) r = some m := by rw [← h2, hm1]; rfl
   have hid := (rowS_parts h1).2.1
   rw [itL] at hs hi
   have hst := hs.sub (m := itS proc up (if r.isEmpty then nx else n + 1 + cntS t) lp n t) fun x hx => List.mem_append.2 (.inl hx)
   rcases List.mem_append.1 hi with hi | hi
   ·have q := enterS proc t up _ lp n h1 hst it hi
    exact q.mono fun v hv => ⟨by have := hv.1; omega, hv.2⟩
   ·have q1 := passS proc t up _ lp n h1 hst
    have q2 := enterL proc r up nx lp (n + cntS t) h2' (hs.sub fun x hx => List.mem_append.2 (.inr hx)) it hi
    have hr := itL_ids h2' hi
    rw [next_head h2'] at q1
    exact Pth.trans (q1.mono fun v hv => ⟨hv.1, by have := hv.2; omega⟩) (q2.mono fun v hv => ⟨by have := hv.1; omega, hv.2⟩)
end
structure WithinF (R : Int → Int → Prop) (u : S) : Prop where
 to : ∀ y, u.id < y → y < u.id + cntS u → Pth R (befP u.id y) u.id y
 off : ∀ y, u.id < y → y < u.id + cntS u → AvdP R y u.id
theorem ids_it {proc up nx lp : Int} {n : Nat} {nest m : Int} {l : List S} (h : rowL nest n l = some m) {y : Int} (h1 : (n : Int) + 1 ≤ y) (h2 : y ≤ (n : Int) + cntL l) : ∃ it ∈ itL proc up nx lp n l, it.s.id = y := by
 have h3 : y ∈ idsN n (cntL l) := idsN_has h1 (by omega)
 rw [← rowL_ids nest l h, ← itL_s proc up nx lp n l, List.map_map] at h3
 obtain ⟨it, hi, he⟩ := List.mem_map.1 h3
 exact ⟨it, hi, he⟩
mutual
theorem allS {sh : Sheet} {f : Pr} {R : Int → Int → Prop} (proc : Int) : ∀ (t : S) {nest m : Int} (up nx lp : Int) (n : Nat), rowS nest n t = some m → stepI sh f R (itS proc up nx lp n t) → AvdD R (rng (n + 1) (n + cntS t)) nx → ∀ it ∈ itS proc up nx lp n t, WithinF R it.s
 | .mk id kind labels name pr x has args thn els, nest, m, up, nx, lp, n, h, hs, hx => by
   have P := partsF h hs
   have hid : id = (n : Int) + 1 := P.id
   have hc : cntS (.mk id kind labels name pr x has args thn els) = 1 + cntL thn + cntL els := cntS_pa _
   obtain ⟨nest1, m1, h3⟩ := P.thn
   obtain ⟨nest2, m2, h4⟩ := P.els
   have hsplit : ∀ y, id < y → y < id + cntS (.mk id kind labels name pr x has args thn els) → ((n + 1 : Nat) : Int) + 1 ≤ y ∧ y ≤ ((n + 1 : Nat) : Int) + cntL thn ∨ ((n + 1 + cntL thn : Nat) : Int) + 1 ≤ y ∧ y ≤ ((n + 1 + cntL thn : Nat) : Int) + cntL els := fun y h1 h2 => by omega
   have self : WithinF R (.mk id kind labels name pr x has args thn els) := by
    refine ⟨fun y h1 h2 => ?_, fun y h1 h2 => ?_⟩
    ·have hi : ∃ it ∈ itS proc up nx lp n (.mk id kind labels name pr x has args thn els), it.s.id = y := by
      rw [itS]
      rcases hsplit y h1 h2 with ⟨h5, h6⟩ | ⟨h5, h6⟩
      ·obtain ⟨it, hi, he⟩ := ids_it (proc := proc) (up := n + 1) (nx := if kind = 6 then n + 1 else nx) (lp := if kind = 6 then n + 1 else lp) h3 h5 h6
       exact ⟨it, List.mem_cons_of_mem _ (List.mem_append.2 (.inl hi)), he⟩
      ·obtain ⟨it, hi, he⟩ := ids_it (proc := proc) (up := n + 1) (nx := if kind = 6 then n + 1 else nx) (lp := if kind = 6 then n + 1 else lp) h4 h5 h6
       exact ⟨it, List.mem_cons_of_mem _ (List.mem_append.2 (.inr hi)), he⟩
     obtain ⟨it, hi, he⟩ := hi
     have := enterS proc _ up nx lp n h hs it hi
     rw [he] at this
     exact this
    ·have hy : rng (n + 1) (n + cntS (.mk id kind labels name pr x has args thn els)) y := by
      have h1 : id < y := h1
      have h2 : y < id + cntS (.mk id kind labels name pr x has args thn els) := h2
      constructor <;> omega
     have hx1 := hx.one hy
     have hne : (S.mk id kind labels name pr x has args thn els).id ≠ y := by
      show id ≠ y
      have h1 : id < y := h1
      omega
     by_cases k6 : kind = 6
     ·exact .step hne (P.go.k6 k6).2 hx1
     ·by_cases k5 : kind = 5
      ·have q1 := passL proc thn _ _ _ (n + 1) h3 P.st
       have q2 := passL proc els _ _ _ (n + 1 + cntL thn) h4 P.se
       simp only [show (S.mk id kind labels name pr x has args thn els).kind = kind from rfl, if_neg k6] at q1 q2
       have hxy : AvdD R (fun v => v = y) nx := hx.mono fun v hv => by rw [hv]; exact hy
       rcases hsplit y h1 h2 with ⟨h5, h6⟩ | ⟨h5, h6⟩
       ·refine .step hne (P.go.k5 k5).2 (AvdD.one (D := fun v => v = y) rfl (q2.off (fun v hv e => ?_) hxy))
        unfold rng at hv
        omega
       ·refine .step hne (P.go.k5 k5).1 (AvdD.one (D := fun v => v = y) rfl (q1.off (fun v hv e => ?_) hxy))
        unfold rng at hv
        omega
      ·exact .step hne (P.go.oth k5 k6) hx1
   have hxt : ∀ D : Int → Prop, (∀ v, D v → rng (n + 1 + 1) (n + cntS (.mk id kind labels name pr x has args thn els)) v) → AvdD R D (if kind = 6 then (n : Int) + 1 else nx) := fun D hD => by
    have hx2 : AvdD R D nx := hx.mono fun v hv => by
     have := hD v hv
     unfold rng at this ⊢
     omega
    split
    ·rename_i k6
     refine .step (fun hd => ?_) (by rw [← hid]; exact (P.go.k6 k6).2) hx2
     have := hD _ hd
     unfold rng at this
     omega
    ·exact hx2
   intro it hi
   rw [itS] at hi
   rcases List.mem_cons.1 hi with rfl | hi
   ·exact self
   rcases List.mem_append.1 hi with hi | hi
   ·exact allL proc thn _ _ _ (n + 1) h3 P.st (hxt _ fun v hv => by unfold rng at hv ⊢; omega) it hi
   ·exact allL proc els _ _ _ (n + 1 + cntL thn) h4 P.se (hxt _ fun v hv => by unfold rng at hv ⊢; omega) it hi
theorem allL {sh : Sheet} {f : Pr} {R : Int → Int → Prop} (proc : Int) : ∀ (l : List S) {nest m : Int} (up nx lp : Int) (n : Nat), rowL nest n l = some m → stepI sh f R (itL proc up nx lp n l) → AvdD R (rng (n + 1) (n + cntL l)) nx → ∀ it ∈ itL proc up nx lp n l, WithinF R it.s
 | [], nest, m, up, nx, lp, n, h, hs, hx, it, hi => by rw [itL] at hi; cases hi
 | t :: r, nest, m, up, nx, lp, n, h, hs, hx, it, hi => by
   obtain ⟨_, m1, h1, h2⟩ := rowL_parts h
   have hm1 := rowS_cnt _ _ t h1
   have h2' : rowL nest ((n + cntS t : Nat) : Int) r = some m := by rw [← h2, hm1]; rfl
   have hc : cntL (t :: r) = cntS t + cntL r := by rw [cntL]
   rw [itL] at hs hi
   have hsr := hs.sub (m := itL proc up nx lp (n + cntS t) r) fun x hx => List.mem_append.2 (.inr hx)
   rcases List.mem_append.1 hi with hi | hi
   ·refine allS proc t up _ lp n h1 (hs.sub fun x hx => List.mem_append.2 (.inl hx)) ?_ it hi
    rw [next_head h2']
    refine (passL proc r up nx lp (n + cntS t) h2' hsr).off (fun v hv hd => ?_) (hx.mono fun v hv => ?_)
    ·unfold rng at hv hd
     omega
    ·unfold rng at hv ⊢
     omega
   ·exact allL proc r up nx lp (n + cntS t) h2' hsr (hx.mono fun v hv => by unfold rng at hv ⊢; omega) it hi
end
open Go.Proofs
inductive TrD (p : Pg) (n : Str) (b : Int) : Int → Prop
 | base {a : Int} (h : a ∈ byR p n b) : TrD p n b a
 | step {x a : Int} (hx : TrD p n b x) (h0 : x ≠ 0) (h : a ∈ byR p n x) : TrD p n b a
theorem TrD.trans {p : Pg} {n : Str} {b x a : Int} (h : TrD p n b x) (h0 : x ≠ 0) (h' : TrD p n x a) : TrD p n b a := by
 induction h' with
 | base h1 => exact .step h h0 h1
 | step _ h1 h2 ih => exact .step ih h1 h2
mutual
theorem itS_in (proc : Int) : ∀ (t : S) {nest m : Int} (up nx lp : Int) (n : Nat), rowS nest n t = some m → ∀ it ∈ itS proc up nx lp n t, it.up = up ∨ ∃ iu ∈ itS proc up nx lp n t, iu.s.id = it.up ∧ iu.s.id < it.s.id ∧ it.s.id < iu.s.id + cntS iu.s
 | .mk id kind labels name pr x has args thn els, nest, m, up, nx, lp, n, h, it, hi => by
   obtain ⟨_, hid, m1, h3, h4⟩ := rowS_parts h
   have hid : id = (n : Int) + 1 := hid
   have hc : cntS (.mk id kind labels name pr x has args thn els) = 1 + cntL thn + cntL els := cntS_pa _
   have hm1 := rowL_cnt _ _ thn h3
   have h3' : rowL (nest + 1) ((n + 1 : Nat) : Int) thn = some m1 := by rw [← h3]; rfl
   have h4' : rowL (nest + 1) ((n + 1 + cntL thn : Nat) : Int) els = some m := by
    rw [← h4, hm1]
    congr 1
   rw [itS] at hi ⊢
   rcases List.mem_cons.1 hi with rfl | hi
   ·exact .inl rfl
   rcases List.mem_append.1 hi with hi | hi
   ·have hr := itL_ids h3' hi
    rcases itL_in proc thn _ _ _ (n + 1) h3' it hi with h5 | ⟨iu, h5, h6⟩
    ·refine .inr ⟨_, List.mem_cons_self, ?_, ?_, ?_⟩
     ·rw [h5]; exact hid
     ·show id < _
      omega
     ·show _ < id + _
      rw [hc]
      omega
    ·exact .inr ⟨iu, List.mem_cons_of_mem _ (List.mem_append.2 (.inl h5)), h6⟩
   ·have hr := itL_ids h4' hi
    rcases itL_in proc els _ _ _ (n + 1 + cntL thn) h4' it hi with h5 | ⟨iu, h5, h6⟩
    ·refine .inr ⟨_, List.mem_cons_self, ?_, ?_, ?_⟩
     ·rw [h5]; exact hid
     ·show id < _
      omega
     ·show _ < id + _
      rw [hc]
      omega
    ·exact .inr ⟨iu, List.mem_cons_of_mem _ (List.mem_append.2 (.inr h5)), h6⟩
theorem itL_in (proc : Int) : ∀ (l : List S) {nest m : Int} (up nx lp : Int) (n : Nat), rowL nest n l = some m → ∀ it ∈ itL proc up nx lp n l, it.up = up ∨ ∃ iu ∈ itL proc up nx lp n l, iu.s.id = it.up ∧ iu.s.id < it.s.id ∧ it.s.id < iu.s.id + cntS iu.s
 | [], nest, m, up, nx, lp, n, h, it, hi => by rw [itL] at hi; cases hi
 | t :: r, nest, m, up, nx, lp, n, h, it, hi => by
   obtain ⟨_, m1, h1, h2⟩ := rowL_parts h
   have hm1 := rowS_cnt _ _ t h1
   have h2' : rowL nest ((n + cntS t : Nat) : Int) r = some m := by rw [← h2, hm1]; rfl
   rw [itL] at hi ⊢
   rcases List.mem_append.1 hi with hi | hi
   ·rcases itS_in proc t up _ lp n h1 it hi with h5 | ⟨iu, h5, h6⟩
    ·exact .inl h5
    ·exact .inr ⟨iu, List.mem_append.2 (.inl h5), h6⟩
   ·rcases itL_in proc r up nx lp (n + cntS t) h2' it hi with h5 | ⟨iu, h5, h6⟩
    ·exact .inl h5
    ·exact .inr ⟨iu, List.mem_append.2 (.inr h5), h6⟩
end
section
variable {p : Pg} {j : Nat} {f : Pr} {n : Str}
theorem aug_stepI (h : chkB p = true) (hj : p.procs[j]? = some f) : stepI (sheetOf p) f (aR p j f) (itL (j : Nat) 0 (-1) 0 (offN p.procs j) f.body) := fun it hi =>
 ⟨fun y hy => (aR_iff h hj).2 (.inl ⟨⟨it.s.id, y, 1⟩, ((real_spec h hj).2 _).2 (raw_go hi hy), rfl, rfl⟩), fun hk => (aR_iff h hj).2 (.inr (.inr (.inr ⟨it, hi, hk, rfl, rfl⟩)))⟩
theorem within (h : chkB p = true) (hj : p.procs[j]? = some f) : ∀ it ∈ itsOf p j f, WithinF (aR p j f) it.s := by
 obtain ⟨m, hr⟩ := may_row (chk_parts h).1 hj
 refine allL (j : Nat) f.body 0 (-1) 0 (offN p.procs j) hr (aug_stepI h hj) (.exit fun hd => ?_)
 unfold rng at hd
 omega
end
theorem way_name {p : Pg} (h : chkB p = true) {f : Pr} (hf : f ∈ p.procs) : ∃ k, p.procs[k]? = some f ∧ wayO p f.name = some (newWay p k f) := by
 cases hw : wayO p f.name with
 | none =>
   exfalso
   unfold wayO at hw
   rw [h, cond_true] at hw
   cases hq : p.procs.find? (fun g => g.name == f.name) with
   | none =>
     have := List.find?_eq_none.1 hq _ hf
     simp at this
   | some g => rw [hq] at hw; cases hw
 | some w =>
   obtain ⟨k, g, hkj, rfl, _, hgn, _⟩ := wayO_some hw
   have he : g = f := nodup_inj (names_nodup h) g (List.mem_of_getElem? hkj) f hf hgn
   subst he
   exact ⟨k, hkj, rfl⟩
theorem proc_way {p : Pg} (h : chkB p = true) {id : Int} (hid : id ∈ idsR p 0) : ∃ k f t, p.procs[k]? = some f ∧ t ∈ flL f.body ∧ t.id = id ∧ wayO p (findO p id).2.1 = some (newWay p k f) := by
 have hm := (chk_parts h).1
 unfold idsR at hid
 obtain ⟨x, hx, rfl⟩ := List.mem_map.1 hid
 have hx := (List.mem_filter.1 hx).1
 rw [allR_eq hm] at hx
 obtain ⟨g, hg, hxg⟩ := List.mem_flatMap.1 hx
 rw [← flatR_eq hm hg] at hxg
 unfold findO
 cases hr : findR p x.s.id with
 | none =>
   exfalso
   unfold findR at hr
   have h1 := List.findSome?_eq_none_iff.1 hr g hg
   unfold findF at h1
   rw [Option.map_eq_none_iff, List.find?_eq_none] at h1
   exact h1 x hxg (by simp)
 | some y =>
   obtain ⟨y, nm⟩ := y
   unfold findR at hr
   obtain ⟨f, hf, h1⟩ := List.exists_of_findSome?_eq_some hr
   unfold findF at h1
   rw [Option.map_eq_some_iff] at h1
   obtain ⟨z, h2, h3⟩ := h1
   obtain rfl : z = y := congrArg Prod.fst h3
   have hnm : f.name = nm := congrArg Prod.snd h3
   obtain ⟨k, hk, hw⟩ := way_name h hf
   refine ⟨k, f, z.s, hk, flat_pl h hk (List.mem_of_find?_eq_some h2), by simpa using List.find?_some h2, ?_⟩
   show wayO p nm = _
   rw [← hnm]
   exact hw
theorem pick_in {l : List Int} (n : Int) (h : l ≠ []) : pickR l n ∈ l := by
 unfold pickR
 have hl : 0 < (l.length : Int) := by
  have := List.length_pos_iff.2 h
  omega
 have := modI_rng (n := n) hl
 rw [if_neg h, List.getD_eq_getElem?_getD, List.getElem?_eq_getElem (by omega)]
 exact List.getElem_mem _
open Go.Proofs
def stmtM : List AV := [.int .i64 (-1), .int .i64 0, .nils, .str [], .str [], .int .i64 0, .int .i64 0, .str [], .nils, .ff, .nils, .nils, .nils]
theorem whittlerref3_put : ∀ (k : Nat) (l : List S) (_ : cntL l < k) (_ : cntL l ≤ 1000000) (_ : ∀ t ∈ flL l, okC t ∧ t.id ≠ -1), SpecP Tryz.prog 234 [eSs l, .agg stmtM] (fun r => r = eSs l) := by
 intro k
 induction k with
 | zero => intro l h; omega
 | succ k ih =>
   intro l hk hn hok
   have hsl : (S.avs l).length = l.length := by rw [S.avs_eq, List.length_map]
   have hcl := cntL_len l
   refine SpecP.body I_whittlerref3_put tabOK Tryz.func234 rfl Tryz.call234 (by show 2 ≤ _; decide) ?_
   conv => whnf
   repeat' (first | ((first | (intro (_ : _ ≤ 9223372036854775807)) | (refine DrawK.auto tabOK mixed (by kernel_rfl) ?_) | (refine And.intro rfl ?_) | (refine And.intro ⟨by decide, by decide⟩ ?_) | (refine And.intro ⟨rfl, rfl, by decide⟩ ?_) | (refine BsK.pure (fun x hx => by rcases List.mem_singleton.1 hx with rfl; rfl) rfl ?_) | (refine IdxK.map (by omega) (fun _ => rfl) ?_) | (refine IdxK.xs (by omega) ?_) | (refine IdxK.ss (by omega) ?_) | (refine ByteK.at (by omega) ?_) | (refine Wr.i64 (by omega) (by omega) ?_)); conv => whnf) | (refine Br.dec (fun _ => ?_) (fun _ => ?_) <;> first | (exfalso; omega) | conv => whnf) | (refine Br.dec2 (fun _ => ?_) (fun _ => ?_) <;> first | (exfalso; omega) | conv => whnf) | (refine Br.n (fun _ => ?_) (fun _ => ?_) <;> conv => whnf) | (refine Br.b (fun _ => ?_) (fun _ => ?_) <;> conv => whnf))
   refine LoopK.inv tabOK (fun j : Nat => ⟨[(3, .p (.ip stmtM)), (5, .hd 0 0 j), (9, .p (eSs l)), (10, .p (.int .i64 (S.avs l).length)), (11, .p (.int .i64 j))], [(0, .own 59 13 (S.avs (l.take j)))]⟩) (fun j => j ≤ l.length) (fun j => l.length - j) 0
    (Le.mk [(0, .own 59 13 [])] (by simp [Chunk.new0]; rfl) (by simp) (by simp) (.cons (.refl _) (.cons (.nil List.mem_cons_self) (.cons (.refl _) (.cons (.refl _) (.cons (.refl _) .nil))))) (.new List.mem_cons_self .nil)) (Nat.zero_le _) ?_
   intro j h2
   rcases Nat.lt_or_ge j l.length with hj | hj
   ·have htm := cntL_mem (List.getElem_mem hj)
    have hcs := cntS_eq l[j]
    have hself := hok _ (flL_self l _ (List.getElem_mem hj))
    have hsub : ∀ t, t ∈ flL l[j].thn ∨ t ∈ flL l[j].els → okC t ∧ t.id ≠ -1 := fun t ht => hok t (by
     have : t ∈ flS l[j] := by
      rw [flS_eq]
      exact List.mem_cons_of_mem _ (List.mem_append.2 ht)
     have key : ∀ (m : List S) (i : Nat) (h : i < m.length), t ∈ flS m[i] → t ∈ flL m := fun m => by
      induction m with
      | nil => intro i h; simp at h
      | cons a r ih =>
        intro i h ht
        rw [flL]
        cases i with
        | zero => exact List.mem_append.2 (.inl ht)
        | succ i => exact List.mem_append.2 (.inr (ih i (by simpa using h) ht))
     exact key l j hj this)
    have h5 := whittlerref3_copyOne l[j] hself.1.1 hself.1.2.1 hself.1.2.2.1 hself.1.2.2.2
    have hid := hself.2
    have h6 := ih l[j].thn (by omega) (by omega) fun t ht => hsub t (.inl ht)
    have h7 := ih l[j].els (by omega) (by omega) fun t ht => hsub t (.inr ht)
    have hacl : j = (S.avs (l.take j)).length := by rw [S.avs_eq, List.length_map, List.length_take]; omega
    have hav : S.avs (l.take (j + 1)) = S.avs (l.take j) ++ [.agg l[j].cells] := by
     rw [S.avs_eq, S.avs_eq, List.take_succ_eq_append_getElem hj, List.map_append]
     rfl
    generalize S.avs (l.take j) = acc at hacl hav ⊢
    have e : l[j] = .mk l[j].id l[j].kind l[j].labels l[j].name l[j].proc l[j].x l[j].has l[j].args l[j].thn l[j].els := by cases l[j]; rfl
    conv => whnf
    repeat' (first | ((first | (intro (_ : _ ≤ 9223372036854775807)) | (refine DrawK.auto tabOK mixed (by kernel_rfl) ?_) | (refine And.intro rfl ?_) | (refine And.intro ⟨by decide, by decide⟩ ?_) | (refine And.intro ⟨rfl, rfl, by decide⟩ ?_) | (refine BsK.pure (fun x hx => by rcases List.mem_singleton.1 hx with rfl; rfl) rfl ?_) | (refine IdxK.map (by omega) (fun _ => rfl) ?_) | (refine IdxK.xs (by omega) ?_) | (refine IdxK.ss (by omega) ?_) | (refine ByteK.at (by omega) ?_) | (refine Wr.i64 (by omega) (by omega) ?_) | (refine CallK.pure h5 (.cons (Sub.refl _) .nil) ?_; rintro _ rfl) | (refine CallK.pure h6 (.cons (Sub.refl _) (.cons (Sub.refl _) .nil)) ?_; rintro _ rfl) | (refine CallK.pure h7 (.cons (Sub.refl _) (.cons (Sub.refl _) .nil)) ?_; rintro _ rfl) | (refine AppK.mk hacl rfl (by show (j+1) * 208 ≤ 140737488355328; omega) (by show j+1 ≤ 9223372036854775807; omega) (fun x hx => by rcases List.mem_singleton.1 hx with rfl; exact ⟨rfl, rfl⟩) ?_)); conv => whnf) | (refine Br.dec (fun _ => ?_) (fun _ => ?_) <;> first | (exfalso; omega) | conv => whnf) | (refine Br.dec2 (fun _ => ?_) (fun _ => ?_) <;> first | (exfalso; omega) | conv => whnf) | (refine Br.n (fun _ => ?_) (fun _ => ?_) <;> conv => whnf) | (refine Br.b (fun _ => ?_) (fun _ => ?_) <;> conv => whnf))
    all_goals first
     | exact ⟨j + 1, hj, by omega, Le.of_eq (by rw [hav]; rfl)⟩
     | contradiction
     | trace_state
   ·have hall : l.take j = l := List.take_of_length_le hj
    have hjl : j = (S.avs l).length := by rw [S.avs_eq, List.length_map]; omega
    rw [hall]
    conv => whnf
    repeat' (first | ((first | (intro (_ : _ ≤ 9223372036854775807)) | (refine DrawK.auto tabOK mixed (by kernel_rfl) ?_) | (refine And.intro rfl ?_) | (refine And.intro ⟨by decide, by decide⟩ ?_) | (refine And.intro ⟨rfl, rfl, by decide⟩ ?_) | (refine BsK.pure (fun x hx => by rcases List.mem_singleton.1 hx with rfl; rfl) rfl ?_) | (refine IdxK.map (by omega) (fun _ => rfl) ?_) | (refine IdxK.xs (by omega) ?_) | (refine IdxK.ss (by omega) ?_) | (refine ByteK.at (by omega) ?_) | (refine Wr.i64 (by omega) (by omega) ?_)); conv => whnf) | (refine Br.dec (fun _ => ?_) (fun _ => ?_) <;> first | (exfalso; omega) | conv => whnf) | (refine Br.dec2 (fun _ => ?_) (fun _ => ?_) <;> first | (exfalso; omega) | conv => whnf) | (refine Br.n (fun _ => ?_) (fun _ => ?_) <;> conv => whnf) | (refine Br.b (fun _ => ?_) (fun _ => ?_) <;> conv => whnf))
    exact ⟨_, .hd rfl hjl, rfl⟩
open Go.Proofs
open Go.Proofs
theorem offN_le : ∀ (l : List Pr) (j : Nat), offN l j ≤ cntP l
 | _, 0 => by rw [offN]; omega
 | [], j + 1 => by rw [offN]; omega
 | g :: r, j + 1 => by rw [offN, cntP]; have := offN_le r j; omega
theorem free_traps {p : Pg} (h : chkB p = true) {j : Nat} {f : Pr} (hj : p.procs[j]? = some f) (hk : ∀ u ∈ flL f.body, u.kind < 7) : trapsW (newWay p j f) f = [] := by
 refine List.eq_nil_iff_forall_not_mem.2 fun l hl => ?_
 obtain ⟨r, hr⟩ := trap_spec h hj hl
 obtain ⟨t, ht, _, h10⟩ := trap_goto h hj hr.pl hr.cl hr.n0 hr.nx
 have := hk t ht
 omega
theorem free_virt {p : Pg} (h : chkB p = true) {j : Nat} {f : Pr} (hj : p.procs[j]? = some f) (hk : ∀ u ∈ flL f.body, u.kind < 7) : virtW (newWay p j f) f = [] := by
 unfold virtW
 rw [free_traps h hj hk]
 rfl
theorem free_data {p : Pg} (h : chkB p = true) {j : Nat} {f : Pr} (hj : p.procs[j]? = some f) (hk : ∀ u ∈ flL f.body, u.kind < 7) : dataW (newWay p j f) f = (newWay p j f).real := by
 have hok := data_ok h hj
 unfold dataW
 rw [free_virt h hj hk] at hok ⊢
 exact normS_eq hok (real_spec h hj).1 (fun s hs => hs) fun s hs => ⟨s, hs, rfl, rfl, Int.le_refl _⟩
def wantR (L : List Step) : List Step := match L with
 | [] => []
 | s :: r => if s.dst = -1 then s :: r else s :: ⟨0, -1, 2⟩ :: r
theorem free_aug {p : Pg} (h : chkB p = true) {j : Nat} {f : Pr} (hj : p.procs[j]? = some f) (hk : ∀ u ∈ flL f.body, u.kind < 7) : augW (newWay p j f) f = wantR (newWay p j f).real := by
 have hok := aug_ok h hj
 have hfo : (itsOf p j f).flatMap fOf = [] := by
  rw [List.flatMap_eq_nil_iff]
  intro it hi
  unfold fOf
  have := hk it.s (its_s hi)
  rw [if_neg (by omega)]
 have hraw : augRaw (newWay p j f) f = (newWay p j f).real ++ [⟨0, -1, 2⟩] := by
  unfold augRaw
  rw [free_virt h hj hk, show itsOf (newWay p j f).p (newWay p j f).j f = itsOf p j f from rfl, hfo]
  simp
 unfold augW
 rw [hraw] at hok ⊢
 obtain ⟨hP, hM⟩ := real_spec h hj
 obtain ⟨r, hr, hr0⟩ := real_head h hj
 have hokr : ∀ s ∈ (newWay p j f).real, okSt s := fun s hs => hok s (List.mem_append.2 (.inl hs))
 rw [hr] at hP hok hokr ⊢
 unfold wantR
 simp only
 by_cases hd : fstI p j f = -1
 ·rw [if_pos hd]
  refine normS_eq hok hP (fun s hs => List.mem_append.2 (.inl hs)) fun s hs => ?_
  rcases List.mem_append.1 hs with hs | hs
  ·exact ⟨s, hs, rfl, rfl, Int.le_refl _⟩
  ·rcases List.mem_singleton.1 hs with rfl
   exact ⟨_, List.mem_cons_self, rfl, hd, by show (1 : Int) ≤ 2; decide⟩
 ·rw [if_neg hd]
  rw [List.pairwise_cons] at hP
  refine normS_eq hok ?_ (fun s hs => ?_) fun s hs => ?_
  ·refine List.pairwise_cons.2 ⟨fun s hs => ?_, List.pairwise_cons.2 ⟨fun s hs => ?_, hP.2⟩⟩
   ·rcases List.mem_cons.1 hs with rfl | hs
    ·right
     refine ⟨rfl, ?_⟩
     have h1 := (real_places h hj ⟨0, fstI p j f, 1⟩ (by rw [hr]; exact List.mem_cons_self)).2
     have h2 := offN_le p.procs j
     have h3 := (chk_cnt h).2.2
     have h4 := cntP_mem _ _ (List.mem_of_getElem? hj)
     unfold plP at h1
     unfold rankI
     simp only at h1 ⊢
     split
     ·omega
     ·rw [if_pos True.intro]
      omega
    ·exact hP.1 s hs
   ·left
    have h1 := hP.1 s hs
    have h2 := hr0 s hs
    unfold ltSt at h1
    simp only at h1
    have e0 : rankI 0 = 0 := rfl
    rw [e0] at h1 ⊢
    rcases h1 with h1 | ⟨h1, _⟩
    ·exact h1
    ·unfold rankI at h1
     split at h1 <;> omega
  ·rcases List.mem_cons.1 hs with rfl | hs
   ·exact List.mem_append.2 (.inl List.mem_cons_self)
   ·rcases List.mem_cons.1 hs with rfl | hs
    ·exact List.mem_append.2 (.inr List.mem_cons_self)
    ·exact List.mem_append.2 (.inl (List.mem_cons_of_mem _ hs))
  ·refine ⟨s, ?_, rfl, rfl, Int.le_refl _⟩
   rcases List.mem_append.1 hs with hs | hs
   ·rcases List.mem_cons.1 hs with rfl | hs
    ·exact List.mem_cons_self
    ·exact List.mem_cons_of_mem _ (List.mem_cons_of_mem _ hs)
   ·rcases List.mem_singleton.1 hs with rfl
    exact List.mem_cons_of_mem _ List.mem_cons_self
open Go.Proofs
structure CopyF (p : Pg) : Prop where
 procs : p.procs.length ≤ 1000
 globals : p.globals.length ≤ 1000000
 pr : ∀ f ∈ p.procs, f.vars.length ≤ 1000000 ∧ f.fin.length ≤ 1000000 ∧ f.params.length ≤ 1000000 ∧ cntL f.body ≤ 100000 ∧ ∀ t ∈ flL f.body, okC t ∧ t.id ≠ -1
def putH (p : Pg) : Heap := [(2, .obj 25 [.p (eStrs p.globals), .hd 1 0 p.procs.length]), (1, .own 67 5 (p.procs.map fun f => .agg f.cells))]
def copyH (p : Pg) : Heap := [(6, .own 67 5 (p.procs.map fun f => .agg f.cells)), (1, .obj 25 [.p (eStrs p.globals), .hd 6 0 p.procs.length])]
theorem whittlerref3_Put (p : Pg) (h : CopyF p) : SpecH Tryz.prog 164 [.p (.agg p.cells), .p (.agg stmtM)] [] (fun r H => r = .agg [.p (eStrs p.globals), .hd 1 0 p.procs.length] ∧ H = putH p) := by
 refine SpecH.body I_whittlerref3_Put tabOK Tryz.func164 rfl Tryz.call164 (by show 2 ≤ _; decide) ?_
 conv => whnf
 have hgt := whittlerref3_texts p.globals h.globals
 have hpm : (p.procs.map fun f => AV.agg f.cells).length = p.procs.length := List.length_map _
 have hpl := h.procs
 repeat' ((first | (intro (_ : _ ≤ 9223372036854775807)) | (refine And.intro rfl ?_) | (refine CallK.pure hgt (.cons (Sub.refl _) .nil) ?_; rintro _ rfl)); conv => whnf)
 refine LoopK.inv tabOK (fun j : Nat => ⟨[(3, .p (.ip stmtM)), (4, .ptr 2 0), (5, .ptr 0 0), (14, .p (.sl (p.procs.map fun f => AV.agg f.cells))), (15, .p (.int .i64 (p.procs.map fun f => AV.agg f.cells).length)), (16, .p (.int .i64 j))], [(0, .obj 25 [.p (eStrs p.globals), .hd 1 0 j]), (2, .obj 25 [.p .nils, .p .nils]), (1, .own 67 5 ((p.procs.take j).map fun f => .agg f.cells))]⟩) (fun j => j ≤ p.procs.length) (fun j => p.procs.length - j) 0
  (Le.mk [(1, .own 67 5 [])] (by simp [Chunk.new0]; rfl) (by simp) (by simp) (.cons (.refl _) (.cons (.refl _) (.cons (.refl _) (.cons (.refl _) (.cons (.refl _) (.cons (.refl _) .nil)))))) (.cons rfl (.obj (.cons (.refl _) (.cons (.nil List.mem_cons_self) .nil))) (.cons rfl (.refl _) (.new List.mem_cons_self .nil)))) (Nat.zero_le _) ?_
 intro j h2
 rcases Nat.lt_or_ge j p.procs.length with hj | hj
 ·obtain ⟨hv, hfin, hpm2, hcb, hok⟩ := h.pr _ (List.getElem_mem hj)
  have h5 := whittlerref3_texts p.procs[j].vars hv
  have h6 := whittlerref3_texts p.procs[j].fin hfin
  have h7 := whittlerref3_put (cntL p.procs[j].body + 1) p.procs[j].body (by omega) (by omega) hok
  have htl : ((p.procs.take j).map fun f => AV.agg f.cells).length = j := by rw [List.length_map, List.length_take]; omega
  have htk : ((p.procs.take (j + 1)).map fun f => AV.agg f.cells) = ((p.procs.take j).map fun f => AV.agg f.cells) ++ [.agg p.procs[j].cells] := by
   rw [List.take_succ_eq_append_getElem hj, List.map_append]
   rfl
  generalize ((p.procs.take j).map fun f => AV.agg f.cells) = acc at htl htk ⊢
  have hpa : (p.procs[j].params.map fun x => AV.agg x.cells).length = p.procs[j].params.length := List.length_map _
  conv => whnf
  repeat' (first | ((first | (refine DrawK.auto tabOK mixed (by kernel_rfl) ?_) | (refine And.intro rfl ?_) | (refine And.intro ⟨by decide, by decide⟩ ?_) | (refine IdxK.map (by omega) (fun _ => rfl) ?_) | (refine CallK.pure h5 (.cons (Sub.refl _) .nil) ?_; rintro _ rfl) | (refine CallK.pure h6 (.cons (Sub.refl _) .nil) ?_; rintro _ rfl) | (refine CallK.pure h7 (.cons (Sub.refl _) (.cons (Sub.refl _) .nil)) ?_; rintro _ rfl) | (refine AppK.mk rfl rfl (by rw [hpa]; show (0+p.procs[j].params.length) * 24 ≤ 140737488355328; omega) (by rw [hpa]; show 0+p.procs[j].params.length ≤ 9223372036854775807; omega) (fun x hx => by obtain ⟨y, _, rfl⟩ := List.mem_map.1 hx; exact ⟨rfl, rfl⟩) ?_)); conv => whnf) | (refine Br.dec (fun _ => ?_) (fun _ => ?_) <;> first | (exfalso; omega) | conv => whnf) | (refine And.intro ?_ ?_ <;> conv => whnf))
  all_goals
   refine OpK.layAgg tabOK (k := 4) 41 p.procs[j].cells rfl rfl rfl (fun q u c h1 h2 => ?_) ?_
   ·match q, h1, h2 with
    | 0, h1, h2 => cases h1; cases h2; exact .inl ⟨_, rfl, Sub.refl _⟩
    | 1, h1, h2 => cases h1; cases h2; exact .inr ⟨_, rfl, by simp, rfl⟩
    | 2, h1, h2 => cases h1; cases h2; exact .inl ⟨_, rfl, Sub.refl _⟩
    | 3, h1, h2 => cases h1; cases h2; exact .inl ⟨_, rfl, Sub.refl _⟩
    | 4, h1, h2 => cases h1; cases h2; exact .inl ⟨_, rfl, Sub.refl _⟩
    | q + 5, h1, h2 => simp at h1
   conv => whnf
   repeat' ((first | (refine And.intro rfl ?_) | (refine And.intro ⟨by decide, by decide⟩ ?_) | (refine BsK.pure (fun x hx => by rcases List.mem_singleton.1 hx with rfl; rfl) rfl ?_) | (refine Wr.i64 (by omega) (by omega) ?_) | (refine AppK.mk htl.symm rfl (by show (j+1) * 112 ≤ 140737488355328; omega) (by show j+1 ≤ 9223372036854775807; omega) (fun x hx => by rcases List.mem_singleton.1 hx with rfl; exact ⟨rfl, rfl⟩) ?_)); conv => whnf)
   exact ⟨j + 1, hj, by omega, Le.of_eq (by rw [htk]; rfl)⟩
 ·have hA : ((p.procs.take j).map fun f => AV.agg f.cells) = p.procs.map fun f => .agg f.cells := by
   rw [List.take_of_length_le hj]
  have hje : j = p.procs.length := by omega
  subst hje
  rw [hA]
  conv => whnf
  repeat' (first | (refine And.intro rfl ?_; conv => whnf) | (refine Br.dec (fun _ => ?_) (fun _ => ?_) <;> first | (exfalso; omega) | conv => whnf))
  exact ⟨_, LSub.refl _, rfl, rfl⟩
theorem whittlerref3_Copy (p : Pg) (h : CopyF p) : SpecH Tryz.prog 112 [.p (.agg p.cells)] [] (fun r H => r = .agg [.p (eStrs p.globals), .hd 6 0 p.procs.length] ∧ H = copyH p) := by
 refine SpecH.body I_whittlerref3_Copy tabOK Tryz.func112 rfl Tryz.call112 (by show 1 ≤ _; decide) ?_
 conv => whnf
 repeat' ((first | (refine And.intro rfl ?_) | (refine CallK.heap [] 5 (ArgsH.cons (LSub.refl _) (ArgsH.cons (LSub.refl _) ArgsH.nil)) BlksH.nil (whittlerref3_Put p h) rfl rfl ?_; rintro l' H' ⟨rfl, rfl⟩)); conv => whnf)
 exact ⟨_, LSub.refl _, rfl, rfl⟩
def nmRow (p : Pg) (j : Nat) : List Pr := (nmPrs 0 p.procs).take j ++ p.procs.drop j
theorem nmPrs_get : ∀ (l : List Pr) (n j : Nat) (f : Pr), l[j]? = some f → (nmPrs n l)[j]? = some ⟨f.name, f.params, f.vars, nmL (n + offN l j) f.body, f.fin⟩
 | g :: r, n, 0, f, h => by cases h; rw [nmPrs]; rfl
 | g :: r, n, j + 1, f, h => by
   rw [nmPrs, List.getElem?_cons_succ, nmPrs_get r (n + cntL g.body) j f (by simpa using h), offN, Nat.add_assoc]
theorem nmPrs_len : ∀ (l : List Pr) (n : Nat), (nmPrs n l).length = l.length
 | [], n => rfl
 | g :: r, n => by rw [nmPrs, List.length_cons, List.length_cons, nmPrs_len r]
theorem nmRow_len (p : Pg) {j : Nat} (h : j ≤ p.procs.length) : (nmRow p j).length = p.procs.length := by
 unfold nmRow
 rw [List.length_append, List.length_take, List.length_drop, nmPrs_len]
 omega
theorem nmRow_get (p : Pg) {j : Nat} (hj : j < p.procs.length) : (nmRow p j)[j]? = some p.procs[j] := by
 unfold nmRow
 rw [List.getElem?_append_right (by rw [List.length_take, nmPrs_len]; omega), List.length_take, nmPrs_len, List.getElem?_drop]
 rw [show j + (j - min j p.procs.length) = j by omega, List.getElem?_eq_getElem hj]
theorem nmRow_succ (p : Pg) {j : Nat} (hj : j < p.procs.length) : nmRow p (j + 1) = (nmRow p j).set j ⟨p.procs[j].name, p.procs[j].params, p.procs[j].vars, nmL (offN p.procs j) p.procs[j].body, p.procs[j].fin⟩ := by
 have h1 := nmPrs_get p.procs 0 j _ (List.getElem?_eq_getElem hj)
 rw [Nat.zero_add] at h1
 unfold nmRow
 have hl : ((nmPrs 0 p.procs).take j).length = j := by rw [List.length_take, nmPrs_len]; omega
 rw [List.set_append_right _ _ (by omega), hl, Nat.sub_self, List.drop_eq_getElem_cons hj, List.set_cons_zero, List.take_add_one, h1]
 simp
theorem offN_step {l : List Pr} {j : Nat} (hj : j < l.length) : offN l (j + 1) = offN l j + cntL l[j].body := by
 induction l generalizing j with
 | nil => simp at hj
 | cons g r ih =>
   cases j with
   | zero => rw [offN, offN, offN]; simp
   | succ j =>
     rw [offN, offN, ih (by simpa using hj)]
     simp only [List.getElem_cons_succ]
     omega
theorem whittlerref3_Number (p : Pg) (h : CopyF p) (hc : cntP p.procs ≤ 100000) : SpecP Tryz.prog 114 [.agg p.cells] (fun r => r = .agg (nmPg p).cells) := by
 refine SpecP.body I_whittlerref3_Number tabOK Tryz.func114 rfl Tryz.call114 (by show 1 ≤ _; decide) ?_
 conv => whnf
 have hpm : (p.procs.map fun f => AV.agg f.cells).length = p.procs.length := List.length_map _
 have hpl := h.procs
 repeat' ((first | (intro (_ : _ ≤ 9223372036854775807)) | (refine And.intro rfl ?_) | (refine CallK.heap [] 20 (ArgsH.cons (LSub.refl _) ArgsH.nil) BlksH.nil (whittlerref3_Copy p h) rfl rfl ?_; rintro l' H' ⟨rfl, rfl⟩)); conv => whnf)
 refine LoopK.inv tabOK (fun j : Nat => ⟨[(1, .p (.ip p.cells)), (2, .ptr 1 0), (3, .ptr 0 0), (4, .p (.int .i64 (offN p.procs j))), (10, .p (.int .i64 p.procs.length)), (11, .p (.int .i64 j))], [(0, .obj 25 [.p (eStrs p.globals), .hd 26 0 p.procs.length]), (26, .own 67 5 ((nmRow p j).map fun f => .agg f.cells)), (1, .obj 25 [.p .nils, .p .nils])]⟩) (fun j => j ≤ p.procs.length) (fun j => p.procs.length - j) 0
  (Le.of_eq (by rw [show nmRow p 0 = p.procs from rfl, show offN p.procs 0 = 0 by rw [offN]]; rfl)) (Nat.zero_le _) ?_
 intro j h2
 have hrl := nmRow_len p h2
 rcases Nat.lt_or_ge j p.procs.length with hj | hj
 ·obtain ⟨hv, hfin, hpm2, hcb, hok⟩ := h.pr _ (List.getElem_mem hj)
  have hle := offN_le p.procs j
  have h5 := whittlerref3_numbered (cntL p.procs[j].body + 1) p.procs[j].body (by omega) (offN p.procs j) (by omega) fun t ht => (hok t ht).1
  have hget : ((nmRow p j).map fun f => AV.agg f.cells)[j]? = some (.agg p.procs[j].cells) := by rw [List.getElem?_map, nmRow_get p hj]; rfl
  have hset : ((nmRow p j).map fun f => AV.agg f.cells).set j (.agg (Pr.mk p.procs[j].name p.procs[j].params p.procs[j].vars (nmL (offN p.procs j) p.procs[j].body) p.procs[j].fin).cells) = (nmRow p (j + 1)).map fun f => AV.agg f.cells := by
   rw [nmRow_succ p hj, ← List.map_set]
  have hst := offN_step hj
  generalize ((nmRow p j).map fun f => AV.agg f.cells) = row at hget hset ⊢
  conv => whnf
  repeat' (first | ((first | (refine And.intro rfl ?_) | (refine IdxK.map (by omega) (fun _ => rfl) ?_) | (refine Wr.i64 (by omega) (by omega) ?_) | (refine DrawK.of tabOK mixed (.cons 3 false (.cons 4 false (.cons 5 false (.cons 6 false (.cons 7 false (.cons 8 false (.cons 9 false (.cons 0 false (.cons 2 false (.fork 1 (.cons 10 true (.cons 11 false (.cons 12 false (.cons 14 true (.cons 15 true (.cons 13 false (.cons 16 true (.cons 17 true .nil)))))))) 10 (.cons 1 true (.cons 11 false (.cons 12 false (.cons 14 true (.cons 15 true (.cons 13 false (.cons 16 true (.cons 17 true .nil)))))))))))))))))) (by kernel_rfl) ?_) | (refine CallK.pure h5 (.cons (Sub.refl _) (.cons (Sub.refl _) .nil)) ?_; rintro _ rfl) | (refine IdxL.mk j rfl hj ?_) | (refine StOwn.mk j 3 (.agg p.procs[j].cells) (.agg (Pr.mk p.procs[j].name p.procs[j].params p.procs[j].vars (nmL (offN p.procs j) p.procs[j].body) p.procs[j].fin).cells) (by show (0+j)*5+3 = j*5+3; omega) hget (Nat.le_of_ble_eq_true rfl) rfl ?_)); conv => whnf) | (refine Br.dec (fun _ => ?_) (fun _ => ?_) <;> first | (exfalso; omega) | conv => whnf) | (refine And.intro ?_ ?_ <;> conv => whnf))
  all_goals exact ⟨j + 1, hj, by omega, Le.of_eq (by rw [← hset, hst]; rfl)⟩
 ·have hje : j = p.procs.length := by omega
  subst hje
  have hA : nmRow p p.procs.length = (nmPg p).procs := by
   unfold nmRow nmPg
   rw [List.take_of_length_le (by rw [nmPrs_len]; exact Nat.le_refl _), List.drop_eq_nil_of_le (Nat.le_refl _), List.append_nil]
  have hcl : p.procs.length = ((nmPg p).procs.map fun f => AV.agg f.cells).length := by rw [List.length_map, ← hA, hrl]
  rw [hA]
  conv => whnf
  repeat' (first | (refine And.intro rfl ?_; conv => whnf) | (refine Br.dec (fun _ => ?_) (fun _ => ?_) <;> first | (exfalso; omega) | conv => whnf))
  refine ⟨_, .agg (cs := (nmPg p).cells) rfl fun i l c h1 h3 => ?_, rfl⟩
  match i, h1, h3 with
  | 0, h1, h3 => cases h1; cases h3; exact .p (Sub.refl _)
  | 1, h1, h3 =>
    cases h1
    cases h3
    exact .hd rfl hcl
  | i + 2, h1, h3 => simp at h1
open Go.Proofs
theorem getS_kill {k : Nat} : ∀ {sl : List (Nat × LV)}, (∀ x ∈ sl, x.2.kill k = x.2) → ∀ j, (getS sl j).kill k = getS sl j
 | [], _, _ => rfl
 | (i, l) :: r, h, j => by
   simp only [getS]
   cases i == j with
   | true => exact h _ List.mem_cons_self
   | false => exact getS_kill (fun x hx => h x (List.mem_cons_of_mem _ hx)) j
theorem Le.rowObj {N : Nat} {sl : List (Nat × LV)} {H H' : Heap} {k q : Nat} {e e' : TypeId} {sz : Nat} {es : List AV} {ls : List LV} {cs : List AV} (hg : getH H k = some (.own e sz es)) (hq : getH H q = some (.obj e' ls)) (hln : ls.length = cs.length)
  (hcs : ∀ (j : Nat) (l : LV) (c : AV), ls[j]? = some l → cs[j]? = some c → (∃ a, l = .p a ∧ Sub a c) ∨ (∃ n, l = .hd k 0 n ∧ n = es.length ∧ c = .sl es)) (hsl : ∀ j, (getS sl j).kill k = getS sl j)
  (hsub : (H'.map (·.1)).Sublist (H.map (·.1))) (hH : ∀ j c', (j, c') ∈ H' → j ≠ k ∧ ((j = q ∧ c' = .obj e' (cs.map .p)) ∨ ((j, c') ∈ H ∧ c'.kill k = c'))) : Le N ⟨sl, H⟩ ⟨sl, H'⟩ := fun σ β a w hr => by
 have obj : ∀ {τ : Mem}, σ.le τ → (∀ v, RepL σ β (.hd k 0 es.length) v → Rep τ (.sl es) v) → (Chunk.obj e' ls).holds σ β w q → (Chunk.obj e' (cs.map .p)).holds τ β w q := fun {τ} hle hrow hold => by
  obtain ⟨i', vs', hi', hh', hn', hc'⟩ := hold
  refine ⟨i', vs', hi', hh', by simpa [hln] using hn', fun j l hj => ?_⟩
  rw [List.getElem?_map] at hj
  cases hc : cs[j]? with
  | none => rw [hc] at hj; cases hj
  | some c =>
    rw [hc] at hj; cases hj
    have hlt : j < ls.length := by rw [hln]; exact (List.getElem?_eq_some_iff.1 hc).1
    obtain ⟨u, h3, h4⟩ := hc' j _ (List.getElem?_eq_getElem hlt)
    refine ⟨u, h3, ?_⟩
    rcases hcs j _ c (List.getElem?_eq_getElem hlt) hc with ⟨a', h5, h6⟩ | ⟨n, h5, rfl, rfl⟩
    ·rw [h5] at h4
     cases h4 with
     | p hp => exact .p (h6 _ _ (hp.mono hle))
    ·rw [h5] at h4
     exact .p (hrow _ h4)
 have hc0 := hr.heap.chunks q _ (getH_mem hq)
 rcases own_holds.1 (hr.heap.chunks k _ (getH_mem hg)) with ⟨hb0, rfl⟩ | ⟨i, vs, hi, hisz, hh, hn, hle', hmax, hE⟩
 ·refine ⟨σ, β, ⟨hr.size, hr.defers, hr.slots, ⟨hr.heap.mem, fun j c' hj => ?_, hsub.nodup hr.heap.nodup, fun j hj => hr.heap.apart j (hsub.subset hj), fun j hj j' hj' => hr.heap.inj j (hsub.subset hj) j' (hsub.subset hj')⟩⟩, Mem.le_refl σ, Frm.refl _ _, fun _ h0 h1 => absurd h0 h1, fun b ⟨j, hj, r⟩ => .inl ⟨j, hsub.subset hj, r⟩, fun _ _ _ => rfl⟩
  rcases (hH j c' hj).2 with ⟨rfl, rfl⟩ | ⟨h1, _⟩
  ·refine obj (Mem.le_refl σ) (fun v hv => ?_) hc0
   rcases hv.hdI with ⟨_, _, _, he⟩ | ⟨i, _, hk, _⟩
   ·rw [he]; exact .nilsl
   ·rw [hb0] at hk; cases hk
  ·exact hr.heap.chunks j _ h1
 ·refine hr.lay hi (getH_label hg) hh (fun τ hle hτ j v hv => ?_) (fun τ hle hτ j c' hj => ?_) (hsub.nodup hr.heap.nodup)
  ·show RepL τ β (getS sl j) v
   rw [← hsl j]
   exact (hv.kill k).mono hle
  ·obtain ⟨h1, h2⟩ := hH j c' hj
   rcases h2 with ⟨rfl, rfl⟩ | ⟨h2, h3⟩
   ·refine ⟨h1, _, getH_mem hq, obj hle fun v hv => ?_⟩
    rcases hv.hdI with ⟨hk, _⟩ | ⟨i', oo, hk, hl, ho, rfl⟩
    ·rw [hi] at hk; cases hk
    ·rw [hi] at hk; cases hk
     have hoo : oo = 0 := by
      rcases ho with ho | ho
      ·simpa using ho
      ·omega
     subst hoo
     obtain ⟨u, hu⟩ : ∃ u : Nat → Nat → Value, ∀ (m : Nat) (x : AV) (j : Nat) (c : AV), es[m]? = some x → x.cells[j]? = some c → vs[m * sz + j]? = some (u m j) ∧ Rep σ c (u m j) := by
      refine ⟨fun m j => (vs[m * sz + j]?).getD undef, fun m x j c hx hj => ?_⟩
      obtain ⟨v, h1, h2⟩ := hE.rep m x j c hx hj
      rw [List.getElem?_take] at h1
      split at h1
      ·have h1' : vs[m * sz + j]? = some v := by simpa using h1
       exact ⟨by simp [h1'], by simpa [h1'] using h2⟩
      ·cases h1
     exact .sl es i.blk 0 _ sz vs u hτ (by omega) (by omega) hE.size (fun m x j c hx hj => by simpa using (hu m x j c hx hj).1) fun m x j c hx hj => (hu m x j c hx hj).2.mono hle
   ·refine ⟨h1, c', h2, fun hold => ?_⟩
    have := (hold.kill k).mono hle fun _ _ _ _ => rfl
    rwa [h3] at this
end Go.Ab
