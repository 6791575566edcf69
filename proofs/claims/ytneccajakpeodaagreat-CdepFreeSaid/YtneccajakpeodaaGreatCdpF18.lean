/- slices.Reverse of numbers; the reference: one of some, the ids of a kind, whose a statement is, what is there. -/
import Derived.Test.YtneccajakpeodaaGreatCdpF16
import Derived.Test.YtneccajakpeodaaGreatCdpF17
set_option linter.unusedSimpArgs false
set_option linter.unusedVariables false
set_option maxRecDepth 100000
set_option maxHeartbeats 16000000
namespace Go.Ab
open Go.Proofs
def revI (l : List Int) (i : Nat) : List Int := (List.range l.length).map fun k => if k < i ∨ l.length - i ≤ k then l.getD (l.length - 1 - k) 0 else l.getD k 0
theorem revI_len (l : List Int) (i : Nat) : (revI l i).length = l.length := by unfold revI; simp
theorem revI_get {l : List Int} {i k : Nat} (hk : k < l.length) : (revI l i)[k]? = some (if k < i ∨ l.length - i ≤ k then l.getD (l.length - 1 - k) 0 else l.getD k 0) := by
 unfold revI
 rw [List.getElem?_map, List.getElem?_range hk]
 rfl
theorem revI_zero (l : List Int) : revI l 0 = l := by
 refine List.ext_getElem? fun k => ?_
 rcases Nat.lt_or_ge k l.length with hk | hk
 ·rw [revI_get hk, if_neg (by omega), List.getD_eq_getElem?_getD, List.getElem?_eq_getElem hk]
  rfl
 ·rw [List.getElem?_eq_none (by rw [revI_len]; exact hk), List.getElem?_eq_none hk]
theorem revI_end {l : List Int} {i : Nat} (h : l.length ≤ 2 * i + 1) : revI l i = l.reverse := by
 refine List.ext_getElem? fun k => ?_
 rcases Nat.lt_or_ge k l.length with hk | hk
 ·rw [revI_get hk, List.getElem?_reverse hk, List.getElem?_eq_getElem (by omega)]
  split
  ·rw [List.getD_eq_getElem?_getD, List.getElem?_eq_getElem (by omega)]
   rfl
  ·rw [List.getD_eq_getElem?_getD, List.getElem?_eq_getElem (by omega)]
   simp only [Option.getD_some]
   congr 2
   omega
 ·rw [List.getElem?_eq_none (by rw [revI_len]; exact hk), List.getElem?_eq_none (by rw [List.length_reverse]; exact hk)]
theorem revI_step {l : List Int} {i : Nat} (h : 2 * i + 1 < l.length) : ((revI l i).set i (l.getD (l.length - 1 - i) 0)).set (l.length - 1 - i) (l.getD i 0) = revI l (i + 1) := by
 refine List.ext_getElem? fun k => ?_
 rcases Nat.lt_or_ge k l.length with hk | hk
 ·rw [revI_get hk, List.getElem?_set, List.getElem?_set]
  simp only [List.length_set, revI_len]
  by_cases h1 : l.length - 1 - i = k
  ·rw [if_pos h1, if_pos (by omega), if_pos (by omega)]
   congr 2
   omega
  ·rw [if_neg h1]
   by_cases h2 : i = k
   ·rw [if_pos h2, if_pos (by omega), if_pos (by omega)]
    congr 2
    omega
   ·rw [if_neg h2, revI_get hk]
    by_cases h3 : k < i ∨ l.length - i ≤ k
    ·rw [if_pos h3, if_pos (by omega)]
    ·rw [if_neg h3, if_neg (by omega)]
 ·rw [List.getElem?_eq_none (by simp [revI_len]; exact hk), List.getElem?_eq_none (by rw [revI_len]; exact hk)]
theorem slices_Reverse_int_int_ (l : List Int) (hl : l.length ≤ 1000000) : SpecH Tryz.prog 110 [.hd 1000 0 l.length] [(1000, .own 3 1 (l.map (.int .i64)))] (fun r H => r = .p (.tup []) ∧ H = [(1000, .own 3 1 (l.reverse.map (.int .i64)))]) := by
 refine SpecH.body I_slices_Reverse_int_int_ tabOK Tryz.func110 rfl Tryz.call110 (by show 1 ≤ _; decide) ?_
 conv => whnf
 repeat' ((first | (intro (_ : _ ≤ 9223372036854775807)) | (refine Wr.i64 (by omega) (by omega) ?_)); conv => whnf)
 refine LoopK.inv tabOK (fun i : Nat => ⟨[(0, .hd 1000 0 l.length), (2, .p (.int .i64 i)), (3, .p (.int .i64 ((l.length : Int) - 1 - i)))], [(1000, .own 3 1 ((revI l i).map (.int .i64)))]⟩) (fun i => i ≤ l.length) (fun i => l.length - i) 0 (Le.of_eq (by rw [revI_zero, show (l.length : Int) - 1 - ((0 : Nat) : Int) = (l.length : Int) - 1 by omega]; rfl)) (Nat.zero_le _) ?_
 intro i h2
 have hlr := revI_len l i
 by_cases h3 : 2 * i + 1 < l.length
 ·have e1 : ((revI l i).map (AV.int .i64))[i]? = some (.int .i64 (l.getD i 0)) := by rw [List.getElem?_map, revI_get (by omega), if_neg (by omega)]; rfl
  have e2 : ((revI l i).map (AV.int .i64))[l.length - 1 - i]? = some (.int .i64 (l.getD (l.length - 1 - i) 0)) := by rw [List.getElem?_map, revI_get (by omega), if_neg (by omega)]; rfl
  have hst := revI_step h3
  generalize revI l i = row at hlr e1 e2 hst ⊢
  generalize l.getD i 0 = x at e1 hst
  generalize l.getD (l.length - 1 - i) 0 = y at e2 hst
  have e3 : ((row.map (AV.int .i64)).set i (.int .i64 y))[l.length - 1 - i]? = some (.int .i64 y) := by rw [List.getElem?_set_ne (by omega)]; exact e2
  conv => whnf
  repeat' (first | ((first | (refine DrawK.auto tabOK mixed (by kernel_rfl) ?_) | (refine And.intro rfl ?_) | (refine Wr.i64 (by omega) (by omega) ?_) | (refine IdxL.mk (l.length-1-i) (by omega) (by omega) ?_) | (refine IdxL.mk i rfl (by omega) ?_) | (refine LdOwn.mk (l.length-1-i) 0 _ (by show (0+(l.length-1-i))*1 = (l.length-1-i)*1+0; omega) e2 ?_) | (refine LdOwn.mk i 0 _ (by show (0+i)*1 = i*1+0; omega) e1 ?_) | (refine StOwn.mk i 0 _ (.int .i64 y) (by show (0+i)*1 = i*1+0; omega) e1 (Nat.le_refl _) rfl ?_) | (refine StOwn.mk (l.length-1-i) 0 _ (.int .i64 x) (by show (0+(l.length-1-i))*1 = (l.length-1-i)*1+0; omega) e3 (Nat.le_refl _) rfl ?_)); conv => whnf) | (refine Br.dec (fun _ => ?_) (fun _ => ?_) <;> first | (exfalso; omega) | conv => whnf))
  exact ⟨i + 1, by omega, by omega, Le.of_eq (by rw [← hst, List.map_set, List.map_set, show (l.length : Int) - 1 - ((i + 1 : Nat) : Int) = (l.length : Int) - 1 - i - 1 by omega]; rfl)⟩
 ·have hre := revI_end (l := l) (i := i) (by omega)
  rw [hre] at hlr ⊢
  conv => whnf
  repeat' (refine Br.dec (fun _ => ?_) (fun _ => ?_) <;> first | (exfalso; omega) | conv => whnf)
  exact ⟨_, LSub.refl _, rfl, rfl⟩
def pickR (l : List Int) (n : Int) : Int := if l = [] then 0 else l.getD (modI n l.length).toNat 0
theorem whittlerref6_Pick (l : List Int) (n : Int) (hl : l.length ≤ 1000000) : SpecP Tryz.prog 48 [eInts l, .int .i64 n] (fun r => r = .int .i64 (pickR l n)) := by
 refine SpecP.body I_whittlerref6_Pick tabOK Tryz.func48 rfl Tryz.call48 (by show 2 ≤ _; decide) ?_
 conv => whnf
 have hll : (l.map (AV.int .i64)).length = l.length := List.length_map _
 have hr := fun h : 0 < (l.length : Int) => modI_rng (n := n) h
 repeat' (first | ((first | (intro (_ : _ ≤ 9223372036854775807)) | (refine CallK.pure (whittlerref3_Mod n (l.length : Int) (by omega)) (.cons (Sub.refl _) (.cons (Sub.int (by omega)) .nil)) ?_; rintro _ rfl)); conv => whnf) | (refine Br.dec (fun _ => ?_) (fun _ => ?_) <;> first | (exfalso; omega) | conv => whnf))
 all_goals first
  | exact RetK.p (by unfold pickR; rw [if_pos (List.length_eq_zero_iff.1 (by omega))]; rfl)
  | skip
 have h1 := hr (by omega)
 have hg : (l.map (AV.int .i64))[(modI n l.length).toNat]? = some (.int .i64 (pickR l n)) := by
  unfold pickR
  rw [if_neg (fun h => by subst h; simp at h1; omega), List.getD_eq_getElem?_getD, List.getElem?_map, List.getElem?_eq_getElem (by omega)]
  rfl
 refine IdxK.at (k := (modI n l.length).toNat) (by omega) hg rfl ?_
 conv => whnf
 skip
 exact RetK.int rfl
theorem whittlerlaw18_small (p : Pg) (hf : Fit p) (most : Int) : SpecP Tryz.prog 46 [.agg p.cells, .int .i64 most] (fun r => r = .bool (smallB p most)) := by
 refine SpecP.body I_whittlerlaw18_small tabOK Tryz.func46 rfl Tryz.call46 (by show 2 ≤ _; decide) ?_
 conv => whnf
 have hC := check_May p hf
 unfold smallB
 cases hc : chkB p with
 | false =>
   rw [hc] at hC
   repeat' (first | (refine CallK.pure hC (.cons (Sub.refl _) .nil) ?_; rintro _ rfl; conv => whnf) | (refine Br.b (fun _ => ?_) (fun _ => ?_) <;> conv => whnf))
   all_goals first
    | contradiction
    | exact RetK.ff rfl
 | true =>
   rw [hc] at hC
   have hcn := (chk_cnt hc).2.2
   repeat' (first | ((first | (refine CallK.pure hC (.cons (Sub.refl _) .nil) ?_; rintro _ rfl) | (refine CallK.pure (tree_Count p (by omega)) (.cons (Sub.refl _) .nil) ?_; rintro _ rfl)); conv => whnf) | (refine Br.b (fun _ => ?_) (fun _ => ?_) <;> conv => whnf))
   all_goals first
    | contradiction
    | exact RetK.bool (by simp)
open Go.Proofs
theorem stmt_own {p : Pg} (h : chkB p = true) {j : Nat} {f : Pr} (hj : p.procs[j]? = some f) {t : S} (ht : t ∈ flL f.body) : stmtR p t.id = t := by
 have hm := (chk_parts h).1
 have hf := List.mem_of_getElem? hj
 have e4 : (flatU f).map RI.s = flL f.body := fuL_s 1 0 false f.body
 have ex : ∃ x ∈ flatR f, x.s = t := by
  rw [flatR_eq hm hf]
  rw [← e4] at ht
  obtain ⟨x, hx, hs⟩ := List.mem_map.1 ht
  exact ⟨x, hx, hs⟩
 obtain ⟨x, hx, hs⟩ := ex
 unfold stmtR findO
 cases hr : findR p t.id with
 | none =>
   exfalso
   unfold findR at hr
   have h1 := List.findSome?_eq_none_iff.1 hr f hf
   unfold findF at h1
   rw [Option.map_eq_none_iff, List.find?_eq_none] at h1
   exact h1 x hx (by simp [hs])
 | some y =>
   obtain ⟨y, n⟩ := y
   unfold findR at hr
   obtain ⟨g, hg, h1⟩ := List.exists_of_findSome?_eq_some hr
   unfold findF at h1
   rw [Option.map_eq_some_iff] at h1
   obtain ⟨z, h2, h3⟩ := h1
   obtain rfl : z = y := congrArg Prod.fst h3
   obtain ⟨k, hk⟩ := List.mem_iff_getElem?.1 hg
   have h4 := flat_pl h hk (List.mem_of_find?_eq_some h2)
   have h5 : z.s.id = t.id := by simpa using List.find?_some h2
   have h6 := stAt_id h hk h4
   have h7 := stAt_id h hj ht
   rw [h5, h7] at h6
   exact (Option.some.inj h6).symm
open Go.Proofs
theorem aug_ok {p : Pg} (h : chkB p = true) {j : Nat} {f : Pr} (hj : p.procs[j]? = some f) : ∀ s ∈ augRaw (newWay p j f) f, okSt s := fun s hs => by
 unfold augRaw at hs
 rcases List.mem_append.1 hs with hs | hs
 ·rcases List.mem_append.1 hs with hs | hs
  ·exact data_ok h hj s hs
  ·rw [List.mem_singleton.1 hs]
   exact ⟨by decide, by decide⟩
 ·obtain ⟨it, hi, hs⟩ := List.mem_flatMap.1 hs
  exact nextR_ok h hj it hi s hs
theorem it_at {p : Pg} (h : chkB p = true) {j : Nat} {f : Pr} (hj : p.procs[j]? = some f) {it : Item} (hi : it ∈ itsOf p j f) : (sheetOf p).l[(it.s.id - 1).toNat]? = some it := by
 have hb := body_id (chk_parts h).1 hj (its_s hi)
 obtain ⟨it', h1, h2⟩ := sheet_its hj (k := (it.s.id - 1).toNat) (by omega) (by omega)
 have h3 := sheet_id h hj (by omega) (by omega) h1
 rw [h1, it_inj (chk_parts h).1 hj h2 hi (by omega)]
open Go.Proofs
mutual
def onS (b : Bool) : S → S
 | .mk id kind labels name proc x has args thn els => if kind = 4 ∨ (7 ≤ kind ∧ b = false) then .mk 0 3 (if b then labels else []) [] [] (.mk 1 7 [] []) false [] (onL b thn) (onL b els) else .mk id kind (if b then labels else []) name proc x has args (onL b thn) (onL b els)
def onL (b : Bool) : List S → List S
 | [] => []
 | t :: r => onS b t :: onL b r
end
theorem onS_eq (b : Bool) (t : S) : onS b t = if t.kind = 4 ∨ (7 ≤ t.kind ∧ b = false) then .mk 0 3 (if b then t.labels else []) [] [] (.mk 1 7 [] []) false [] (onL b t.thn) (onL b t.els) else .mk t.id t.kind (if b then t.labels else []) t.name t.proc t.x t.has t.args (onL b t.thn) (onL b t.els) := by
 cases t
 rw [onS]
 rfl
theorem onL_map (b : Bool) : ∀ l : List S, onL b l = l.map (onS b)
 | [] => by rw [onL]; rfl
 | t :: r => by rw [onL, onL_map b r]; rfl
theorem whittlerref3_only (b : Bool) : ∀ (k : Nat) (l : List S) (_ : cntL l < k) (_ : cntL l ≤ 1000000) (_ : ∀ t ∈ flL l, okC t), SpecP Tryz.prog 113 [eSs l, .bool b] (fun r => r = eSs (onL b l)) := by
 intro k
 induction k with
 | zero => intro l h; omega
 | succ k ih =>
   intro l hk hn hok
   have hsl : (S.avs l).length = l.length := by rw [S.avs_eq, List.length_map]
   have hcl := cntL_len l
   refine SpecP.body I_whittlerref3_only tabOK Tryz.func113 rfl Tryz.call113 (by show 2 ≤ _; decide) ?_
   conv => whnf
   repeat' (first | ((first | (intro (_ : _ ≤ 9223372036854775807)) | (refine DrawK.auto tabOK mixed (by kernel_rfl) ?_) | (refine And.intro rfl ?_) | (refine And.intro ⟨by decide, by decide⟩ ?_) | (refine And.intro ⟨rfl, rfl, by decide⟩ ?_) | (refine BsK.pure (fun x hx => by rcases List.mem_singleton.1 hx with rfl; rfl) rfl ?_) | (refine IdxK.map (by omega) (fun _ => rfl) ?_) | (refine IdxK.xs (by omega) ?_) | (refine IdxK.ss (by omega) ?_) | (refine ByteK.at (by omega) ?_) | (refine Wr.i64 (by omega) (by omega) ?_)); conv => whnf) | (refine Br.dec (fun _ => ?_) (fun _ => ?_) <;> first | (exfalso; omega) | conv => whnf) | (refine Br.dec2 (fun _ => ?_) (fun _ => ?_) <;> first | (exfalso; omega) | conv => whnf) | (refine Br.n (fun _ => ?_) (fun _ => ?_) <;> conv => whnf) | (refine Br.b (fun _ => ?_) (fun _ => ?_) <;> conv => whnf))
   refine LoopK.inv tabOK (fun j : Nat => ⟨[(1, .p (.bool b)), (5, .hd 0 0 j), (9, .p (eSs l)), (10, .p (.int .i64 (S.avs l).length)), (11, .p (.int .i64 j))], [(0, .own 59 13 (S.avs ((onL b l).take j)))]⟩) (fun j => j ≤ l.length) (fun j => l.length - j) 0
    (Le.mk [(0, .own 59 13 [])] (by simp [Chunk.new0]; rfl) (by simp) (by simp) (.cons (.refl _) (.cons (.nil List.mem_cons_self) (.cons (.refl _) (.cons (.refl _) (.cons (.refl _) .nil))))) (.new List.mem_cons_self .nil)) (Nat.zero_le _) ?_
   intro j h2
   rcases Nat.lt_or_ge j l.length with hj | hj
   ·have htm := cntL_mem (List.getElem_mem hj)
    have hcs := cntS_eq l[j]
    have hself := hok _ (flL_self l _ (List.getElem_mem hj))
    have hsub : ∀ t, t ∈ flL l[j].thn ∨ t ∈ flL l[j].els → okC t := fun t ht => hok t (by
     have : t ∈ flS l[j] := by
      rw [flS_eq]
      exact List.mem_cons_of_mem _ (List.mem_append.2 ht)
     have key : ∀ (m : List S) (i : Nat) (h : i < m.length), t ∈ flS m[i] → t ∈ flL m := fun m => by
      induction m with
      | nil => intro i h; simp at h
      | cons a r ih =>
        intro i h ht
        rw [flL]
        cases i with
        | zero => exact List.mem_append.2 (.inl ht)
        | succ i => exact List.mem_append.2 (.inr (ih i (by simpa using h) ht))
     exact key l j hj this)
    have h5 := whittlerref3_copyOne l[j] hself.1 hself.2.1 hself.2.2.1 hself.2.2.2
    have h6 := ih l[j].thn (by omega) (by omega) fun t ht => hsub t (.inl ht)
    have h7 := ih l[j].els (by omega) (by omega) fun t ht => hsub t (.inr ht)
    have hacl : j = (S.avs ((onL b l).take j)).length := by rw [S.avs_eq, List.length_map, List.length_take, onL_map, List.length_map]; omega
    have hav : S.avs ((onL b l).take (j + 1)) = S.avs ((onL b l).take j) ++ [.agg (onS b l[j]).cells] := by
     rw [S.avs_eq, S.avs_eq, onL_map, List.take_add_one, List.getElem?_map, List.getElem?_eq_getElem hj, List.map_append]
     rfl
    generalize S.avs ((onL b l).take j) = acc at hacl hav ⊢
    cases b with
    | true =>
      conv => whnf
      repeat' (first | ((first | (intro (_ : _ ≤ 9223372036854775807)) | (refine DrawK.auto tabOK mixed (by kernel_rfl) ?_) | (refine And.intro rfl ?_) | (refine And.intro ⟨by decide, by decide⟩ ?_) | (refine And.intro ⟨rfl, rfl, by decide⟩ ?_) | (refine BsK.pure (fun x hx => by rcases List.mem_singleton.1 hx with rfl; rfl) rfl ?_) | (refine IdxK.map (by omega) (fun _ => rfl) ?_) | (refine IdxK.xs (by omega) ?_) | (refine IdxK.ss (by omega) ?_) | (refine ByteK.at (by omega) ?_) | (refine Wr.i64 (by omega) (by omega) ?_) | (refine CallK.pure (whittlerref3_texts l[j].labels hself.2.1) (.cons (Sub.refl _) .nil) ?_; rintro _ rfl) | (refine CallK.pure (whittlerref3_num 7) (.cons (Sub.refl _) .nil) ?_; rintro _ rfl) | (refine CallK.pure h5 (.cons (Sub.refl _) .nil) ?_; rintro _ rfl) | (refine CallK.pure h6 (.cons (Sub.refl _) (.cons (by first | exact Sub.refl _ | exact Sub.tt rfl | exact Sub.ff rfl) .nil)) ?_; rintro _ rfl) | (refine CallK.pure h7 (.cons (Sub.refl _) (.cons (by first | exact Sub.refl _ | exact Sub.tt rfl | exact Sub.ff rfl) .nil)) ?_; rintro _ rfl) | (refine AppK.mk hacl rfl (by show (j+1) * 208 ≤ 140737488355328; omega) (by show j+1 ≤ 9223372036854775807; omega) (fun x hx => by rcases List.mem_singleton.1 hx with rfl; exact ⟨rfl, rfl⟩) ?_)); conv => whnf) | (refine Br.dec (fun _ => ?_) (fun _ => ?_) <;> first | (exfalso; omega) | conv => whnf) | (refine Br.dec2 (fun _ => ?_) (fun _ => ?_) <;> first | (exfalso; omega) | conv => whnf) | (refine Br.n (fun _ => ?_) (fun _ => ?_) <;> conv => whnf) | (refine Br.b (fun _ => ?_) (fun _ => ?_) <;> conv => whnf))
      all_goals try contradiction
      all_goals first
       | (have e := (onS_eq true l[j]).trans (if_pos (by first | exact .inl (by assumption) | exact .inr ⟨by omega, rfl⟩))
          exact ⟨j + 1, hj, by omega, (Le.els (.els (ElS.snoc (ElS.refl acc) (x' := .agg (onS true l[j]).cells) (by rw [e]; rfl) (fun i c' hc => by
          rw [e] at hc
          match i, hc with
          | 0, hc => cases hc; exact ⟨_, rfl, by first | exact Sub.refl _ | exact Sub.nils | exact Sub.ff rfl⟩
          | 1, hc => cases hc; exact ⟨_, rfl, by first | exact Sub.refl _ | exact Sub.nils | exact Sub.ff rfl⟩
          | 2, hc => cases hc; exact ⟨_, rfl, by first | exact Sub.refl _ | exact Sub.nils | exact Sub.ff rfl⟩
          | 3, hc => cases hc; exact ⟨_, rfl, by first | exact Sub.refl _ | exact Sub.nils | exact Sub.ff rfl⟩
          | 4, hc => cases hc; exact ⟨_, rfl, by first | exact Sub.refl _ | exact Sub.nils | exact Sub.ff rfl⟩
          | 5, hc => cases hc; exact ⟨_, rfl, by first | exact Sub.refl _ | exact Sub.nils | exact Sub.ff rfl⟩
          | 6, hc => cases hc; exact ⟨_, rfl, by first | exact Sub.refl _ | exact Sub.nils | exact Sub.ff rfl⟩
          | 7, hc => cases hc; exact ⟨_, rfl, by first | exact Sub.refl _ | exact Sub.nils | exact Sub.ff rfl⟩
          | 8, hc => cases hc; exact ⟨_, rfl, by first | exact Sub.refl _ | exact Sub.nils | exact Sub.ff rfl⟩
          | 9, hc => cases hc; exact ⟨_, rfl, by first | exact Sub.refl _ | exact Sub.nils | exact Sub.ff rfl⟩
          | 10, hc => cases hc; exact ⟨_, rfl, by first | exact Sub.refl _ | exact Sub.nils | exact Sub.ff rfl⟩
          | 11, hc => cases hc; exact ⟨_, rfl, by first | exact Sub.refl _ | exact Sub.nils | exact Sub.ff rfl⟩
          | 12, hc => cases hc; exact ⟨_, rfl, by first | exact Sub.refl _ | exact Sub.nils | exact Sub.ff rfl⟩
          | i + 13, hc => simp [AV.cells, S.cells] at hc)) .nil)).trans (Le.of_eq (by rw [hav]; rfl))⟩)
       | (have e := (onS_eq true l[j]).trans (if_neg (by rintro (h | ⟨h, h'⟩) <;> first | contradiction | omega))
          exact ⟨j + 1, hj, by omega, (Le.els (.els (ElS.snoc (ElS.refl acc) (x' := .agg (onS true l[j]).cells) (by rw [e]; rfl) (fun i c' hc => by
          rw [e] at hc
          match i, hc with
          | 0, hc => cases hc; exact ⟨_, rfl, by first | exact Sub.refl _ | exact Sub.nils | exact Sub.ff rfl⟩
          | 1, hc => cases hc; exact ⟨_, rfl, by first | exact Sub.refl _ | exact Sub.nils | exact Sub.ff rfl⟩
          | 2, hc => cases hc; exact ⟨_, rfl, by first | exact Sub.refl _ | exact Sub.nils | exact Sub.ff rfl⟩
          | 3, hc => cases hc; exact ⟨_, rfl, by first | exact Sub.refl _ | exact Sub.nils | exact Sub.ff rfl⟩
          | 4, hc => cases hc; exact ⟨_, rfl, by first | exact Sub.refl _ | exact Sub.nils | exact Sub.ff rfl⟩
          | 5, hc => cases hc; exact ⟨_, rfl, by first | exact Sub.refl _ | exact Sub.nils | exact Sub.ff rfl⟩
          | 6, hc => cases hc; exact ⟨_, rfl, by first | exact Sub.refl _ | exact Sub.nils | exact Sub.ff rfl⟩
          | 7, hc => cases hc; exact ⟨_, rfl, by first | exact Sub.refl _ | exact Sub.nils | exact Sub.ff rfl⟩
          | 8, hc => cases hc; exact ⟨_, rfl, by first | exact Sub.refl _ | exact Sub.nils | exact Sub.ff rfl⟩
          | 9, hc => cases hc; exact ⟨_, rfl, by first | exact Sub.refl _ | exact Sub.nils | exact Sub.ff rfl⟩
          | 10, hc => cases hc; exact ⟨_, rfl, by first | exact Sub.refl _ | exact Sub.nils | exact Sub.ff rfl⟩
          | 11, hc => cases hc; exact ⟨_, rfl, by first | exact Sub.refl _ | exact Sub.nils | exact Sub.ff rfl⟩
          | 12, hc => cases hc; exact ⟨_, rfl, by first | exact Sub.refl _ | exact Sub.nils | exact Sub.ff rfl⟩
          | i + 13, hc => simp [AV.cells, S.cells] at hc)) .nil)).trans (Le.of_eq (by rw [hav]; rfl))⟩)
       | trace_state
    | false =>
      conv => whnf
      repeat' (first | ((first | (intro (_ : _ ≤ 9223372036854775807)) | (refine DrawK.auto tabOK mixed (by kernel_rfl) ?_) | (refine And.intro rfl ?_) | (refine And.intro ⟨by decide, by decide⟩ ?_) | (refine And.intro ⟨rfl, rfl, by decide⟩ ?_) | (refine BsK.pure (fun x hx => by rcases List.mem_singleton.1 hx with rfl; rfl) rfl ?_) | (refine IdxK.map (by omega) (fun _ => rfl) ?_) | (refine IdxK.xs (by omega) ?_) | (refine IdxK.ss (by omega) ?_) | (refine ByteK.at (by omega) ?_) | (refine Wr.i64 (by omega) (by omega) ?_) | (refine CallK.pure (whittlerref3_texts l[j].labels hself.2.1) (.cons (Sub.refl _) .nil) ?_; rintro _ rfl) | (refine CallK.pure (whittlerref3_num 7) (.cons (Sub.refl _) .nil) ?_; rintro _ rfl) | (refine CallK.pure h5 (.cons (Sub.refl _) .nil) ?_; rintro _ rfl) | (refine CallK.pure h6 (.cons (Sub.refl _) (.cons (by first | exact Sub.refl _ | exact Sub.tt rfl | exact Sub.ff rfl) .nil)) ?_; rintro _ rfl) | (refine CallK.pure h7 (.cons (Sub.refl _) (.cons (by first | exact Sub.refl _ | exact Sub.tt rfl | exact Sub.ff rfl) .nil)) ?_; rintro _ rfl) | (refine AppK.mk hacl rfl (by show (j+1) * 208 ≤ 140737488355328; omega) (by show j+1 ≤ 9223372036854775807; omega) (fun x hx => by rcases List.mem_singleton.1 hx with rfl; exact ⟨rfl, rfl⟩) ?_)); conv => whnf) | (refine Br.dec (fun _ => ?_) (fun _ => ?_) <;> first | (exfalso; omega) | conv => whnf) | (refine Br.dec2 (fun _ => ?_) (fun _ => ?_) <;> first | (exfalso; omega) | conv => whnf) | (refine Br.n (fun _ => ?_) (fun _ => ?_) <;> conv => whnf) | (refine Br.b (fun _ => ?_) (fun _ => ?_) <;> conv => whnf))
      all_goals try contradiction
      all_goals first
       | (have e := (onS_eq false l[j]).trans (if_pos (by first | exact .inl (by assumption) | exact .inr ⟨by omega, rfl⟩))
          exact ⟨j + 1, hj, by omega, (Le.els (.els (ElS.snoc (ElS.refl acc) (x' := .agg (onS false l[j]).cells) (by rw [e]; rfl) (fun i c' hc => by
          rw [e] at hc
          match i, hc with
          | 0, hc => cases hc; exact ⟨_, rfl, by first | exact Sub.refl _ | exact Sub.nils | exact Sub.ff rfl⟩
          | 1, hc => cases hc; exact ⟨_, rfl, by first | exact Sub.refl _ | exact Sub.nils | exact Sub.ff rfl⟩
          | 2, hc => cases hc; exact ⟨_, rfl, by first | exact Sub.refl _ | exact Sub.nils | exact Sub.ff rfl⟩
          | 3, hc => cases hc; exact ⟨_, rfl, by first | exact Sub.refl _ | exact Sub.nils | exact Sub.ff rfl⟩
          | 4, hc => cases hc; exact ⟨_, rfl, by first | exact Sub.refl _ | exact Sub.nils | exact Sub.ff rfl⟩
          | 5, hc => cases hc; exact ⟨_, rfl, by first | exact Sub.refl _ | exact Sub.nils | exact Sub.ff rfl⟩
          | 6, hc => cases hc; exact ⟨_, rfl, by first | exact Sub.refl _ | exact Sub.nils | exact Sub.ff rfl⟩
          | 7, hc => cases hc; exact ⟨_, rfl, by first | exact Sub.refl _ | exact Sub.nils | exact Sub.ff rfl⟩
          | 8, hc => cases hc; exact ⟨_, rfl, by first | exact Sub.refl _ | exact Sub.nils | exact Sub.ff rfl⟩
          | 9, hc => cases hc; exact ⟨_, rfl, by first | exact Sub.refl _ | exact Sub.nils | exact Sub.ff rfl⟩
          | 10, hc => cases hc; exact ⟨_, rfl, by first | exact Sub.refl _ | exact Sub.nils | exact Sub.ff rfl⟩
          | 11, hc => cases hc; exact ⟨_, rfl, by first | exact Sub.refl _ | exact Sub.nils | exact Sub.ff rfl⟩
          | 12, hc => cases hc; exact ⟨_, rfl, by first | exact Sub.refl _ | exact Sub.nils | exact Sub.ff rfl⟩
          | i + 13, hc => simp [AV.cells, S.cells] at hc)) .nil)).trans (Le.of_eq (by rw [hav]; rfl))⟩)
       | (have e := (onS_eq false l[j]).trans (if_neg (by rintro (h | ⟨h, h'⟩) <;> first | contradiction | omega))
          exact ⟨j + 1, hj, by omega, (Le.els (.els (ElS.snoc (ElS.refl acc) (x' := .agg (onS false l[j]).cells) (by rw [e]; rfl) (fun i c' hc => by
          rw [e] at hc
          match i, hc with
          | 0, hc => cases hc; exact ⟨_, rfl, by first | exact Sub.refl _ | exact Sub.nils | exact Sub.ff rfl⟩
          | 1, hc => cases hc; exact ⟨_, rfl, by first | exact Sub.refl _ | exact Sub.nils | exact Sub.ff rfl⟩
          | 2, hc => cases hc; exact ⟨_, rfl, by first | exact Sub.refl _ | exact Sub.nils | exact Sub.ff rfl⟩
          | 3, hc => cases hc; exact ⟨_, rfl, by first | exact Sub.refl _ | exact Sub.nils | exact Sub.ff rfl⟩
          | 4, hc => cases hc; exact ⟨_, rfl, by first | exact Sub.refl _ | exact Sub.nils | exact Sub.ff rfl⟩
          | 5, hc => cases hc; exact ⟨_, rfl, by first | exact Sub.refl _ | exact Sub.nils | exact Sub.ff rfl⟩
          | 6, hc => cases hc; exact ⟨_, rfl, by first | exact Sub.refl _ | exact Sub.nils | exact Sub.ff rfl⟩
          | 7, hc => cases hc; exact ⟨_, rfl, by first | exact Sub.refl _ | exact Sub.nils | exact Sub.ff rfl⟩
          | 8, hc => cases hc; exact ⟨_, rfl, by first | exact Sub.refl _ | exact Sub.nils | exact Sub.ff rfl⟩
          | 9, hc => cases hc; exact ⟨_, rfl, by first | exact Sub.refl _ | exact Sub.nils | exact Sub.ff rfl⟩
          | 10, hc => cases hc; exact ⟨_, rfl, by first | exact Sub.refl _ | exact Sub.nils | exact Sub.ff rfl⟩
          | 11, hc => cases hc; exact ⟨_, rfl, by first | exact Sub.refl _ | exact Sub.nils | exact Sub.ff rfl⟩
          | 12, hc => cases hc; exact ⟨_, rfl, by first | exact Sub.refl _ | exact Sub.nils | exact Sub.ff rfl⟩
          | i + 13, hc => simp [AV.cells, S.cells] at hc)) .nil)).trans (Le.of_eq (by rw [hav]; rfl))⟩)
       | trace_state
   ·have hall : (onL b l).take j = onL b l := List.take_of_length_le (by rw [onL_map, List.length_map]; exact hj)
    have hjl : j = (S.avs (onL b l)).length := by rw [S.avs_eq, List.length_map, onL_map, List.length_map]; omega
    rw [hall]
    conv => whnf
    repeat' (first | ((first | (intro (_ : _ ≤ 9223372036854775807)) | (refine DrawK.auto tabOK mixed (by kernel_rfl) ?_) | (refine And.intro rfl ?_) | (refine And.intro ⟨by decide, by decide⟩ ?_) | (refine And.intro ⟨rfl, rfl, by decide⟩ ?_) | (refine BsK.pure (fun x hx => by rcases List.mem_singleton.1 hx with rfl; rfl) rfl ?_) | (refine IdxK.map (by omega) (fun _ => rfl) ?_) | (refine IdxK.xs (by omega) ?_) | (refine IdxK.ss (by omega) ?_) | (refine ByteK.at (by omega) ?_) | (refine Wr.i64 (by omega) (by omega) ?_)); conv => whnf) | (refine Br.dec (fun _ => ?_) (fun _ => ?_) <;> first | (exfalso; omega) | conv => whnf) | (refine Br.dec2 (fun _ => ?_) (fun _ => ?_) <;> first | (exfalso; omega) | conv => whnf) | (refine Br.n (fun _ => ?_) (fun _ => ?_) <;> conv => whnf) | (refine Br.b (fun _ => ?_) (fun _ => ?_) <;> conv => whnf))
    exact ⟨_, .hd rfl hjl, rfl⟩
open Go.Proofs
structure Ren (a b : Str) : Prop where
 na : isName a = true
 nb : isName b = true
 ma : a ≠ mainS
 mb : b ≠ mainS
theorem name_ne {s : Str} (h : isName s = true) : s ≠ [] := fun he => by
 subst he
 unfold isName at h
 rw [dif_neg (by simp)] at h
 cases h
theorem Ren.nil {a b : Str} (h : Ren a b) : otherS a b [] = [] := by
 unfold otherS
 rw [if_neg (by simpa using fun e => name_ne h.na e), if_neg (by simpa using fun e => name_ne h.nb e)]
theorem Ren.name {a b : Str} (h : Ren a b) (s : Str) : isName (otherS a b s) = isName s := by
 unfold otherS
 by_cases h1 : s = a
 ·subst h1
  simp [h.na, h.nb]
 ·rw [if_neg (by simpa using h1)]
  by_cases h2 : s = b
  ·subst h2
   simp [h.na, h.nb]
  ·rw [if_neg (by simpa using h2)]
open Go.Proofs
open Go.Proofs
def onPr (b : Bool) (f : Pr) : Pr := ⟨f.name, f.params, f.vars, onL b f.body, if b then f.fin else []⟩
def nmPrs (n : Nat) : List Pr → List Pr
 | [] => []
 | f :: r => ⟨f.name, f.params, f.vars, nmL n f.body, f.fin⟩ :: nmPrs (n + cntL f.body) r
def nmPg (p : Pg) : Pg := ⟨p.globals, nmPrs 0 p.procs⟩
def onlyRaw (b : Bool) (p : Pg) : Pg := ⟨p.globals, (p.procs.filter fun f => f.name == mainS).map (onPr b)⟩
def onlyPg (b : Bool) (p : Pg) : Pg := nmPg (onlyRaw b p)
def gOf (b : Bool) (f : Pr) : Pr := ⟨f.name, f.params, f.vars, nmL 0 (onL b f.body), if b then f.fin else []⟩
theorem main_one {p : Pg} (h : chkB p = true) : ∃ (k : Nat) (f : Pr), p.procs[k]? = some f ∧ p.procs.filter (fun f => f.name == mainS) = [f] ∧ f.name = mainS ∧ f.params = [] := by
 obtain ⟨hm, hs, _⟩ := chk_parts h
 obtain ⟨_, hb, _⟩ := scope_ok hs
 unfold mainBad at hb
 simp only [Bool.or_eq_false_iff, Bool.not_eq_false'] at hb
 obtain ⟨_, h2, h3, h4⟩ := hb
 have hnd := twice_no h2
 obtain ⟨k, hk, h5, h6⟩ := main_idx h3
 have h7 := List.find?_some h6
 have hn : p.procs[k].name = mainS := by
  have : mainS = p.procs[k].name := by simpa using h7
  exact this.symm
 rw [h6] at h4
 have hp : p.procs[k].params = [] := List.eq_nil_of_length_eq_zero (by simpa using h4)
 refine ⟨k, p.procs[k], List.getElem?_eq_getElem hk, ?_, hn, hp⟩
 have key : ∀ (l : List Pr), (l.map Pr.name).Nodup → ∀ f ∈ l, f.name = mainS → l.filter (fun f => f.name == mainS) = [f] := fun l => by
  induction l with
  | nil => intro _ f hf; cases hf
  | cons g r ih =>
    intro hnd f hf hfn
    rw [List.map_cons, List.nodup_cons] at hnd
    rcases List.mem_cons.1 hf with rfl | hf
    ·rw [List.filter_cons_of_pos (by simp [hfn])]
     congr 1
     rw [List.filter_eq_nil_iff]
     intro g hg he
     exact hnd.1 (by rw [hfn, ← show g.name = mainS by simpa using he]; exact List.mem_map_of_mem hg)
    ·rw [List.filter_cons_of_neg (by
      intro he
      exact hnd.1 (by rw [show g.name = mainS by simpa using he, ← hfn]; exact List.mem_map_of_mem hf))]
     exact ih hnd.2 f hf hfn
 exact key p.procs hnd _ (List.getElem_mem hk) hn
theorem only_eq {p : Pg} {b : Bool} {f : Pr} (h : p.procs.filter (fun f => f.name == mainS) = [f]) : onlyPg b p = ⟨p.globals, [gOf b f]⟩ := by
 unfold onlyPg nmPg onlyRaw
 simp only
 rw [h]
 rfl
mutual
theorem cntS_on (b : Bool) : ∀ t : S, cntS (onS b t) = cntS t
 | .mk id kind labels name proc x has args thn els => by
   rw [onS]
   split
   ·rw [cntS, cntS, cntL_on b thn, cntL_on b els]
   ·rw [cntS, cntS, cntL_on b thn, cntL_on b els]
theorem cntL_on (b : Bool) : ∀ l : List S, cntL (onL b l) = cntL l
 | [] => by rw [onL]
 | t :: r => by rw [onL, cntL, cntL, cntS_on b t, cntL_on b r]
end
structure OnR (s t : S) : Prop where
 labels : t.labels = []
 off : s.kind = 4 ∨ 7 ≤ s.kind → t.kind = 3 ∧ t.name = [] ∧ t.x = .mk 1 7 [] [] ∧ t.args = []
 on : ¬ (s.kind = 4 ∨ 7 ≤ s.kind) → t.kind = s.kind ∧ t.name = s.name ∧ t.x = s.x ∧ t.args = s.args
theorem on_own (s : S) (n : Nat) : OnR s (nmS n (onS false s)) := by
 by_cases hk : s.kind = 4 ∨ 7 ≤ s.kind
 ·have e := (onS_eq false s).trans (if_pos (hk.imp id fun h => ⟨h, rfl⟩))
  rw [e, nmS_eq]
  exact ⟨rfl, fun _ => ⟨rfl, rfl, rfl, rfl⟩, fun h => absurd hk h⟩
 ·have e := (onS_eq false s).trans (if_neg (fun h => hk (h.imp id fun h => h.1)))
  rw [e, nmS_eq]
  exact ⟨rfl, fun h => absurd h hk, fun _ => ⟨rfl, rfl, rfl, rfl⟩⟩
theorem on_thn (s : S) (n : Nat) : (nmS n (onS false s)).thn = nmL (n + 1) (onL false s.thn) ∧ (nmS n (onS false s)).els = nmL (n + 1 + cntL s.thn) (onL false s.els) ∧ (nmS n (onS false s)).id = ((n + 1 : Nat) : Int) := by
 have h : (onS false s).thn = onL false s.thn ∧ (onS false s).els = onL false s.els := by
  rw [onS_eq]
  split <;> exact ⟨rfl, rfl⟩
 rw [nmS_eq, h.1, h.2, cntL_on]
 exact ⟨rfl, rfl, rfl⟩
mutual
theorem onR_S : ∀ (s : S) (n : Nat) (t : S), t ∈ flS (nmS n (onS false s)) → ∃ s' ∈ flS s, OnR s' t
 | .mk id kind labels name proc x has args thn els, n, t, h => by
   obtain ⟨h1, h2, _⟩ := on_thn (.mk id kind labels name proc x has args thn els) n
   rw [flS_eq, h1, h2] at h
   rw [flS]
   rcases List.mem_cons.1 h with rfl | h
   ·exact ⟨_, List.mem_cons_self, on_own _ n⟩
   ·rcases List.mem_append.1 h with h | h
    ·obtain ⟨s', h3, h4⟩ := onR_L thn _ t h
     exact ⟨s', List.mem_cons_of_mem _ (List.mem_append.2 (.inl h3)), h4⟩
    ·obtain ⟨s', h3, h4⟩ := onR_L els _ t h
     exact ⟨s', List.mem_cons_of_mem _ (List.mem_append.2 (.inr h3)), h4⟩
theorem onR_L : ∀ (l : List S) (n : Nat) (t : S), t ∈ flL (nmL n (onL false l)) → ∃ s' ∈ flL l, OnR s' t
 | [], n, t, h => by rw [onL, nmL, flL] at h; cases h
 | s :: r, n, t, h => by
   rw [onL, nmL, flL] at h
   rw [flL]
   rcases List.mem_append.1 h with h | h
   ·obtain ⟨s', h3, h4⟩ := onR_S s _ t h
    exact ⟨s', List.mem_append.2 (.inl h3), h4⟩
   ·obtain ⟨s', h3, h4⟩ := onR_L r _ t h
    exact ⟨s', List.mem_append.2 (.inr h3), h4⟩
end
theorem on_fields {s : S} (h : oneOk s = true) (n : Nat) : fieldsB (nmS n (onS false s)) = true := by
 have hF := one_facts h
 obtain ⟨h1, h2, _⟩ := on_thn s n
 by_cases hk : s.kind = 4 ∨ 7 ≤ s.kind
 ·have ht : s.thn = [] := List.eq_nil_of_length_eq_zero (by rcases hF.thn with h | h | h <;> omega)
  have he : s.els = [] := List.eq_nil_of_length_eq_zero (by rcases hF.els with h | h <;> omega)
  have e := (onS_eq false s).trans (if_pos (hk.imp id fun h => ⟨h, rfl⟩))
  rw [e, nmS_eq, ht, he]
  rfl
 ·have hf : fieldsB s = true := by
   unfold oneOk at h
   exact (Bool.and_eq_true_iff.1 h).1
  have e := (onS_eq false s).trans (if_neg (fun h => hk (h.imp id fun h => h.1)))
  have hl1 : (nmS n (onS false s)).thn.length = s.thn.length := by rw [h1, nmL_len, onL_map, List.length_map]
  have hl2 : (nmS n (onS false s)).els.length = s.els.length := by rw [h2, nmL_len, onL_map, List.length_map]
  have e2 : fieldsB (nmS n (onS false s)) = fieldsB s := by
   unfold fieldsB
   rw [hl1, hl2]
   rw [e, nmS_eq]
   rfl
  rw [e2, hf]
mutual
theorem rowS_on : ∀ (s : S) {nest seen m : Int} (n : Nat), rowS nest seen s = some m → n + cntS s ≤ 200 → rowS nest n (nmS n (onS false s)) = some ((n + cntS s : Nat) : Int)
 | .mk id kind labels name proc x has args thn els, nest, seen, m, n, h, hn => by
   obtain ⟨h1, _, m1, h3, h4⟩ := rowS_parts h
   obtain ⟨e1, e2, e3⟩ := on_thn (.mk id kind labels name proc x has args thn els) n
   have hc : cntS (.mk id kind labels name proc x has args thn els) = 1 + cntL thn + cntL els := by rw [cntS]
   rw [hc] at hn
   have q1 := rowL_on thn (n + 1) h3 (by omega)
   have q2 := rowL_on els (n + 1 + cntL thn) h4 (by omega)
   rw [rowS_eq, if_neg (by omega), if_neg (by rw [e3]; omega), (on_own _ n).labels, on_fields h1, e1, e2]
   show (bif true then bif true then (match rowL (nest + 1) ((n : Int) + 1) (nmL (n + 1) (onL false thn)) with | some m => rowL (nest + 1) m (nmL (n + 1 + cntL thn) (onL false els)) | none => none) else none else none) = _
   rw [show ((n : Int) + 1) = ((n + 1 : Nat) : Int) by omega, q1]
   show rowL (nest + 1) ((n + 1 + cntL thn : Nat) : Int) _ = _
   rw [q2, hc]
   congr 2
   omega
theorem rowL_on : ∀ (l : List S) {nest seen m : Int} (n : Nat), rowL nest seen l = some m → n + cntL l ≤ 200 → rowL nest n (nmL n (onL false l)) = some ((n + cntL l : Nat) : Int)
 | [], nest, seen, m, n, h, hn => by rw [onL, nmL, rowL, cntL]; rfl
 | s :: r, nest, seen, m, n, h, hn => by
   obtain ⟨h1, m1, h2, h3⟩ := rowL_parts h
   have hc : cntL (s :: r) = cntS s + cntL r := by rw [cntL]
   rw [hc] at hn
   have q1 := rowS_on s n h2 (by omega)
   have q2 := rowL_on r (n + cntS s) h3 (by omega)
   rw [onL, nmL, rowL, if_neg (by omega), q1, cntS_on]
   show rowL nest ((n + cntS s : Nat) : Int) _ = _
   rw [q2, hc]
   congr 2
   omega
end
section
variable {p : Pg} {k : Nat} {f : Pr}
theorem g_flat {t : S} (ht : t ∈ flL (gOf false f).body) : ∃ s ∈ flL f.body, OnR s t := onR_L f.body 0 t ht
theorem OnR.kind {s t : S} (h : OnR s t) : t.kind ≠ 4 ∧ t.kind < 7 := by
 by_cases hk : s.kind = 4 ∨ 7 ≤ s.kind
 ·have := (h.off hk).1
  omega
 ·have := (h.on hk).1
  omega
theorem g_names {s t : S} (h : OnR s t) {v : Str} (hv : v ∈ namesT t) : v ∈ namesT s := by
 by_cases hk : s.kind = 4 ∨ 7 ≤ s.kind
 ·obtain ⟨h1, h2, h3, h4⟩ := h.off hk
  unfold namesT namesH at hv
  rw [h1, h2, h3, h4] at hv
  exact absurd hv (by
   have : namesX (.mk 1 7 [] []) = [] := rfl
   rw [this]
   simp)
 ·obtain ⟨h1, h2, h3, h4⟩ := h.on hk
  unfold namesT namesH at hv ⊢
  rwa [h1, h2, h3, h4] at hv
theorem g_may (h : chkB p = true) (hj : p.procs[k]? = some f) : mayB ⟨p.globals, [gOf false f]⟩ = true := by
 obtain ⟨hm, _⟩ := chk_parts h
 obtain ⟨h1, h2, h3, h4⟩ := mayB_parts hm
 obtain ⟨_, _, hcn⟩ := chk_cnt h
 have hmem : f ∈ p.procs := List.mem_of_getElem? hj
 obtain ⟨h5, a, b, h6⟩ := h4 f hmem
 have hc := cntP_mem _ _ hmem
 have q := rowL_on f.body (nest := 1) 0 h6 (by omega)
 obtain ⟨g1, g2, g3, g4, _, g6⟩ := mayPr_iff.1 h5
 have g7 : mayPr (gOf false f) = true := mayPr_iff.2 ⟨g1, g2, g3, g4, rfl, g6⟩
 have e : mayPrs 0 [gOf false f] = some ((0 + cntL f.body : Nat) : Int) := by
  rw [mayPrs, g7, cond_true, show (gOf false f).body = nmL 0 (onL false f.body) from rfl]
  rw [show rowL 1 0 (nmL 0 (onL false f.body)) = some ((0 + cntL f.body : Nat) : Int) from q]
  rfl
 unfold mayB
 simp only
 rw [e, h3]
 simp [h1]
theorem scopeAt_no (h : chkB p = true) (hj : p.procs[k]? = some f) : scopeAt p f = none := by
 obtain ⟨_, hs, _⟩ := chk_parts h
 exact List.findSome?_eq_none_iff.1 (scope_ok hs).2.2 f (List.mem_of_getElem? hj)
theorem g_scope (h : chkB p = true) (hj : p.procs[k]? = some f) (hn : f.name = mainS) (hp : f.params = []) : (scopeB ⟨p.globals, [gOf false f]⟩).1 = 0 := by
 obtain ⟨hm, hs, _⟩ := chk_parts h
 obtain ⟨_, hb, _⟩ := scope_ok hs
 have hgl : twiceB p.globals = false := by
  unfold mainBad at hb
  simp only [Bool.or_eq_false_iff] at hb
  exact hb.1
 have hmb : mainBad ⟨p.globals, [gOf false f]⟩ = false := by
  unfold mainBad procsN
  simp only [List.map_cons, List.map_nil]
  rw [hgl, show (gOf false f).name = mainS from hn]
  rw [show ([gOf false f].find? fun f => mainS == f.name) = some (gOf false f) by
   rw [List.find?_cons, show (mainS == (gOf false f).name) = true by rw [show (gOf false f).name = mainS from hn]; simp]]
  simp only
  rw [show (gOf false f).params = [] from hp]
  rfl
 have hat := scopeAt_no h hj
 have hat2 : scopeAt ⟨p.globals, [gOf false f]⟩ (gOf false f) = none := by
  unfold scopeAt at hat ⊢
  have e : ownL (gOf false f) = ownL f := rfl
  rw [e]
  cases hc : twiceB (ownL f) || (ownL f).any fun n => p.globals.any fun s => n == s with
  | true => rw [hc] at hat; cases hat
  | false =>
    rw [hc, cond_false] at hat
    rw [cond_false]
    rw [Option.map_eq_none_iff, List.find?_eq_none] at hat ⊢
    intro t ht
    obtain ⟨s, hs1, hs2⟩ := g_flat ht
    have h3 := hat s hs1
    simp only [Bool.not_eq_true, Bool.not_eq_false'] at h3 ⊢
    unfold knownB at h3 ⊢
    rw [Bool.and_eq_true] at h3 ⊢
    refine ⟨?_, by rw [decide_eq_true hs2.kind.1]; rfl⟩
    rw [List.all_eq_true]
    intro v hv
    exact List.all_eq_true.1 h3.1 v (g_names hs2 hv)
 unfold scopeB
 rw [g_may h hj, hmb]
 simp only [cond_true, cond_false, List.findSome?_cons, hat2, List.findSome?_nil]
theorem g_nocall {t : S} (ht : t ∈ stmts ⟨p.globals, [gOf false f]⟩) : t.kind ≠ 4 := by
 unfold stmts at ht
 simp only [List.flatMap_cons, List.flatMap_nil, List.append_nil] at ht
 obtain ⟨s, _, hs⟩ := g_flat ht
 exact hs.kind.1
theorem g_arity (h : chkB p = true) (hj : p.procs[k]? = some f) (hn : f.name = mainS) (hp : f.params = []) : (arityB ⟨p.globals, [gOf false f]⟩).1 = 0 := by
 unfold arityB
 rw [if_neg (by rw [g_scope h hj hn hp]; omega)]
 rw [List.find?_eq_none.2 (fun t ht => by rw [decide_eq_false (g_nocall ht)]; simp)]
theorem jumpR_ok {g : Pr} : ∀ (l : List Item), (∀ it ∈ l, it.s.labels = [] ∧ it.s.kind < 7) → jumpR g l [] = .ok []
 | [], _ => rfl
 | it :: r, h => by
   obtain ⟨h1, h2⟩ := h it List.mem_cons_self
   rw [jumpR, h1]
   simp only [joinO]
   have : leadsB g it = true := by
    unfold leadsB
    rw [if_neg (by omega), if_neg (by omega)]
   rw [this, cond_true]
   exact jumpR_ok r fun x hx => h x (List.mem_cons_of_mem _ hx)
theorem g_jump (h : chkB p = true) (hj : p.procs[k]? = some f) (hn : f.name = mainS) (hp : f.params = []) : (jumpB ⟨p.globals, [gOf false f]⟩).1 = 0 := by
 unfold jumpB
 rw [if_neg (by rw [g_scope h hj hn hp]; omega)]
 have e : jumpAt ⟨p.globals, [gOf false f]⟩ 0 = none := by
  unfold jumpAt
  simp only [List.getElem?_cons_zero]
  rw [jumpR_ok _ fun it hi => by
   have hm : it.s ∈ flL (gOf false f).body := by
    rw [← itL_s ((0 : Nat) : Int) 0 (-1) 0 (offN [gOf false f] 0)]
    exact List.mem_map_of_mem hi
   obtain ⟨s, _, hs⟩ := g_flat hm
   exact ⟨hs.labels, hs.kind.2⟩]
  rfl
 rw [show List.range (Pg.procs ⟨p.globals, [gOf false f]⟩).length = [0] from rfl]
 simp only [List.findSome?_cons, e, List.findSome?_nil]
theorem g_chk (h : chkB p = true) (hj : p.procs[k]? = some f) (hn : f.name = mainS) (hp : f.params = []) : chkB ⟨p.globals, [gOf false f]⟩ = true := by
 have ha : (aliasB ⟨p.globals, [gOf false f]⟩).1 = 0 := by
  unfold aliasB
  rw [if_neg (by rw [g_arity h hj hn hp]; omega)]
  rw [List.find?_eq_none.2 (fun t ht => by rw [decide_eq_false (g_nocall ht)]; simp)]
 unfold chkB allB
 rw [if_neg (by rw [g_may h hj]; simp), if_neg (by rw [g_scope h hj hn hp]; omega), if_neg (by rw [g_arity h hj hn hp]; omega), if_neg (by rw [g_jump h hj hn hp]; omega), ha]
 rfl
end
open Go.Proofs
def closedI (sh : Sheet) (f : Pr) (R : Int → Prop) (l : List Item) : Prop := ∀ it ∈ l, R it.s.id → ∀ y ∈ goesI sh f it, R y
theorem closedI.sub {sh : Sheet} {f : Pr} {R : Int → Prop} {l m : List Item} (h : closedI sh f R l) (hs : ∀ x ∈ m, x ∈ l) : closedI sh f R m := fun it hi => h it (hs it hi)
mutual
theorem liveS {sh : Sheet} {f : Pr} {R : Int → Prop} (proc : Int) : ∀ (t : S) {nest m : Int} (up nx lp : Int) (n : Nat), rowS nest n t = some m → (∀ u ∈ flS t, u.kind < 7) → closedI sh f R (itS proc up nx lp n t) → R t.id → (∀ it ∈ itS proc up nx lp n t, R it.s.id) ∧ R nx
 | .mk id kind labels name pr x has args thn els, nest, m, up, nx, lp, n, h, hk, hc, h0 => by
   obtain ⟨h1, hid, m1, h3, h4⟩ := rowS_parts h
   have hF := one_facts h1
   have hid : id = (n : Int) + 1 := hid
   have hm1 := rowL_cnt _ _ thn h3
   rw [itS] at hc ⊢
   have hg : ∀ y ∈ (if kind = 5 then [headI thn nx, headI els nx] else if kind = 6 then [headI thn id, nx] else if kind = 7 then [((sh.l[(lp - 1).toNat]?).map Item.next).getD 0] else if kind = 8 then [lp] else if kind = 9 then [-1] else if kind = 10 then [(atB f name).1] else [nx]), R y := hc _ List.mem_cons_self h0
   have hkt : ∀ u ∈ flL thn, u.kind < 7 := fun u hu => hk u (by rw [flS]; exact List.mem_cons_of_mem _ (List.mem_append.2 (.inl hu)))
   have hke : ∀ u ∈ flL els, u.kind < 7 := fun u hu => hk u (by rw [flS]; exact List.mem_cons_of_mem _ (List.mem_append.2 (.inr hu)))
   have hk0 : kind < 7 := by
    have := hk (.mk id kind labels name pr x has args thn els) (by rw [flS]; exact List.mem_cons_self)
    exact this
   have h3' : rowL (nest + 1) ((n + 1 : Nat) : Int) thn = some m1 := by rw [← h3]; rfl
   have h4' : rowL (nest + 1) ((n + 1 + cntL thn : Nat) : Int) els = some m := by
    rw [← h4, hm1]
    congr 1
   have hct := closedI.sub hc (m := itL proc (n + 1) (if kind = 6 then n + 1 else nx) (if kind = 6 then n + 1 else lp) (n + 1) thn) fun x hx => List.mem_cons_of_mem _ (List.mem_append.2 (.inl hx))
   have hce := closedI.sub hc (m := itL proc (n + 1) (if kind = 6 then n + 1 else nx) (if kind = 6 then n + 1 else lp) (n + 1 + cntL thn) els) fun x hx => List.mem_cons_of_mem _ (List.mem_append.2 (.inr hx))
   have fin : R nx → R (headI thn (if kind = 6 then n + 1 else nx)) → R (headI els (if kind = 6 then n + 1 else nx)) → (∀ it ∈ (⟨.mk id kind labels name pr x has args thn els, proc, up, nx, lp⟩ : Item) :: (itL proc (n + 1) (if kind = 6 then n + 1 else nx) (if kind = 6 then n + 1 else lp) (n + 1) thn ++ itL proc (n + 1) (if kind = 6 then n + 1 else nx) (if kind = 6 then n + 1 else lp) (n + 1 + cntL thn) els), R it.s.id) ∧ R nx := fun hn ht he => by
    have q1 := liveL' proc thn (n + 1) _ _ (n + 1) h3' hkt hct ht
    have q2 := liveL' proc els (n + 1) _ _ (n + 1 + cntL thn) h4' hke hce he
    refine ⟨fun it hi => ?_, hn⟩
    rcases List.mem_cons.1 hi with rfl | hi
    ·exact h0
    ·rcases List.mem_append.1 hi with hi | hi
     ·exact q1.1 it hi
     ·exact q2.1 it hi
   by_cases k5 : kind = 5
   ·rw [if_pos k5] at hg
    have hne : ¬ kind = 6 := by omega
    simp only [if_neg hne] at hct hce fin ⊢
    have a1 := hg _ List.mem_cons_self
    have a2 := hg _ (List.mem_cons_of_mem _ List.mem_cons_self)
    have q1 := liveL' proc thn (n + 1) _ _ (n + 1) h3' hkt hct a1
    exact fin q1.2 a1 a2
   ·rw [if_neg k5] at hg
    have he0 : els = [] := List.eq_nil_of_length_eq_zero (hF.els.resolve_right k5)
    by_cases k6 : kind = 6
    ·rw [if_pos k6] at hg
     simp only [if_pos k6] at hct hce fin ⊢
     have a1 := hg _ List.mem_cons_self
     have a2 := hg _ (List.mem_cons_of_mem _ List.mem_cons_self)
     have e0 : R ((n : Int) + 1) := by rw [← hid]; exact h0
     refine fin a2 ?_ ?_
     ·rw [← hid]; exact a1
     ·rw [he0]; exact e0
    ·rw [if_neg k6, if_neg (by omega), if_neg (by omega), if_neg (by omega), if_neg (by omega)] at hg
     simp only [if_neg k6] at hct hce fin ⊢
     have a1 := hg _ List.mem_cons_self
     have ht0 : thn = [] := List.eq_nil_of_length_eq_zero (by rcases hF.thn with h | h | h; exact h; exact absurd h k5; exact absurd h k6)
     exact fin a1 (by rw [ht0]; exact a1) (by rw [he0]; exact a1)
theorem liveL' {sh : Sheet} {f : Pr} {R : Int → Prop} (proc : Int) : ∀ (l : List S) {nest m : Int} (up nx lp : Int) (n : Nat), rowL nest n l = some m → (∀ u ∈ flL l, u.kind < 7) → closedI sh f R (itL proc up nx lp n l) → R (headI l nx) → (∀ it ∈ itL proc up nx lp n l, R it.s.id) ∧ R nx
 | [], nest, m, up, nx, lp, n, h, hk, hc, h0 => by
   rw [itL]
   exact ⟨fun it hi => (by cases hi), h0⟩
 | t :: r, nest, m, up, nx, lp, n, h, hk, hc, h0 => by
   obtain ⟨_, m1, h1, h2⟩ := rowL_parts h
   have hm1 := rowS_cnt _ _ t h1
   have h2' : rowL nest ((n + cntS t : Nat) : Int) r = some m := by rw [← h2, hm1]; rfl
   rw [itL] at hc ⊢
   have q1 := liveS proc t up _ lp n h1 (fun u hu => hk u (by rw [flL]; exact List.mem_append.2 (.inl hu))) (closedI.sub hc fun x hx => List.mem_append.2 (.inl hx)) h0
   have hr0 : R (headI r nx) := by
    cases r with
    | nil => exact q1.2
    | cons u r =>
      have h3 := q1.2
      obtain ⟨_, m2, h4, _⟩ := rowL_parts h2'
      obtain ⟨_, hid, _⟩ := rowS_parts h4
      rw [if_neg (by simp)] at h3
      show R u.id
      rw [hid]
      have : ((n + cntS t : Nat) : Int) + 1 = (n : Int) + 1 + cntS t := by omega
      rw [this]
      exact h3
   have q2 := liveL' proc r up nx lp (n + cntS t) h2' (fun u hu => hk u (by rw [flL]; exact List.mem_append.2 (.inr hu))) (closedI.sub hc fun x hx => List.mem_append.2 (.inr hx)) hr0
   refine ⟨fun it hi => ?_, q2.2⟩
   rcases List.mem_append.1 hi with hi | hi
   ·exact q1.1 it hi
   ·exact q2.1 it hi
end
theorem mayPrs_row : ∀ (l : List Pr) {n : Nat} {m : Int}, mayPrs n l = some m → ∀ (j : Nat) (f : Pr), l[j]? = some f → ∃ m', rowL 1 ((n + offN l j : Nat) : Int) f.body = some m'
 | [], _, _, _, j, f, hj => by simp at hj
 | g :: r, n, m, h, j, f, hj => by
   rw [mayPrs] at h
   cases hm : mayPr g <;> rw [hm] at h
   ·cases h
   simp only [cond_true] at h
   split at h
   ·rename_i m1 h1
    cases j with
    | zero =>
      cases hj
      exact ⟨m1, h1⟩
    | succ j =>
      have h2 := rowL_cnt _ _ g.body h1
      have h' : mayPrs ((n + cntL g.body : Nat) : Int) r = some m := by rw [← h, h2]; rfl
      obtain ⟨m', h3⟩ := mayPrs_row r h' j f (by simpa using hj)
      exact ⟨m', by rw [← h3, offN]; congr 1; omega⟩
   ·cases h
theorem may_row {p : Pg} (h : mayB p = true) {j : Nat} {f : Pr} (hj : p.procs[j]? = some f) : ∃ m, rowL 1 ((offN p.procs j : Nat) : Int) f.body = some m := by
 unfold mayB at h
 simp only [Bool.and_eq_true] at h
 obtain ⟨m, hm⟩ := Option.isSome_iff_exists.1 h.2
 obtain ⟨m', h'⟩ := mayPrs_row p.procs (n := 0) hm j f hj
 exact ⟨m', by rw [← h']; congr 1; omega⟩
theorem all_live {p : Pg} (h : chkB p = true) {j : Nat} {f : Pr} (hj : p.procs[j]? = some f) (hk : ∀ u ∈ flL f.body, u.kind < 7) : (∀ t ∈ flL f.body, Rch (wR p j f) 0 t.id) ∧ Rch (wR p j f) 0 (-1) := by
 obtain ⟨hm, _⟩ := chk_parts h
 obtain ⟨m, hr⟩ := may_row hm hj
 have hc : closedI (sheetOf p) f (Rch (wR p j f) 0) (itL (j : Nat) 0 (-1) 0 (offN p.procs j) f.body) := fun it hi h0 y hy => .tail h0 ⟨⟨it.s.id, y, 1⟩, ((real_spec h hj).2 _).2 (raw_go hi hy), rfl, rfl⟩
 have h0 : Rch (wR p j f) 0 (headI f.body (-1)) := by
  rw [← fst_head h hj]
  exact .tail .refl (entry_go h hj)
 obtain ⟨q1, q2⟩ := liveL' (j : Nat) f.body 0 (-1) 0 (offN p.procs j) hr hk hc h0
 refine ⟨fun t ht => ?_, q2⟩
 rw [← itL_s (j : Nat) 0 (-1) 0 (offN p.procs j)] at ht
 obtain ⟨it, hi, rfl⟩ := List.mem_map.1 ht
 exact q1 it hi
theorem setAll_get : ∀ (l : List Int) (b : List Bool) (i : Nat), i < b.length → ((setAll l b).getD i false = true ↔ b.getD i false = true ∨ ∃ a ∈ l, a.toNat = i)
 | [], b, i, hi => by simp [setAll]
 | a :: r, b, i, hi => by
   have ih := setAll_get r (b.set a.toNat true) i (by rw [List.length_set]; exact hi)
   have e : setAll (a :: r) b = setAll r (b.set a.toNat true) := rfl
   rw [e, ih]
   simp only [List.mem_cons, exists_eq_or_imp]
   by_cases ha : a.toNat = i
   ·simp [ha, hi, List.getD_eq_getElem?_getD, List.getElem?_set]
   ·simp [ha, List.getD_eq_getElem?_getD, List.getElem?_set]
theorem live_iff {p : Pg} (h : chkB p = true) {j : Nat} {f : Pr} (hj : p.procs[j]? = some f) {y : Int} (hy : plP p j f y) : (newWay p j f).live.getD (ixI p j f y).toNat false = true ↔ Rch (wR p j f) 0 y := by
 have hrng := ix_rng hy
 have hl : (newWay p j f).live = setAll (lstI 0 (reachB (graphE (cntL f.body + 2) ((newWay p j f).real.map (ixP p j f (cntL f.body + 2 : Nat)))).1 [0])) (List.replicate (cntL f.body + 2) false) := rfl
 rw [hl, setAll_get _ _ _ (by rw [List.length_replicate]; omega)]
 have h0 : (List.replicate (cntL f.body + 2) false).getD (ixI p j f y).toNat false = false := by
  rw [List.getD_eq_getElem?_getD, List.getElem?_replicate]
  split <;> rfl
 rw [h0]
 have hs := step_reach (F := (newWay p j f).real) (real_places h hj) hy
 unfold wR
 rw [← hs]
 constructor
 ·rintro (h1 | ⟨a, h1, h2⟩)
  ·cases h1
  ·have ha := lstI_mem _ _ _ h1
   rwa [show ixI p j f y = a by omega]
 ·exact fun h1 => .inr ⟨_, h1, rfl⟩
theorem live_len {p : Pg} (h : chkB p = true) {j : Nat} {f : Pr} (hj : p.procs[j]? = some f) (hk : ∀ u ∈ flL f.body, u.kind < 7) : (liveL (newWay p j f)).length = cntL f.body := by
 obtain ⟨h1, _⟩ := all_live h hj hk
 unfold liveL
 rw [List.length_map, List.filter_eq_self.2 fun i hi => ?_, List.length_range']
 ·show (((cntL f.body + 2 : Nat) : Int) - 2).toNat = _
  omega
 ·obtain ⟨q, hq, rfl⟩ := List.mem_range'.1 hi
  have hq : q < (((cntL f.body + 2 : Nat) : Int) - 2).toNat := hq
  have hm := (chk_parts h).1
  have hids := may_ids hm hj
  have hmem : ((offN p.procs j : Nat) : Int) + (1 + 1 * q : Nat) ∈ idsN (offN p.procs j) (cntL f.body) := idsN_has (by omega) (by omega)
  rw [← hids] at hmem
  obtain ⟨t, ht, hte⟩ := List.mem_map.1 hmem
  have hl := h1 t ht
  have hpl : plP p j f t.id := by
   unfold plP
   rw [hte]
   omega
  have := (live_iff h hj hpl).2 hl
  have e : (ixI p j f t.id).toNat = 1 + 1 * q := by
   unfold ixI indexI loI hiI
   rw [hte, if_neg (by omega), if_neg (by omega), if_pos (by omega)]
   omega
  rwa [e] at this
section
variable {p : Pg} {k : Nat} {f : Pr}
theorem g_cntP : cntP (Pg.procs ⟨p.globals, [gOf false f]⟩) = cntL (gOf false f).body := by
 show cntL (gOf false f).body + 0 = _
 omega
theorem g_way (hc : chkB ⟨p.globals, [gOf false f]⟩ = true) (hn : f.name = mainS) : wayO ⟨p.globals, [gOf false f]⟩ mainS = some (newWay ⟨p.globals, [gOf false f]⟩ 0 (gOf false f)) := by
 unfold wayO
 rw [hc, cond_true]
 have e : ((gOf false f).name == mainS) = true := by rw [show (gOf false f).name = mainS from hn]; simp
 simp only [List.find?_cons, e, List.findIdx_cons, cond_true]
theorem g_kind {u : S} (hu : u ∈ flL (gOf false f).body) : u.kind < 7 := by
 obtain ⟨s, _, hs⟩ := g_flat hu
 exact hs.kind.2
theorem g_ends (hc : chkB ⟨p.globals, [gOf false f]⟩ = true) (hn : f.name = mainS) : endsR ⟨p.globals, [gOf false f]⟩ = [mainS] := by
 have hj : (Pg.procs ⟨p.globals, [gOf false f]⟩)[0]? = some (gOf false f) := rfl
 have hw : ∀ E, endsW (newWay ⟨p.globals, [gOf false f]⟩ 0 (gOf false f)) (gOf false f) E = true := fun E => by
  rw [endsW_iff hc hj]
  unfold endP
  rw [List.filter_eq_self.2 fun s hs => ?_]
  ·exact (all_live hc hj fun u hu => g_kind hu).2
  ·unfold keepE
   rcases (real_places hc hj s hs).1 with h0 | h0 | h0
   ·rw [decide_eq_true h0]; rfl
   ·rcases raw_src0 hc hj (((real_spec hc hj).2 s).1 hs) with h1 | h1
    ·rw [h1]
     rfl
    ·omega
   ·obtain ⟨t, ht, h1, _⟩ := stAt_own hc hj h0.1 h0.2
    rw [h1]
    obtain ⟨u, _, hu⟩ := g_flat ht
    simp [hu.kind.1]
 unfold endsR
 rw [hc, cond_true, show (Pg.procs ⟨p.globals, [gOf false f]⟩).length + 1 = 2 from rfl]
 have r1 : roundE ⟨p.globals, [gOf false f]⟩ [] = ([mainS], true) := by
  unfold roundE
  show [0].foldl _ _ = _
  simp only [List.foldl_cons, List.foldl_nil]
  unfold endS
  simp only [List.getElem?_cons_zero]
  rw [hw]
  show (bif true && true then ([] ++ [(gOf false f).name], true) else ([], false)) = _
  rw [show (gOf false f).name = mainS from hn]
  rfl
 have r2 : roundE ⟨p.globals, [gOf false f]⟩ [mainS] = ([mainS], false) := by
  unfold roundE
  show [0].foldl _ _ = _
  simp only [List.foldl_cons, List.foldl_nil]
  unfold endS
  simp only [List.getElem?_cons_zero]
  have : ([mainS].any fun s => (gOf false f).name == s) = true := by rw [show (gOf false f).name = mainS from hn]; simp
  rw [this]
  rfl
 rw [endsF, r1]
 show sortS (endsF _ 1 [mainS]) = _
 rw [endsF, r2]
 show sortS [mainS] = _
 unfold sortS
 simp
end
open Go.Proofs
theorem FollowP.no {n : Nat} {nx : List (List Int)} {fm : List (List Bool)} (h : FollowP n nx fm) {a b : Nat} (hb : b < n) (ha : Avd nx n b a) : bitF fm a b = false := by
 have big : ∀ c, n ≤ c → bitF fm c b = false := fun c hc => by
  unfold bitF
  rw [List.getD_eq_getElem?_getD (l := fm), List.getElem?_eq_none (by rw [h.inv.len]; exact hc)]
  rfl
 have last : n - 1 ≠ b → bitF fm (n - 1) b = false := fun hne => by
  unfold bitF
  rw [h.inv.last, filRow_get hb, decide_eq_false hne, decide_eq_false (by omega)]
  rfl
 induction ha with
 | exit he => exact last (Ne.symm he)
 | @step a t hab ht _ ih =>
   rcases Nat.lt_trichotomy a (n - 1) with hlt | heq | hgt
   ·have hbit : bitF fm a b = (rowF n nx fm a).getD b false := by
     unfold bitF
     rw [h.fix a hlt]
    rw [hbit, rowF_get hb, decide_eq_false hab]
    cases hs : sharedB fm (nx.getD a []) b with
    | false => rfl
    | true =>
      have := shared_iff.1 hs _ ht
      rw [Int.toNat_natCast, ih] at this
      cases this
   ·subst heq
    exact last hab
   ·exact big a (by omega)
theorem FollowP.iff {n : Nat} {nx : List (List Int)} {fm : List (List Bool)} (h : FollowP n nx fm) {a b : Nat} (ha : a < n) (hb : b < n) : bitF fm a b = true ↔ ¬ Avd nx n b a := by
 constructor
 ·intro h1 h2
  rw [h.no hb h2] at h1
  cases h1
 ·intro h1
  cases hq : bitF fm a b with
  | true => rfl
  | false => exact absurd (h.inv.min a b ha hb hq) h1
theorem bits_ext {n : Nat} {f g : List (List Bool)} (h1 : f.length = n) (h2 : g.length = n) (h3 : ∀ r ∈ f, r.length = n) (h4 : ∀ r ∈ g, r.length = n) (h : ∀ a b, a < n → b < n → bitF f a b = bitF g a b) : f = g := by
 refine List.ext_getElem (by omega) fun a ha hb => ?_
 have e1 := h3 _ (List.getElem_mem ha)
 have e2 := h4 _ (List.getElem_mem hb)
 refine List.ext_getElem (by omega) fun b hc hd => ?_
 have := h a b (by omega) (by omega)
 unfold bitF at this
 rw [List.getD_eq_getElem?_getD (l := f), List.getD_eq_getElem?_getD (l := g), List.getElem?_eq_getElem ha, List.getElem?_eq_getElem hb] at this
 simp only [Option.getD_some] at this
 rw [List.getD_eq_getElem?_getD, List.getD_eq_getElem?_getD, List.getElem?_eq_getElem hc, List.getElem?_eq_getElem hd] at this
 exact this
theorem FollowP.uniq {n : Nat} {nx : List (List Int)} {f g : List (List Bool)} (hf : FollowP n nx f) (hg : FollowP n nx g) : f = g := by
 refine bits_ext hf.inv.len hg.inv.len hf.inv.rows hg.inv.rows fun a b ha hb => ?_
 rw [Bool.eq_iff_iff, hf.iff ha hb, hg.iff ha hb]
noncomputable def folM (n : Nat) (nx : List (List Int)) : List (List Bool) := @Classical.epsilon _ ⟨[]⟩ (FollowP n nx)
theorem FollowP.eq {n : Nat} {nx : List (List Int)} {fm : List (List Bool)} (h : FollowP n nx fm) : fm = folM n nx := h.uniq (Classical.epsilon_spec ⟨fm, h⟩)
theorem foldN_mem : ∀ (l : List (Int × Int)) (rows : List (List Int)), (∀ t ∈ l, 0 ≤ t.1 ∧ t.1 < rows.length) → ∀ (a : Nat) (x : Int), x ∈ (l.foldl nxE rows).getD a [] ↔ x ∈ rows.getD a [] ∨ ∃ t ∈ l, t.1 = a ∧ t.2 = x
 | [], rows, _, a, x => by simp
 | t :: r, rows, h, a, x => by
   obtain ⟨h1, h2⟩ := h t List.mem_cons_self
   rw [List.foldl_cons, foldN_mem r (nxE rows t) (fun u hu => by rw [nxE_len]; exact h u (List.mem_cons_of_mem _ hu))]
   have e : x ∈ (nxE rows t).getD a [] ↔ x ∈ rows.getD a [] ∨ (t.1 = a ∧ t.2 = x) := by
    unfold nxE
    simp only [List.getD_eq_getElem?_getD, List.getElem?_set]
    by_cases he : t.1.toNat = a
    ·subst he
     have e0 : t.1 = (t.1.toNat : Int) := by omega
     rw [if_pos rfl, if_pos (by omega)]
     simp only [Option.getD_some, List.mem_append, List.mem_singleton]
     constructor
     ·rintro (h3 | h3)
      ·exact .inl h3
      ·exact .inr ⟨e0, h3.symm⟩
     ·rintro (h3 | ⟨_, h3⟩)
      ·exact .inl h3
      ·exact .inr h3.symm
    ·rw [if_neg he]
     constructor
     ·exact .inl
     ·rintro (h3 | ⟨h3, _⟩)
      ·exact h3
      ·omega
   rw [e]
   simp only [List.mem_cons, exists_eq_or_imp, or_assoc]
theorem nextR_mem {n : Nat} {l : List (Int × Int)} (h : ∀ t ∈ l, 0 ≤ t.1 ∧ t.1 < n) {a : Nat} {x : Int} : x ∈ (nextR n l).getD a [] ↔ ∃ t ∈ l, t.1 = a ∧ t.2 = x := by
 unfold nextR
 rw [foldN_mem l _ (by simpa using h)]
 have : (List.replicate n ([] : List Int)).getD a [] = [] := by
  rw [List.getD_eq_getElem?_getD, List.getElem?_replicate]
  split <;> rfl
 rw [this]
 simp
inductive AvdP (R : Int → Int → Prop) (b : Int) : Int → Prop
 | exit (h : b ≠ -1) : AvdP R b (-1)
 | step {a t : Int} (hab : a ≠ b) (hs : R a t) (h : AvdP R b t) : AvdP R b a
mutual
theorem rowS_one : ∀ (t : S) {nest seen m : Int}, rowS nest seen t = some m → ∀ u ∈ flS t, oneOk u = true
 | .mk id kind labels name pr x has args thn els, nest, seen, m, h, u, hu => by
   obtain ⟨h1, _, m1, h3, h4⟩ := rowS_parts h
   rw [flS] at hu
   rcases List.mem_cons.1 hu with rfl | hu
   ·exact h1
   ·rcases List.mem_append.1 hu with hu | hu
    ·exact rowL_one thn h3 u hu
    ·exact rowL_one els h4 u hu
theorem rowL_one : ∀ (l : List S) {nest seen m : Int}, rowL nest seen l = some m → ∀ u ∈ flL l, oneOk u = true
 | [], _, _, _, _, u, hu => by rw [flL] at hu; cases hu
 | t :: r, nest, seen, m, h, u, hu => by
   obtain ⟨_, m1, h1, h2⟩ := rowL_parts h
   rw [flL] at hu
   rcases List.mem_append.1 hu with hu | hu
   ·exact rowS_one t h1 u hu
   ·exact rowL_one r h2 u hu
end
theorem body_one {p : Pg} {j : Nat} {f : Pr} (h : chkB p = true) (hj : p.procs[j]? = some f) {t : S} (ht : t ∈ flL f.body) : OneF t := by
 obtain ⟨m, hr⟩ := may_row (chk_parts h).1 hj
 exact one_facts (rowL_one _ hr t ht)
section
variable {p : Pg} {j : Nat} {f : Pr}
def aR (p : Pg) (j : Nat) (f : Pr) : Int → Int → Prop := stR (augW (newWay p j f) f)
theorem aug_len (h : chkB p = true) (hj : p.procs[j]? = some f) : (augW (newWay p j f) f).length ≤ 200000 := by
 obtain ⟨_, _, hcn⟩ := chk_cnt h
 obtain ⟨_, _, _, hlen, hsp⟩ := sheet_spec p
 obtain ⟨_, _, hle, _⟩ := hsp j f hj
 obtain ⟨h1, h2, _⟩ := normS_gen (aug_ok h hj)
 have h3 := nodup_len (l := augW (newWay p j f) f) (m := ((newWay p j f).real ++ (idsN (offN p.procs j) (cntL f.body)).map fun id => ⟨id, -1, 3⟩) ++ [⟨0, -1, 2⟩] ++ (itsOf p j f).flatMap fOf) (lt_nodup h1) fun s hs => by
  rcases List.mem_append.1 (h2 s hs) with h4 | h4
  ·refine List.mem_append.2 (.inl ?_)
   rcases List.mem_append.1 h4 with h4 | h4
   ·refine List.mem_append.2 (.inl ?_)
    rcases List.mem_append.1 h4 with h4 | h4
    ·obtain ⟨l, hl, t, ht, hid, hk, rfl⟩ := (virt_mem h hj).1 h4
     have hb := body_id (chk_parts h).1 hj ht
     exact List.mem_append.2 (.inr (List.mem_map.2 ⟨t.id, idsN_has hb.1 hb.2, rfl⟩))
    ·exact List.mem_append.2 (.inl h4)
   ·exact List.mem_append.2 (.inr h4)
  ·exact List.mem_append.2 (.inr h4)
 have h4 := real_len hj hcn
 have h5 : (idsN (offN p.procs j) (cntL f.body)).length = cntL f.body := by unfold idsN; simp
 have h6 := flatMap_take_len (g := fOf) (c := 1) (itsOf p j f) fun it _ => fOf_len it
 have h7 : (itsOf p j f).length = cntL f.body := itL_len _ _ _ _ _ _
 simp only [List.length_append, List.length_map, List.length_singleton] at h3
 omega
theorem aR_iff (h : chkB p = true) (hj : p.procs[j]? = some f) {a b : Int} : aR p j f a b ↔ wR p j f a b ∨ (a = 0 ∧ b = -1) ∨ (∃ l ∈ trapsW (newWay p j f) f, ∃ t ∈ flL f.body, t.id ∈ l ∧ t.kind = 10 ∧ a = t.id ∧ b = -1) ∨ ∃ it ∈ itsOf p j f, 7 ≤ it.s.kind ∧ a = it.s.id ∧ b = it.next := by
 have hA := normS_gen (aug_ok h hj)
 have hraw : ∀ s, s ∈ augRaw (newWay p j f) f ↔ s ∈ virtW (newWay p j f) f ∨ s ∈ (newWay p j f).real ∨ s = ⟨0, -1, 2⟩ ∨ s ∈ (itsOf p j f).flatMap fOf := fun s => by
  have e : augRaw (newWay p j f) f = virtW (newWay p j f) f ++ (newWay p j f).real ++ [⟨0, -1, 2⟩] ++ (itsOf p j f).flatMap fOf := rfl
  rw [e]
  simp only [List.mem_append, List.mem_singleton, or_assoc]
 have hof : ∀ s ∈ augRaw (newWay p j f) f, aR p j f s.src s.dst := fun s hs => by
  obtain ⟨s', h1, h2, h3, _⟩ := hA.2.2 s hs
  exact ⟨s', h1, h2, h3⟩
 constructor
 ·rintro ⟨s, hs, rfl, rfl⟩
  rcases (hraw s).1 (hA.2.1 s hs) with h1 | h1 | h1 | h1
  ·obtain ⟨l, hl, t, ht, hid, hk, rfl⟩ := (virt_mem h hj).1 h1
   exact .inr (.inr (.inl ⟨l, hl, t, ht, hid, hk, rfl, rfl⟩))
  ·exact .inl ⟨s, h1, rfl, rfl⟩
  ·rw [h1]; exact .inr (.inl ⟨rfl, rfl⟩)
  ·obtain ⟨it, hi, hs⟩ := List.mem_flatMap.1 h1
   unfold fOf at hs
   split at hs
   ·rw [List.mem_singleton.1 hs]
    exact .inr (.inr (.inr ⟨it, hi, by omega, rfl, rfl⟩))
   ·cases hs
 ·rintro (⟨s, hs, rfl, rfl⟩ | ⟨rfl, rfl⟩ | ⟨l, hl, t, ht, hid, hk, rfl, rfl⟩ | ⟨it, hi, hk, rfl, rfl⟩)
  ·exact hof s ((hraw s).2 (.inr (.inl hs)))
  ·exact hof ⟨0, -1, 2⟩ ((hraw _).2 (.inr (.inr (.inl rfl))))
  ·exact hof ⟨t.id, -1, 3⟩ ((hraw _).2 (.inl ((virt_mem h hj).2 ⟨l, hl, t, ht, hid, hk, rfl⟩)))
  ·refine hof ⟨it.s.id, it.next, 2⟩ ((hraw _).2 (.inr (.inr (.inr (List.mem_flatMap.2 ⟨it, hi, ?_⟩)))))
   have hF := (body_one h hj (its_s hi)).hi
   unfold fOf
   rw [if_pos (by omega)]
   exact List.mem_singleton.2 rfl
theorem aR_pl (h : chkB p = true) (hj : p.procs[j]? = some f) {a b : Int} (hr : aR p j f a b) : plP p j f a ∧ plP p j f b ∧ a ≠ -1 ∧ b ≠ 0 := by
 have hst : ∀ t ∈ flL f.body, plP p j f t.id ∧ t.id ≠ -1 := fun t ht => by
  have hb := body_id (chk_parts h).1 hj ht
  exact ⟨.inr (.inr hb), by omega⟩
 rcases (aR_iff h hj).1 hr with h1 | ⟨rfl, rfl⟩ | ⟨l, hl, t, ht, hid, hk, rfl, rfl⟩ | ⟨it, hi, hk, rfl, rfl⟩
 ·obtain ⟨h2, h3⟩ := R_pl h hj h1
  refine ⟨h2, h3, ?_, fun e => no_entry h hj (e ▸ h1)⟩
  obtain ⟨s, hs, rfl, rfl⟩ := h1
  rcases raw_src0 h hj (((real_spec h hj).2 s).1 hs) with h4 | h4
  ·rw [h4]; show (0 : Int) ≠ -1; decide
  ·omega
 ·exact ⟨.inl rfl, .inr (.inl rfl), by decide, by decide⟩
 ·exact ⟨(hst t ht).1, .inr (.inl rfl), (hst t ht).2, by decide⟩
 ·have h1 := (its_rng hi).1
  unfold okI at h1
  refine ⟨(hst _ (its_s hi)).1, ?_, (hst _ (its_s hi)).2, by omega⟩
  rcases h1 with h1 | h1
  ·exact .inr (.inl h1)
  ·exact .inr (.inr h1)
theorem prsA_new : prsA (newWay p j f) f = (augW (newWay p j f) f).map (ixP p j f (cntL f.body + 2 : Nat)) := rfl
theorem prsA_in (h : chkB p = true) (hj : p.procs[j]? = some f) : ∀ t ∈ prsA (newWay p j f) f, (0 ≤ t.1 ∧ t.1 < (cntL f.body + 2 : Nat)) ∧ 0 ≤ t.2 ∧ t.2 < (cntL f.body + 2 : Nat) := fun t ht => by
 rw [prsA_new] at ht
 obtain ⟨s, hs, rfl⟩ := List.mem_map.1 ht
 obtain ⟨h1, h2, _⟩ := aR_pl h hj ⟨s, hs, rfl, rfl⟩
 exact ⟨ix_rng h1, ix_rng h2⟩
theorem prsA_mem (h : chkB p = true) (hj : p.procs[j]? = some f) {a b : Int} (ha : plP p j f a) (hb : plP p j f b) : (ixI p j f a, ixI p j f b) ∈ prsA (newWay p j f) f ↔ aR p j f a b := by
 rw [prsA_new]
 constructor
 ·intro h1
  obtain ⟨s, hs, he⟩ := List.mem_map.1 h1
  obtain ⟨h2, h3, _⟩ := aR_pl h hj ⟨s, hs, rfl, rfl⟩
  have e1 : ixI p j f s.src = ixI p j f a := congrArg Prod.fst he
  have e2 : ixI p j f s.dst = ixI p j f b := congrArg Prod.snd he
  exact ⟨s, hs, ix_inj h2 ha e1, ix_inj h3 hb e2⟩
 ·rintro ⟨s, hs, rfl, rfl⟩
  exact List.mem_map.2 ⟨s, hs, rfl⟩
theorem ix_exit : ixI p j f (-1) = (cntL f.body + 2 : Nat) - 1 := by
 unfold ixI indexI
 rw [if_neg (by decide), if_pos rfl]
theorem avd_iff (h : chkB p = true) (hj : p.procs[j]? = some f) {a b : Int} (ha : plP p j f a) (hb : plP p j f b) : Avd (nextR (cntL f.body + 2) (prsA (newWay p j f) f)) (cntL f.body + 2) (ixI p j f b).toNat (ixI p j f a).toNat ↔ AvdP (aR p j f) b a := by
 have hin := prsA_in h hj
 have hrb := ix_rng hb
 constructor
 ·intro h1
  generalize hx : (ixI p j f a).toNat = x at h1
  induction h1 generalizing a with
  | exit hne =>
    have hra := ix_rng ha
    have : a = -1 := ix_inj ha (.inr (.inl rfl)) (by rw [ix_exit]; omega)
    subst this
    refine .exit fun e => ?_
    subst e
    rw [ix_exit] at hne
    omega
  | @step x t hne ht _ ih =>
    obtain ⟨u, hu, h2, h3⟩ := (nextR_mem (fun t ht => (hin t ht).1)).1 ht
    obtain ⟨s, hs, he⟩ := List.mem_map.1 hu
    obtain ⟨q2, q3, _⟩ := aR_pl h hj ⟨s, hs, rfl, rfl⟩
    have e1 : ixI p j f s.src = u.1 := congrArg Prod.fst he
    have e2 : ixI p j f s.dst = u.2 := congrArg Prod.snd he
    have hra := ix_rng ha
    have e3 : s.src = a := ix_inj q2 ha (by omega)
    refine .step (fun e => ?_) ⟨s, hs, e3, rfl⟩ (ih q3 (by omega))
    subst e
    exact hne hx.symm
 ·intro h1
  induction h1 with
  | exit hne =>
    rw [ix_exit, show (((cntL f.body + 2 : Nat) : Int) - 1).toNat = cntL f.body + 2 - 1 by omega]
    refine .exit fun e => hne (ix_inj hb (.inr (.inl rfl)) (by rw [ix_exit]; omega))
  | @step a t hne hs _ ih =>
    obtain ⟨q2, q3, _⟩ := aR_pl h hj hs
    have hra := ix_rng q2
    have hrt := ix_rng q3
    refine .step (t := (ixI p j f t).toNat) (fun e => hne (ix_inj q2 hb (by omega))) ?_ (ih q3)
    refine (nextR_mem (fun t ht => (hin t ht).1)).2 ⟨_, (prsA_mem h hj q2 q3).2 hs, ?_, ?_⟩
    ·show ixI p j f a = _
     omega
    ·show ixI p j f t = _
     omega
def folP (p : Pg) (j : Nat) (f : Pr) (a b : Int) : Prop := ¬ AvdP (aR p j f) b a
def decP (p : Pg) (j : Nat) (f : Pr) (a b : Int) : Prop := ∃ t, aR p j f a t ∧ folP p j f t b ∧ (a = b ∨ ¬ folP p j f a b)
noncomputable def decL (w : Way) (f : Pr) (n : Nat) : List (Int × Int) := (List.range n).flatMap fun (x : Nat) => ((List.range n).filter fun y => mkM n (folM n (nextR n (prsA w f))) (prsA w f) x y).map fun (y : Nat) => (placeI w.p w.j w.n x, placeI w.p w.j w.n y)
theorem decL_eq {w : Way} {n : Nat} {fm M : List (List Bool)} (h1 : FollowP n (nextR n (prsA w f)) fm) (h2 : ∀ a b, a < n → b < n → bitF M a b = mkM n fm (prsA w f) a b) : outM (placeI w.p w.j w.n) M n n = decL w f n := by
 rw [h1.eq] at h2
 unfold outM decL
 have hf : ∀ x ∈ List.range n, ((List.range n).filter fun y => bitF M x y).map (fun (y : Nat) => (placeI w.p w.j w.n x, placeI w.p w.j w.n y)) = ((List.range n).filter fun y => mkM n (folM n (nextR n (prsA w f))) (prsA w f) x y).map fun (y : Nat) => (placeI w.p w.j w.n x, placeI w.p w.j w.n y) := fun x hx => by
  rw [List.filter_congr fun y hy => h2 x y (List.mem_range.1 hx) (List.mem_range.1 hy)]
 rw [List.flatMap_def, List.flatMap_def, List.map_congr_left hf]
theorem decL_len (w : Way) (n : Nat) : (decL w f n).length ≤ n * n := by
 unfold decL
 have h1 := flatMap_take_len (g := fun (x : Nat) => ((List.range n).filter fun y => mkM n (folM n (nextR n (prsA w f))) (prsA w f) x y).map fun (y : Nat) => (placeI w.p w.j w.n x, placeI w.p w.j w.n y)) (c := n) (List.range n) fun x _ => by
  rw [List.length_map]
  exact Nat.le_trans (List.length_filter_le _ _) (by simp)
 rw [List.length_range] at h1
 exact h1
end
theorem fol_bit {p : Pg} {j : Nat} {f : Pr} (h : chkB p = true) (hj : p.procs[j]? = some f) {fm : List (List Bool)} (hF : FollowP (cntL f.body + 2) (nextR (cntL f.body + 2) (prsA (newWay p j f) f)) fm) {a b : Int} (ha : plP p j f a) (hb : plP p j f b) : bitF fm (ixI p j f a).toNat (ixI p j f b).toNat = true ↔ folP p j f a b := by
 have hra := ix_rng ha
 have hrb := ix_rng hb
 unfold folP
 rw [hF.iff (by omega) (by omega), avd_iff h hj ha hb]
theorem decL_mem {p : Pg} {j : Nat} {f : Pr} (h : chkB p = true) (hj : p.procs[j]? = some f) {fm : List (List Bool)} (hF : FollowP (cntL f.body + 2) (nextR (cntL f.body + 2) (prsA (newWay p j f) f)) fm) {a b : Int} : (a, b) ∈ decL (newWay p j f) f (cntL f.body + 2) ↔ plP p j f a ∧ plP p j f b ∧ 0 < b ∧ decP p j f a b := by
 have hin := prsA_in h hj
 have e : folM (cntL f.body + 2) (nextR (cntL f.body + 2) (prsA (newWay p j f) f)) = fm := hF.eq.symm
 have key : ∀ a b : Int, plP p j f a → plP p j f b → (mkM (cntL f.body + 2) fm (prsA (newWay p j f) f) (ixI p j f a).toNat (ixI p j f b).toNat = true ↔ 0 < b ∧ decP p j f a b) := fun a b ha hb => by
  have hra := ix_rng ha
  have hrb := ix_rng hb
  have hb0 : (decide (1 ≤ (ixI p j f b).toNat) && decide ((ixI p j f b).toNat < cntL f.body + 2 - 1)) = true ↔ 0 < b := by
   rw [Bool.and_eq_true, decide_eq_true_eq, decide_eq_true_eq]
   have hbb := hb
   unfold plP at hbb
   unfold ixI indexI loI hiI at hrb ⊢
   (repeat' split) <;> omega
  unfold mkM
  rw [Bool.and_eq_true, hb0, List.any_eq_true]
  refine and_congr_right fun _ => ?_
  unfold decP
  constructor
  ·rintro ⟨t, ht, h1⟩
   rw [Bool.and_eq_true, decide_eq_true_eq] at h1
   obtain ⟨s, hs, he⟩ := List.mem_map.1 ht
   obtain ⟨q2, q3, _⟩ := aR_pl h hj ⟨s, hs, rfl, rfl⟩
   have e1 : ixI p j f s.src = t.1 := congrArg Prod.fst he
   have e2 : ixI p j f s.dst = t.2 := congrArg Prod.snd he
   have e3 : s.src = a := ix_inj q2 ha (by omega)
   have h2 := h1.2
   unfold decB at h2
   rw [Bool.and_eq_true, Bool.or_eq_true, decide_eq_true_eq, ← e2, ← e1, e3, fol_bit h hj hF q3 hb] at h2
   refine ⟨s.dst, ⟨s, hs, e3, rfl⟩, h2.1, ?_⟩
   rcases h2.2 with h4 | h4
   ·exact .inl (ix_inj ha hb (by omega))
   ·refine .inr fun h5 => ?_
    rw [(fol_bit h hj hF ha hb).2 h5] at h4
    cases h4
  ·rintro ⟨t, ht, h1, h2⟩
   obtain ⟨q2, q3, _⟩ := aR_pl h hj ht
   refine ⟨_, (prsA_mem h hj q2 q3).2 ht, ?_⟩
   rw [Bool.and_eq_true, decide_eq_true_eq]
   refine ⟨by show ixI p j f a = _; omega, ?_⟩
   unfold decB
   rw [Bool.and_eq_true, Bool.or_eq_true, decide_eq_true_eq]
   refine ⟨(fol_bit h hj hF q3 hb).2 h1, ?_⟩
   rcases h2 with rfl | h2
   ·exact .inl (by show ixI p j f a = _; omega)
   ·refine .inr ?_
    cases hq : bitF fm (ixI p j f a).toNat (ixI p j f b).toNat with
    | false => rfl
    | true => exact absurd ((fol_bit h hj hF ha hb).1 hq) h2
 unfold decL
 rw [e, List.mem_flatMap]
 constructor
 ·rintro ⟨x, hx, h1⟩
  obtain ⟨y, hy, he⟩ := List.mem_map.1 h1
  obtain ⟨hy1, hy2⟩ := List.mem_filter.1 hy
  rw [List.mem_range] at hx hy1
  obtain ⟨q1, q2⟩ := ix_place (p := p) (j := j) (f := f) (i := (x : Int)) (by omega)
  obtain ⟨q3, q4⟩ := ix_place (p := p) (j := j) (f := f) (i := (y : Int)) (by omega)
  have e1 : placeI p j (cntL f.body + 2 : Nat) x = a := congrArg Prod.fst he
  have e2 : placeI p j (cntL f.body + 2 : Nat) y = b := congrArg Prod.snd he
  rw [e1] at q1 q2
  rw [e2] at q3 q4
  have := key a b q1 q3
  rw [q2, q4, Int.toNat_natCast, Int.toNat_natCast] at this
  exact ⟨q1, q3, this.1 hy2⟩
 ·rintro ⟨q1, q3, h1⟩
  have hra := ix_rng q1
  have hrb := ix_rng q3
  refine ⟨(ixI p j f a).toNat, List.mem_range.2 (by omega), List.mem_map.2 ⟨(ixI p j f b).toNat, List.mem_filter.2 ⟨List.mem_range.2 (by omega), (key a b q1 q3).2 h1⟩, ?_⟩⟩
  show (placeI p j (cntL f.body + 2 : Nat) _, placeI p j (cntL f.body + 2 : Nat) _) = _
  rw [Int.toNat_of_nonneg hra.1, Int.toNat_of_nonneg hrb.1, place_ix q1, place_ix q3]
end Go.Ab
