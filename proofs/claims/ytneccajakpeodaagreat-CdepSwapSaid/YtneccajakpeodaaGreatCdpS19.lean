/- way: how many are marked; the comparison by that; the places that follow one, the nearer one first. -/
import Derived.Test.YtneccajakpeodaaGreatCdpS14
import Derived.Test.YtneccajakpeodaaGreatCdpS17
import Derived.Test.YtneccajakpeodaaGreatCdpS18
set_option linter.unusedSimpArgs false
set_option linter.unusedVariables false
set_option maxRecDepth 100000
set_option maxHeartbeats 16000000
namespace Go.Ab
open Go.Proofs
theorem cnt_take {l : List Bool} {j : Nat} (hj : j < l.length) : (l.take (j + 1)).count true = (l.take j).count true + (if l[j] then 1 else 0) := by
 rw [List.take_succ_eq_append_getElem hj, List.count_append]
 cases l[j] <;> rfl
theorem way_size (l : List Bool) (hl : l.length ≤ 1000000) : SpecP Tryz.prog 180 [eBs l] (fun r => r = .int .i64 (l.count true)) := by
 refine SpecP.body I_way_size tabOK Tryz.func180 rfl Tryz.call180 (by show 1 ≤ _; decide) ?_
 conv => whnf
 have hll : (l.map bv).length = l.length := List.length_map _
 repeat' (intro (_ : _ ≤ 9223372036854775807); conv => whnf)
 refine LoopK.inv tabOK (fun j : Nat => ⟨[(3, .p (.int .i64 ((l.take j).count true))), (6, .p (eBs l)), (7, .p (.int .i64 (l.map bv).length)), (8, .p (.int .i64 j))], []⟩) (fun j => j ≤ l.length) (fun j => l.length - j) 0 (Le.of_eq rfl) (Nat.zero_le _) ?_
 intro j h2
 rcases Nat.lt_or_ge j l.length with hj | hj
 ·have e1 : (l.map bv)[j]? = some (bv l[j]) := by rw [List.getElem?_map, List.getElem?_eq_getElem hj]; rfl
  have hc := cnt_take hj
  have hcl : (l.take j).count true ≤ j := Nat.le_trans List.count_le_length (by rw [List.length_take]; omega)
  generalize l[j] = x at e1 hc
  generalize (l.take j).count true = m at hc hcl ⊢
  cases x <;>
  conv => whnf
  repeat' (first | ((first | (refine Wr.i64 (by omega) (by omega) ?_) | (refine IdxK.at (k := j) rfl e1 rfl ?_)); conv => whnf) | (refine Br.dec (fun _ => ?_) (fun _ => ?_) <;> first | (exfalso; omega) | conv => whnf))
  all_goals first
   | exact ⟨j + 1, by omega, by omega, Le.of_eq (by rw [hc]; rfl)⟩
   | (exfalso; simp_all; done)
   | skip
 ·rw [List.take_of_length_le hj]
  conv => whnf
  repeat' (refine Br.dec (fun _ => ?_) (fun _ => ?_) <;> first | (exfalso; omega) | conv => whnf)
  exact RetK.int rfl
def keyM (M : List Int) (x : Int) : Int := getz M x.toNat
theorem row1_cmp {M : List Int} (hM : ∀ x ∈ M, 0 ≤ x ∧ x ≤ 1000000) : CmpF 182 (.ip [eInts M]) (keyM M) (fun x => 0 ≤ x ∧ x < M.length) := by
 refine ⟨fun x y hx hy => ?_, fun x => ?_⟩
 ·obtain ⟨k, rfl⟩ : ∃ k : Nat, x = k := ⟨x.toNat, by omega⟩
  obtain ⟨q, rfl⟩ : ∃ q : Nat, y = q := ⟨y.toNat, by omega⟩
  have g1 := row_at (l := M) (i := k) (by omega)
  have g2 := row_at (l := M) (i := q) (by omega)
  have b1 := hM _ (getz_mem (l := M) (i := k) (by omega))
  have b2 := hM _ (getz_mem (l := M) (i := q) (by omega))
  have e1 : keyM M k = getz M k := by unfold keyM; rw [Int.toNat_natCast]
  have e2 : keyM M q = getz M q := by unfold keyM; rw [Int.toNat_natCast]
  rw [e1, e2]
  generalize getz M k = u at g1 b1
  generalize getz M q = v at g2 b2
  refine SpecP.body I_way_Way_Row_1 tabOK Tryz.func182 rfl Tryz.call182 (by show 3 ≤ _; decide) ?_
  conv => whnf
  repeat' ((first | (refine DrawK.auto tabOK mixed (by kernel_rfl) ?_) | (refine Wr.i64 (by omega) (by omega) ?_) | (refine IdxK.at (k := q) rfl g2 rfl ?_) | (refine IdxK.at (k := k) rfl g1 rfl ?_)); conv => whnf)
  exact RetK.int rfl
 ·unfold keyM
  rcases Nat.lt_or_ge x.toNat M.length with h | h
  ·exact hM _ (getz_mem h)
  ·unfold getz
   rw [List.getD_eq_getElem?_getD, List.getElem?_eq_none h]
   exact ⟨Int.le_refl _, by decide⟩
def folL (fm : List (List Bool)) (a j : Nat) : List Int := ((List.range j).filter fun b => bitF fm a b).map fun (b : Nat) => (b : Int)
theorem folL_succ (fm : List (List Bool)) (a j : Nat) : folL fm a (j + 1) = folL fm a j ++ (if bitF fm a j then [(j : Int)] else []) := by
 unfold folL
 rw [List.range_succ, List.filter_append, List.map_append]
 congr 1
 cases h : bitF fm a j <;> simp [h]
theorem folL_len (fm : List (List Bool)) (a j : Nat) : (folL fm a j).length ≤ j := by
 unfold folL
 rw [List.length_map]
 exact Nat.le_trans (List.length_filter_le _ _) (by simp)
def mnyL (fm : List (List Bool)) (a n j : Nat) : List Int := (List.range n).map fun b => if b < j ∧ bitF fm a b = true then (((fm.getD b []).count true : Nat) : Int) else 0
theorem mnyL_len (fm : List (List Bool)) (a n j : Nat) : (mnyL fm a n j).length = n := by unfold mnyL; simp
theorem mnyL_get {fm : List (List Bool)} {a n j b : Nat} (hb : b < n) : (mnyL fm a n j)[b]? = some (if b < j ∧ bitF fm a b = true then (((fm.getD b []).count true : Nat) : Int) else 0) := by
 unfold mnyL
 rw [List.getElem?_map, List.getElem?_range hb]
 rfl
theorem mnyL_no {fm : List (List Bool)} {a n j : Nat} (h : bitF fm a j = false) : mnyL fm a n (j + 1) = mnyL fm a n j := by
 unfold mnyL
 refine List.map_congr_left fun b _ => ?_
 by_cases he : b = j
 ·subst he
  rw [if_neg (fun hh => by rw [h] at hh; cases hh.2), if_neg (fun hh => by rw [h] at hh; cases hh.2)]
 ·have : (b < j + 1 ∧ bitF fm a b = true) ↔ (b < j ∧ bitF fm a b = true) := by
   constructor
   ·exact fun hh => ⟨by omega, hh.2⟩
   ·exact fun hh => ⟨by omega, hh.2⟩
  by_cases hc : b < j ∧ bitF fm a b = true
  ·rw [if_pos hc, if_pos (this.2 hc)]
  ·rw [if_neg hc, if_neg (fun hh => hc (this.1 hh))]
theorem mnyL_yes {fm : List (List Bool)} {a n j : Nat} (hj : j < n) (h : bitF fm a j = true) : (mnyL fm a n j).set j (((fm.getD j []).count true : Nat) : Int) = mnyL fm a n (j + 1) := by
 refine List.ext_getElem? fun b => ?_
 rw [List.getElem?_set]
 by_cases he : j = b
 ·subst he
  rw [if_pos rfl, if_pos (by rw [mnyL_len]; exact hj), mnyL_get hj, if_pos ⟨by omega, h⟩]
 ·rw [if_neg he]
  rcases Nat.lt_or_ge b n with hb | hb
  ·rw [mnyL_get hb, mnyL_get hb]
   have : (b < j + 1 ∧ bitF fm a b = true) ↔ (b < j ∧ bitF fm a b = true) := by
    constructor
    ·exact fun hh => ⟨by omega, hh.2⟩
    ·exact fun hh => ⟨by omega, hh.2⟩
   by_cases hc : b < j ∧ bitF fm a b = true
   ·rw [if_pos hc, if_pos (this.2 hc)]
   ·rw [if_neg hc, if_neg (fun hh => hc (this.1 hh))]
  ·rw [List.getElem?_eq_none (by rw [mnyL_len]; exact hb), List.getElem?_eq_none (by rw [mnyL_len]; exact hb)]
theorem mnyL_zero (fm : List (List Bool)) (a n : Nat) : mnyL fm a n 0 = List.replicate n 0 := by
 refine List.ext_getElem? fun b => ?_
 rcases Nat.lt_or_ge b n with hb | hb
 ·rw [mnyL_get hb, if_neg (by omega), List.getElem?_replicate, if_pos hb]
 ·rw [List.getElem?_eq_none (by rw [mnyL_len]; exact hb), List.getElem?_eq_none (by simpa using hb)]
def rwSt (w : Way) (fm : List (List Bool)) (a n j : Nat) : St := ⟨[(0, .p (.ip w.cells)), (1, .p (.sl ((bmI fm).map .sl))), (7, .hd 2 0 (folL fm a j).length), (8, .ptr 1 0), (21, .p (.sl ((fm.getD a []).map bv))), (22, .p (.int .i64 ((fm.getD a []).map bv).length)), (23, .p (.int .i64 j))], [(1, .obj 36 [.hd 0 0 n]), (0, .own 3 1 ((mnyL fm a n j).map (.int .i64))), (2, .own 3 1 ((folL fm a j).map (.int .i64)))]⟩
def rwFz (w : Way) (fm : List (List Bool)) (a n j : Nat) : St := ⟨[(0, .p (.ip w.cells)), (1, .p (.sl ((bmI fm).map .sl))), (7, .hd 2 0 (folL fm a j).length), (8, .p (.ip [eInts (mnyL fm a n j)])), (21, .p (.sl ((fm.getD a []).map bv))), (22, .p (.int .i64 ((fm.getD a []).map bv).length)), (23, .p (.int .i64 j))], [(2, .own 3 1 ((folL fm a j).map (.int .i64)))]⟩
theorem rw_fz {N : Nat} (w : Way) (fm : List (List Bool)) (a n j : Nat) : Le N (rwSt w fm a n j) (rwFz w fm a n j) := by
 have hm := mnyL_len fm a n j
 have h1 : Le N (rwSt w fm a n j) ⟨(rwSt w fm a n j).sl, [(1, .obj 36 ([eInts (mnyL fm a n j)].map .p)), (2, .own 3 1 ((folL fm a j).map (.int .i64)))]⟩ := by
  refine Le.rowObj (k := 0) (q := 1) (cs := [eInts (mnyL fm a n j)]) rfl rfl rfl (fun i l c h1 h2 => ?_) (fun i => ?_) ?_ fun i c' hm => ?_
  ·match i, h1, h2 with
   | 0, h1, h2 => cases h1; cases h2; exact .inr ⟨_, rfl, by rw [List.length_map, hm], rfl⟩
   | i + 1, h1, h2 => simp at h1
  ·refine getS_kill (fun x hx => ?_) i
   simp only [rwSt, List.mem_cons, List.not_mem_nil, or_false] at hx
   rcases hx with rfl | rfl | rfl | rfl | rfl | rfl | rfl <;> rfl
  ·show [1, 2].Sublist [1, 0, 2]
   decide
  ·simp only [List.mem_cons, List.not_mem_nil, or_false, Prod.mk.injEq] at hm
   rcases hm with ⟨rfl, rfl⟩ | ⟨rfl, rfl⟩
   ·exact ⟨by decide, .inl ⟨rfl, rfl⟩⟩
   ·exact ⟨by decide, .inr ⟨List.mem_cons_of_mem _ (List.mem_cons_of_mem _ List.mem_cons_self), rfl⟩⟩
 obtain ⟨s', hs', h2⟩ := Le.fz (N := N) (s := ⟨(rwSt w fm a n j).sl, [(1, .obj 36 ([eInts (mnyL fm a n j)].map .p)), (2, .own 3 1 ((folL fm a j).map (.int .i64)))]⟩) (k := 1) (e := 36) (cs := [eInts (mnyL fm a n j)]) rfl (K := fun s' => s' = rwFz w fm a n j) rfl
 rw [hs'] at h2
 exact h1.trans h2
theorem way_Way_Row (w : Way) (f : Pr) (hj : w.p.procs[w.j]? = some f) (hc : cntP w.p.procs ≤ 1000) (n : Nat) (hw : w.n = n) (hn : 2 ≤ n) (hn5 : n ≤ 5000) (fm : List (List Bool)) (hF : DimB n fm) (a : Nat) (ha : a < n) : SpecP Tryz.prog 125 [.ip w.cells, .sl ((bmI fm).map .sl), .int .i64 a] (fun r => ∃ es : List Int, r = eInts (es.map (placeI w.p w.j w.n)) ∧ es.Perm (folL fm a n) ∧ srt (keyM (mnyL fm a n n)) es 0 es.length) := by
 refine SpecP.body I_way_Way_Row tabOK Tryz.func125 rfl Tryz.call125 (by show 3 ≤ _; decide) ?_
 conv => whnf
 obtain ⟨s1, s2⟩ := hF.row ha
 have hr1 : ((bmI fm).map AV.sl)[a]? = some (.sl ((fm.getD a []).map bv)) := by rw [List.getElem?_map, s1]; rfl
 repeat' ((first | (intro (_ : _ ≤ 9223372036854775807)) | (refine And.intro rfl ?_) | (refine And.intro ⟨rfl, rfl, by decide⟩ ?_) | (refine MkK.mk n (by omega) (by show 8 * _ ≤ 140737488355328; omega) (by unfold maxLen; omega) ?_) | (refine IdxK.at (k := a) rfl hr1 rfl ?_)); conv => whnf)
 refine LoopK.inv tabOK (fun x : Nat × Bool => if x.2 then rwFz w fm a n x.1 else rwSt w fm a n x.1) (fun x => x.1 ≤ n ∧ (x.2 = false → x.1 < n) ∧ (x.2 = true → x.1 = n)) (fun x => n - x.1) (0, false)
  (Le.mk [(2, .own 3 1 [])] (by simp [Chunk.new0]; rfl) (by simp) (by simp) (.cons (.refl _) (.cons (.refl _) (.cons (.nil List.mem_cons_self) (.cons (.refl _) (.cons (.refl _) (.cons (.refl _) (.cons (.of_eq rfl) .nil))))))) (.cons rfl (.obj (.cons (.refl _) .nil)) (.cons rfl (.of_eq (by rw [mnyL_zero, List.map_replicate]; rfl)) (.new List.mem_cons_self .nil))))
  ⟨Nat.zero_le _, fun _ => by simp only; omega, fun h => by cases h⟩ ?_
 rintro ⟨j, m⟩ ⟨h2, h3, h4⟩
 simp only at h2 h3 h4
 cases m with
 | false =>
   have hj1 := h3 rfl
   have e1 := hF.bit ha hj1
   obtain ⟨u1, u2⟩ := hF.row hj1
   have hr2 : ((bmI fm).map AV.sl)[j]? = some (.sl ((fm.getD j []).map bv)) := by rw [List.getElem?_map, u1]; rfl
   have fin : ∃ x : Nat × Bool, (x.1 ≤ n ∧ (x.2 = false → x.1 < n) ∧ (x.2 = true → x.1 = n)) ∧ n - x.1 < n - j ∧ Le Tryz.f125.ntmps (rwSt w fm a n (j + 1)) (if x.2 then rwFz w fm a n x.1 else rwSt w fm a n x.1) := by
    rcases Nat.lt_or_ge (j + 1) n with hj2 | hj2
    ·exact ⟨(j + 1, false), ⟨by simp only; omega, fun _ => hj2, fun h => by cases h⟩, by simp only; omega, Le.of_eq rfl⟩
    ·exact ⟨(j + 1, true), ⟨by simp only; omega, (fun h => by cases h), fun _ => by simp only; omega⟩, by simp only; omega, rw_fz w fm a n (j + 1)⟩
   obtain ⟨x, hx1, hx2, hx3⟩ := fin
   have hsucc := folL_succ fm a j
   have hfl := folL_len fm a j
   have hyes := fun h => mnyL_yes (fm := fm) (a := a) hj1 h
   have hno := fun h => mnyL_no (fm := fm) (a := a) (n := n) (j := j) h
   have hml := mnyL_len fm a n j
   have hmg := mnyL_get (fm := fm) (a := a) (j := j) hj1
   rw [if_neg (fun h => by omega)] at hmg
   have hSz := way_size (fm.getD j []) (by rw [List.length_map] at u2; omega)
   unfold rwSt at hx3 ⊢
   rw [hsucc] at hx3
   generalize mnyL fm a n (j + 1) = mn2 at hx3 hyes hno
   generalize mnyL fm a n j = mn at hyes hno hml hmg ⊢
   generalize folL fm a j = fl at hx3 hfl ⊢
   generalize (fm.getD j []).count true = cn at hyes hSz
   have hmg2 := row_get hmg
   cases hv : bitF fm a j with
   | true =>
     have hyes := hyes hv
     rw [hv] at e1
     rw [hv, if_pos rfl] at hx3
     simp only [Bool.false_eq_true, if_false]
     conv => whnf
     repeat' (first | ((first | (refine And.intro rfl ?_) | (refine And.intro ⟨by decide, by decide⟩ ?_) | (refine BsK.pure (fun x hx => by rcases List.mem_singleton.1 hx with rfl; rfl) rfl ?_) | (refine Wr.i64 (by omega) (by omega) ?_) | (refine DrawK.of tabOK mixed (.cons 1 false (.cons 2 false (.cons 3 false (.cons 4 false (.cons 5 false (.fork 0 (.cons 6 true (.cons 7 true (.cons 8 true .nil))) 6 (.cons 0 true (.cons 7 true (.cons 8 true .nil))))))))) (by kernel_rfl) ?_) | (refine IdxK.at (k := j) rfl e1 rfl ?_) | (refine IdxK.at (k := j) rfl hr2 rfl ?_) | (refine AppK.int1 (by simp) (by simp; omega) ?_) | (refine IdxL.mk j rfl (by omega) ?_) | (refine CallK.pure hSz (.cons (Sub.refl _) .nil) ?_; rintro _ rfl) | (refine StOwn.mk j 0 _ (.int .i64 cn) (by omega) hmg2 (Nat.le_refl _) rfl ?_)); conv => whnf) | (refine Br.dec (fun _ => ?_) (fun _ => ?_) <;> first | (exfalso; omega) | conv => whnf) | (refine And.intro ?_ ?_ <;> conv => whnf))
     all_goals first
      | exact ⟨x, hx1, hx2, Le.trans (Le.of_eq (by rw [← hyes, List.map_set]; simp only [List.length_append, List.map_append, List.length_map]; rfl)) hx3⟩
      | skip
   | false =>
     have hno := hno hv
     rw [hv] at e1
     rw [hv, if_neg (by decide), List.append_nil, hno] at hx3
     simp only [Bool.false_eq_true, if_false]
     conv => whnf
     repeat' (first | ((first | (refine Wr.i64 (by omega) (by omega) ?_) | (refine IdxK.at (k := j) rfl e1 rfl ?_)); conv => whnf) | (refine Br.dec (fun _ => ?_) (fun _ => ?_) <;> first | (exfalso; omega) | conv => whnf))
     all_goals first
      | exact ⟨x, hx1, hx2, hx3⟩
      | (exfalso; simp_all; done)
      | skip
 | true =>
   have hje := h4 rfl
   subst hje
   simp only [if_true]
   unfold rwFz
   have hml := mnyL_len fm a j j
   have hmr : ∀ x ∈ mnyL fm a j j, 0 ≤ x ∧ x ≤ 1000000 := fun x hx => by
    obtain ⟨b, hb, rfl⟩ := List.mem_map.1 hx
    rw [List.mem_range] at hb
    obtain ⟨_, u2⟩ := hF.row hb
    rw [List.length_map] at u2
    have := List.count_le_length (a := true) (l := fm.getD b [])
    split <;> omega
   have hfl := folL_len fm a j
   have hfm : ∀ x ∈ folL fm a j, 0 ≤ x ∧ x < ((mnyL fm a j j).length : Int) := fun x hx => by
    obtain ⟨b, hb, rfl⟩ := List.mem_map.1 hx
    have := List.mem_range.1 (List.mem_filter.1 hb).1
    omega
   have hS := sortStable_spec (row1_cmp hmr) (folL fm a j) (folL fm a j).length rfl (by omega) hfm
   conv => whnf
   repeat' (first | ((first | (intro (_ : _ ≤ 9223372036854775807)) | (refine CallK.heap [(1000, 2)] 5 (ArgsH.cons (LSub.refl _) (ArgsH.cons (LSub.refl _) ArgsH.nil)) (by refine BlksH.cons (j := 2) rfl rfl ?_ ?_; exact CSub.refl _; exact BlksH.nil) hS rfl rfl ?_; rintro l' H' ⟨rfl, es, rfl, p1, s1⟩)); conv => whnf) | (refine Br.dec (fun _ => ?_) (fun _ => ?_) <;> first | (exfalso; omega) | conv => whnf))
   have hel := p1.len.1
   have hpm := p1.perm
   have hin : ∀ x ∈ es, 0 ≤ x ∧ x < (j : Int) := fun x hx => by
    have := hfm x (hpm.mem_iff.1 hx)
    omega
   generalize folL fm a j = fl at hel hfl hpm s1 ⊢
   generalize hplc : placeI w.p w.j w.n = plc
   refine LoopK.inv tabOK (fun i : Nat => ⟨[(0, .p (.ip w.cells)), (7, .hd 2 0 fl.length), (45, .hd 2 0 fl.length), (46, .p (.int .i64 fl.length)), (47, .p (.int .i64 i))], [(2, .own 3 1 (((es.take i).map plc ++ es.drop i).map (.int .i64)))]⟩) (fun i => i ≤ es.length) (fun i => es.length - i) 0 (Le.of_eq rfl) (Nat.zero_le _) ?_
   intro i hi
   rcases Nat.lt_or_ge i es.length with hi2 | hi2
   ·have tl : ((es.take i).map plc).length = i := by rw [List.length_map, List.length_take]; omega
    have hd : es.drop i = es[i] :: es.drop (i + 1) := List.drop_eq_getElem_cons hi2
    have hrow : (es.take i).map plc ++ es.drop i = (es.take i).map plc ++ es[i] :: es.drop (i + 1) := by rw [hd]
    have g1 : (((es.take i).map plc ++ es.drop i).map (AV.int .i64))[i]? = some (.int .i64 es[i]) := by
     rw [List.getElem?_map, List.getElem?_append_right (by omega), tl, Nat.sub_self, hd]
     rfl
    have hst : ((es.take i).map plc ++ es.drop i).set i (plc es[i]) = (es.take (i + 1)).map plc ++ es.drop (i + 1) := by
     rw [hrow, set_mid _ _ _ _ tl.symm, List.take_succ_eq_append_getElem hi2, List.map_append, List.append_assoc]
     rfl
    have hr := hin _ (List.getElem_mem hi2)
    have hP := way_Way_Place w f hj hc (by omega) es[i] (by omega)
    rw [hplc] at hP
    generalize (es.take i).map plc ++ es.drop i = row at g1 hst ⊢
    generalize es[i] = x at g1 hst hP
    conv => whnf
    repeat' (first | ((first | (refine And.intro rfl ?_) | (refine Wr.i64 (by omega) (by omega) ?_) | (refine IdxL.mk i rfl (by omega) ?_) | (refine LdOwn.mk i 0 _ (by omega) g1 ?_) | (refine CallK.pure hP (.cons (Sub.refl _) (.cons (Sub.refl _) .nil)) ?_; rintro _ rfl) | (refine StOwn.mk i 0 _ (.int .i64 (plc x)) (by omega) g1 (Nat.le_refl _) rfl ?_)); conv => whnf) | (refine Br.dec (fun _ => ?_) (fun _ => ?_) <;> first | (exfalso; omega) | conv => whnf))
    all_goals first
     | (exfalso; omega)
     | exact ⟨i + 1, by omega, by omega, Le.of_eq (by rw [← hst, List.map_set]; rfl)⟩
     | skip
   ·rw [List.take_of_length_le hi2, List.drop_of_length_le hi2, List.append_nil]
    conv => whnf
    repeat' (refine Br.dec (fun _ => ?_) (fun _ => ?_) <;> first | (exfalso; omega) | conv => whnf)
    all_goals first
     | (exfalso; omega)
     | exact ⟨_, .hd rfl (by simp [hel]), es, rfl, hpm, by rw [hel]; exact s1⟩
     | skip
open Go.Proofs
theorem perm_chain {R : Int → Int → Prop} (anti : ∀ a b, R a b → R b a → a = b) : ∀ {l m : List Int}, l.Perm m → l.Nodup → l.Pairwise R → m.Pairwise R → l = m
 | [], m, h, _, _, _ => (List.nil_perm.1 h).symm
 | a :: l, [], h, _, _, _ => absurd h.length_eq (by simp)
 | a :: l, b :: m, h, hn, hl, hm => by
   rw [List.pairwise_cons] at hl hm
   have hab : a = b := by
    rcases List.mem_cons.1 (h.mem_iff.1 List.mem_cons_self) with h1 | h1
    ·exact h1
    rcases List.mem_cons.1 (h.mem_iff.2 List.mem_cons_self) with h2 | h2
    ·exact h2.symm
    exact anti a b (hl.1 b h2) (hm.1 a h1)
   subst hab
   rw [perm_chain anti (List.Perm.cons_inv h) (List.nodup_cons.1 hn).2 hl.2 hm.2]
theorem avd_mid {R : Int → Int → Prop} {b c a : Int} (h : AvdP R c a) : AvdP R b a ∨ AvdP R c b := by
 induction h with
 | exit h =>
   by_cases hb : b = -1
   ·rw [hb]; exact .inr (.exit h)
   ·exact .inl (.exit hb)
 | @step a t hac hs h ih =>
   by_cases hab : a = b
   ·subst hab
    exact .inr (.step hac hs h)
   ·rcases ih with ih | ih
    ·exact .inl (.step hab hs ih)
    ·exact .inr ih
inductive ToX (R : Int → Int → Prop) : Int → Prop
 | exit : ToX R (-1)
 | step {a t : Int} (hs : R a t) (h : ToX R t) : ToX R a
theorem toX_of {R : Int → Int → Prop} {a : Int} (h : Rch R a (-1)) : ToX R a := by
 have key : ∀ {x y : Int}, Rch R x y → ToX R y → ToX R x := fun {x y} hr => by
  induction hr with
  | refl => exact fun h => h
  | tail _ h2 ih => exact fun h => ih (.step h2 h)
 exact key h .exit
theorem fol_total {R : Int → Int → Prop} {b c : Int} (hne : b ≠ c) (hb : AvdP R c b) (hc : AvdP R b c) {x : Int} (h : ToX R x) : AvdP R b x ∨ AvdP R c x := by
 induction h with
 | exit =>
   by_cases he : b = -1
   ·exact .inr (.exit fun e => hne (by rw [he, e]))
   ·exact .inl (.exit he)
 | @step a t hs _ ih =>
   by_cases h1 : a = b
   ·subst h1; exact .inr hb
   ·by_cases h2 : a = c
    ·subst h2; exact .inl hc
    ·rcases ih with ih | ih
     ·exact .inl (.step h1 hs ih)
     ·exact .inr (.step h2 hs ih)
theorem avd_both {R : Int → Int → Prop} {b c : Int} (hc : ¬ AvdP R b c) (hcx : c ≠ -1) {x : Int} (h : AvdP R b x) : AvdP R c x := by
 induction h with
 | exit h => exact .exit hcx
 | @step a t hab hs h ih => exact .step (fun e => hc (by subst e; exact .step hab hs h)) hs ih
theorem fol_anti {R : Int → Int → Prop} {b c : Int} (hb : ¬ AvdP R c b) (hc : ¬ AvdP R b c) (hx : ToX R b) : b = c := by
 refine Classical.byContradiction fun hne => ?_
 by_cases hcx : c = -1
 ·subst hcx
  exact hc (.exit hne)
 by_cases hbx : b = -1
 ·subst hbx
  exact hb (.exit hcx)
 have key : ∀ {x : Int}, ToX R x → AvdP R c x := fun {x} h => by
  induction h with
  | exit => exact .exit hcx
  | @step a t hs _ ih =>
    by_cases h2 : a = c
    ·subst h2
     have ih2 := avd_both hb hbx ih
     exact absurd (.step (fun e => hne e.symm) hs ih2) hc
    ·exact .step h2 hs ih
 exact hb (key hx)
section
variable {p : Pg} {j : Nat} {f : Pr}
theorem aug_exit (h : chkB p = true) (hj : p.procs[j]? = some f) {x : Int} (hx : plP p j f x) : ToX (aR p j f) x := by
 refine toX_of ((data_exit h hj hx).mono fun a b ⟨s, hs, h1, h2⟩ => ?_)
 rcases List.mem_append.1 ((normS_gen (data_ok h hj)).2.1 s hs) with h3 | h3
 ·obtain ⟨l, hl, t, ht, hid, hk, rfl⟩ := (virt_mem h hj).1 h3
  exact (aR_iff h hj).2 (.inr (.inr (.inl ⟨l, hl, t, ht, hid, hk, h1.symm, h2.symm⟩)))
 ·exact (aR_iff h hj).2 (.inl ⟨s, h3, h1, h2⟩)
theorem folP.self (b : Int) : folP p j f b b := avd_no_self
theorem folP.exit (a : Int) (h : ToX (aR p j f) a) : folP p j f a (-1) := fun ha => by
 clear h
 have key : ∀ {b x : Int}, b = -1 → ¬ AvdP (aR p j f) b x := fun {b x} hb ha => by
  induction ha with
  | exit h => exact h hb
  | step _ _ _ ih => exact ih
 exact key rfl ha
theorem folP.trans {a b c : Int} (h1 : folP p j f a b) (h2 : folP p j f b c) : folP p j f a c := fun h => by
 rcases avd_mid (b := b) h with h3 | h3
 ·exact h1 h3
 ·exact h2 h3
theorem folP.anti (h : chkB p = true) (hj : p.procs[j]? = some f) {b c : Int} (hb : plP p j f b) (h1 : folP p j f b c) (h2 : folP p j f c b) : b = c := fol_anti h1 h2 (aug_exit h hj hb)
theorem folP.total (h : chkB p = true) (hj : p.procs[j]? = some f) {a b c : Int} (ha : plP p j f a) (h1 : folP p j f a b) (h2 : folP p j f a c) : folP p j f b c ∨ folP p j f c b := by
 refine Classical.byContradiction fun hno => ?_
 rw [not_or] at hno
 have hb := Classical.not_not.1 hno.1
 have hc := Classical.not_not.1 hno.2
 have hne : b ≠ c := fun e => hno.1 (by rw [e]; exact folP.self c)
 rcases fol_total hne hb hc (aug_exit h hj ha) with h3 | h3
 ·exact h1 h3
 ·exact h2 h3
structure RowP (p : Pg) (j : Nat) (f : Pr) (a : Int) (l : List Int) : Prop where
 mem : ∀ y, y ∈ l ↔ plP p j f y ∧ folP p j f a y
 nd : l.Nodup
 chain : l.Pairwise (folP p j f)
theorem RowP.uniq (h : chkB p = true) (hj : p.procs[j]? = some f) {a : Int} {l m : List Int} (hl : RowP p j f a l) (hm : RowP p j f a m) : l = m := by
 have hp : l.Perm m := (List.perm_iff_count.2 fun x => by
  by_cases hx : x ∈ l
  ·rw [List.Nodup.count hl.nd, if_pos hx, List.Nodup.count hm.nd, if_pos ((hm.mem x).2 ((hl.mem x).1 hx))]
  ·rw [List.Nodup.count hl.nd, if_neg hx, List.Nodup.count hm.nd, if_neg (fun h => hx ((hl.mem x).2 ((hm.mem x).1 h)))])
 have := perm_chain (R := fun x y => plP p j f x ∧ plP p j f y ∧ folP p j f x y) (fun x y h1 h2 => folP.anti h hj h1.1 h1.2.2 h2.2.2) hp hl.nd
  (hl.chain.imp_of_mem fun {x y} hx hy hxy => ⟨((hl.mem x).1 hx).1, ((hl.mem y).1 hy).1, hxy⟩) (hm.chain.imp_of_mem fun {x y} hx hy hxy => ⟨((hm.mem x).1 hx).1, ((hm.mem y).1 hy).1, hxy⟩)
 exact this
theorem srt_pair {K : Int → Int} : ∀ {l : List Int}, srt K l 0 l.length → l.Pairwise fun x y => K y ≤ K x
 | [], _ => .nil
 | a :: l, h => by
   refine List.pairwise_cons.2 ⟨fun b hb => ?_, srt_pair fun i k h1 h2 h3 => ?_⟩
   ·obtain ⟨i, hi, rfl⟩ := List.mem_iff_getElem.1 hb
    have := h 0 (i + 1) (Nat.le_refl _) (by omega) (by simpa using hi)
    have e : getz (a :: l) (i + 1) = l[i] := by
     unfold getz
     rw [List.getD_cons_succ, List.getD_eq_getElem?_getD, List.getElem?_eq_getElem hi]
     rfl
    rw [e] at this
    exact this
   ·exact h (i + 1) (k + 1) (Nat.zero_le _) (by omega) (by simpa using h3)
theorem row_of (h : chkB p = true) (hj : p.procs[j]? = some f) {fm : List (List Bool)} (hF : FollowP (cntL f.body + 2) (nextR (cntL f.body + 2) (prsA (newWay p j f) f)) fm) {a : Int} (ha : plP p j f a) {es : List Int}
  (hp : es.Perm (folL fm (ixI p j f a).toNat (cntL f.body + 2))) (hs : srt (keyM (mnyL fm (ixI p j f a).toNat (cntL f.body + 2) (cntL f.body + 2))) es 0 es.length) : RowP p j f a (es.map (placeI p j (cntL f.body + 2 : Nat))) := by
 have hra := ix_rng ha
 have hmem : ∀ x : Int, x ∈ es ↔ ∃ b : Nat, b < cntL f.body + 2 ∧ bitF fm (ixI p j f a).toNat b = true ∧ x = b := fun x => by
  rw [hp.mem_iff]
  unfold folL
  rw [List.mem_map]
  constructor
  ·rintro ⟨b, hb, rfl⟩
   obtain ⟨h1, h2⟩ := List.mem_filter.1 hb
   exact ⟨b, List.mem_range.1 h1, h2, rfl⟩
  ·rintro ⟨b, h1, h2, rfl⟩
   exact ⟨b, List.mem_filter.2 ⟨List.mem_range.2 h1, h2⟩, rfl⟩
 have hplc : ∀ x ∈ es, plP p j f (placeI p j (cntL f.body + 2 : Nat) x) ∧ ixI p j f (placeI p j (cntL f.body + 2 : Nat) x) = x ∧ 0 ≤ x ∧ x < (cntL f.body + 2 : Nat) := fun x hx => by
  obtain ⟨b, h1, _, rfl⟩ := (hmem x).1 hx
  obtain ⟨q1, q2⟩ := ix_place (p := p) (j := j) (f := f) (i := (b : Int)) (by omega)
  exact ⟨q1, q2, by omega, by omega⟩
 have hfol : ∀ x ∈ es, folP p j f a (placeI p j (cntL f.body + 2 : Nat) x) := fun x hx => by
  obtain ⟨b, h1, h2, rfl⟩ := (hmem x).1 hx
  obtain ⟨q1, q2, _⟩ := hplc _ hx
  refine (fol_bit h hj hF ha q1).1 ?_
  rw [q2, Int.toNat_natCast]
  exact h2
 have hnd : es.Nodup := by
  rw [hp.nodup_iff]
  unfold folL
  show List.Pairwise _ _
  rw [List.pairwise_map]
  exact (List.Pairwise.filter _ List.nodup_range).imp fun hne he => hne (by omega)
 have hndm : (es.map (placeI p j (cntL f.body + 2 : Nat))).Nodup := by
  show List.Pairwise _ _
  rw [List.pairwise_map]
  refine hnd.imp_of_mem fun {x y} hx hy hne he => hne ?_
  rw [← (hplc x hx).2.1, ← (hplc y hy).2.1, he]
 have hkey : ∀ x ∈ es, keyM (mnyL fm (ixI p j f a).toNat (cntL f.body + 2) (cntL f.body + 2)) x = (((fm.getD x.toNat []).count true : Nat) : Int) := fun x hx => by
  obtain ⟨b, h1, h2, rfl⟩ := (hmem x).1 hx
  unfold keyM getz
  rw [Int.toNat_natCast, List.getD_eq_getElem?_getD, mnyL_get h1, if_pos ⟨h1, h2⟩]
  rfl
 refine ⟨fun y => ?_, hndm, ?_⟩
 ·rw [List.mem_map]
  constructor
  ·rintro ⟨x, hx, rfl⟩
   exact ⟨(hplc x hx).1, hfol x hx⟩
  ·rintro ⟨h1, h2⟩
   have hr := ix_rng h1
   have hb := (fol_bit h hj hF ha h1).2 h2
   refine ⟨ixI p j f y, (hmem _).2 ⟨(ixI p j f y).toNat, by omega, hb, by omega⟩, place_ix h1⟩
 ·rw [List.pairwise_map]
  refine (List.pairwise_and_iff.2 ⟨srt_pair hs, hnd⟩).imp_of_mem fun {x y} hx hy hxy => ?_
  obtain ⟨hk, hne⟩ := hxy
  rw [hkey x hx, hkey y hy] at hk
  obtain ⟨px, ix, x0, x1⟩ := hplc x hx
  obtain ⟨py, iy, y0, y1⟩ := hplc y hy
  rcases folP.total h hj ha (hfol x hx) (hfol y hy) with h1 | h1
  ·exact h1
  ·exfalso
   have hrow : ∀ z : Int, 0 ≤ z → z < (cntL f.body + 2 : Nat) → (fm.getD z.toNat []).length = cntL f.body + 2 := fun z z0 z1 => by
    have hl := hF.inv.len
    rw [List.getD_eq_getElem?_getD, List.getElem?_eq_getElem (by omega)]
    exact hF.inv.rows _ (List.getElem_mem _)
   have hlt := count_lt (r := fm.getD x.toNat []) (s := fm.getD y.toNat []) (by rw [hrow x x0 x1, hrow y y0 y1]) (fun b hb => by
    rcases Nat.lt_or_ge b (cntL f.body + 2) with hbn | hbn
    ·obtain ⟨q1, q2⟩ := ix_place (p := p) (j := j) (f := f) (i := (b : Int)) (by omega)
     have h3 : folP p j f (placeI p j (cntL f.body + 2 : Nat) x) (placeI p j (cntL f.body + 2 : Nat) b) := (fol_bit h hj hF px q1).1 (by rw [ix, q2, Int.toNat_natCast]; exact hb)
     have h4 := (fol_bit h hj hF py q1).2 (h1.trans h3)
     rw [iy, q2, Int.toNat_natCast] at h4
     exact h4
    ·rw [List.getD_eq_getElem?_getD, List.getElem?_eq_none (by rw [hrow x x0 x1]; exact hbn)] at hb
     cases hb) (fun he => by
    have h3 := (fol_bit h hj hF py py).2 (folP.self _)
    have h4 : bitF fm (ixI p j f (placeI p j (cntL f.body + 2 : Nat) x)).toNat (ixI p j f (placeI p j (cntL f.body + 2 : Nat) y)).toNat = true := by
     rw [ix, iy] at *
     unfold bitF at h3 ⊢
     rw [he]
     exact h3
    have h5 := (fol_bit h hj hF px py).1 h4
    have h6 := folP.anti h hj px h5 h1
    rw [← ix, ← iy, h6] at hne
    exact hne rfl)
   omega
noncomputable def folR (p : Pg) (j : Nat) (f : Pr) (a : Int) : List Int := @Classical.epsilon _ ⟨[]⟩ (RowP p j f a)
theorem RowP.eq (h : chkB p = true) (hj : p.procs[j]? = some f) {a : Int} {l : List Int} (hl : RowP p j f a l) : l = folR p j f a := hl.uniq h hj (Classical.epsilon_spec (p := RowP p j f a) ⟨l, hl⟩)
end
open Go.Proofs
section
variable {p : Pg} {j : Nat} {f : Pr}
theorem folR_row (h : chkB p = true) (hj : p.procs[j]? = some f) {a : Int} (ha : plP p j f a) : RowP p j f a (folR p j f a) := by
 obtain ⟨fm, hF⟩ := follow_ex (n := cntL f.body + 2) (nextR_get (prsA_in h hj))
 have hra := ix_rng ha
 have hex : ∃ l, RowP p j f a l := by
  refine Classical.byContradiction fun hno => ?_
  have : ∀ (m : List Int), m.Nodup → (∀ y ∈ m, plP p j f y ∧ folP p j f a y) → ∃ l : List Int, l.Perm m ∧ l.Pairwise (folP p j f) := fun m => by
   induction m with
   | nil => exact fun _ _ => ⟨[], .refl _, .nil⟩
   | cons x m ih =>
     intro hn hm
     obtain ⟨l, hl, hc⟩ := ih (List.nodup_cons.1 hn).2 fun y hy => hm y (List.mem_cons_of_mem _ hy)
     have ins : ∀ (l : List Int), (∀ y ∈ l, plP p j f y ∧ folP p j f a y) → l.Pairwise (folP p j f) → ∃ l' : List Int, l'.Perm (x :: l) ∧ l'.Pairwise (folP p j f) := fun l => by
      induction l with
      | nil => exact fun _ _ => ⟨[x], .refl _, List.pairwise_singleton _ _⟩
      | cons y l ih2 =>
        intro hl hc
        rw [List.pairwise_cons] at hc
        have hx := hm x List.mem_cons_self
        have hy := hl y List.mem_cons_self
        rcases folP.total h hj ha hx.2 hy.2 with h1 | h1
        ·refine ⟨x :: y :: l, .refl _, List.pairwise_cons.2 ⟨fun z hz => ?_, List.pairwise_cons.2 hc⟩⟩
         rcases List.mem_cons.1 hz with rfl | hz
         ·exact h1
         ·exact h1.trans (hc.1 z hz)
        ·obtain ⟨l', hp, hc'⟩ := ih2 (fun z hz => hl z (List.mem_cons_of_mem _ hz)) hc.2
         refine ⟨y :: l', (hp.cons y).trans (.swap x y l), List.pairwise_cons.2 ⟨fun z hz => ?_, hc'⟩⟩
         rcases List.mem_cons.1 (hp.mem_iff.1 hz) with rfl | hz
         ·exact h1
         ·exact hc.1 z hz
     obtain ⟨l', hp, hc'⟩ := ins l (fun y hy => hm y (List.mem_cons_of_mem _ (hl.mem_iff.1 hy))) hc
     exact ⟨l', hp.trans (hl.cons x), hc'⟩
  obtain ⟨l, hl, hc⟩ := this ((plL p j f).filter fun y => @decide (folP p j f a y) (Classical.propDecidable _)) (by
   refine List.Pairwise.filter _ ?_
   unfold plL
   refine List.pairwise_cons.2 ⟨fun y hy => ?_, List.pairwise_cons.2 ⟨fun y hy => ?_, idsN_nodup _ _⟩⟩
   ·rcases List.mem_cons.1 hy with rfl | hy
    ·decide
    ·have := idsN_mem hy
     omega
   ·have := idsN_mem hy
    omega) (fun y hy => by
   obtain ⟨h1, h2⟩ := List.mem_filter.1 hy
   exact ⟨plL_mem.1 h1, (@decide_eq_true_iff _ (Classical.propDecidable _)).1 h2⟩)
  refine hno ⟨l, fun y => ?_, ?_, hc⟩
  ·rw [hl.mem_iff, List.mem_filter, plL_mem]
   exact and_congr_right fun _ => @decide_eq_true_iff _ (Classical.propDecidable _)
  ·rw [hl.nodup_iff]
   refine List.Pairwise.filter _ ?_
   unfold plL
   refine List.pairwise_cons.2 ⟨fun y hy => ?_, List.pairwise_cons.2 ⟨fun y hy => ?_, idsN_nodup _ _⟩⟩
   ·rcases List.mem_cons.1 hy with rfl | hy
    ·decide
    ·have := idsN_mem hy
     omega
   ·have := idsN_mem hy
    omega
 exact Classical.epsilon_spec (p := RowP p j f a) hex
theorem folR_len (h : chkB p = true) (hj : p.procs[j]? = some f) {a : Int} (ha : plP p j f a) : (folR p j f a).length ≤ cntL f.body + 2 := by
 have hR := folR_row h hj ha
 have := nodup_len (m := plL p j f) hR.nd fun y hy => plL_mem.2 ((hR.mem y).1 hy).1
 have h2 : (plL p j f).length = cntL f.body + 2 := by unfold plL idsN; simp
 omega
end
theorem row_spec {p : Pg} {j : Nat} {f : Pr} (h : chkB p = true) (hj : p.procs[j]? = some f) {fm : List (List Bool)} (hF : FollowP (cntL f.body + 2) (nextR (cntL f.body + 2) (prsA (newWay p j f) f)) fm) {x : Int} (hx : plP p j f x) :
  SpecP Tryz.prog 125 [.ip (newWay p j f).cells, .sl ((bmI fm).map .sl), .int .i64 (ixI p j f x)] (fun r => r = eInts (folR p j f x)) := by
 have hT := wayT h hj
 have hr := ix_rng hx
 have := way_Way_Row (newWay p j f) f hT.hj hT.hc (cntL f.body + 2) hT.hw hT.hn2 hT.hn fm ⟨hF.inv.len, hF.inv.rows⟩ (ixI p j f x).toNat (by omega)
 rw [Int.toNat_of_nonneg hr.1] at this
 refine this.mono fun r hr => ?_
 obtain ⟨es, rfl, hp, hs⟩ := hr
 rw [← (row_of h hj hF hx hp hs).eq h hj]
 rfl
open Go.Proofs
theorem pair_rep {σ : Mem} {a b : Int} {v : Value} (h : Rep σ (.agg [.int .i64 a, .int .i64 b]) v) : v = .agg #[.int .i64 a, .int .i64 b] := by
 cases h with
 | agg cs vs u hn hc hr =>
   have hs : vs.size = 2 := hn
   have g : ∀ (j : Nat) (n : Int), [AV.int .i64 a, .int .i64 b][j]? = some (.int .i64 n) → vs[j]? = some (.int .i64 n) := fun j n hj => by
    have h1 := hc j _ hj
    have h2 := hr j _ hj
    cases hu : u j <;> rw [hu] at h2 <;> cases h2
    rw [h1, hu]
   congr 1
   apply Array.ext_getElem?
   intro i
   match i with
   | 0 => exact g 0 _ rfl
   | 1 => exact g 1 _ rfl
   | i + 2 => rw [Array.getElem?_eq_none (by omega), Array.getElem?_eq_none (by simp)]
theorem ValO.pairNe {hr : Bool} {s : St} {o : Oper} {K : LV → Prop} {x y : Operand} {u : TypeId} (hop : o.op = .binOp .neq 47 x y u) {a b : Int × Int} (hx : evalO s.sl x = .p (.agg [.int .i64 a.1, .int .i64 a.2])) (hy : evalO s.sl y = .p (.agg [.int .i64 b.1, .int .i64 b.2]))
  (hK : K (.p (.bool (!decide (a = b))))) : ValO Tryz.prog hr s o K := by
 refine ⟨fun σ β ac w hs _ => ⟨_, .bool (!decide (a = b)), hK, .p (.bool _), fun w' _ _ => ?_⟩⟩
 have h1 : ac.eval x = .agg #[.int .i64 a.1, .int .i64 a.2] := by
  have := evalO_rep hs x
  rw [hx] at this
  cases this with
  | p h => exact pair_rep h
 have h2 : ac.eval y = .agg #[.int .i64 b.1, .int .i64 b.2] := by
  have := evalO_rep hs y
  rw [hy] at this
  cases this with
  | p h => exact pair_rep h
 have hu : Tryz.prog.underlying 47 = some (.array 2 3) := by kernel_rfl
 have hi : Tryz.prog.underlying 3 = some (.int .i64) := by kernel_rfl
 have hin : Tryz.prog.info? 3 = some ((Tryz.prog.info? 3).getD default) := by kernel_rfl
 have hce : Tryz.prog.cellsOf 3 = 1 := by kernel_rfl
 have he : (Op.equalIn 10000 47 (.agg #[.int .i64 a.1, .int .i64 a.2]) (.agg #[.int .i64 b.1, .int .i64 b.2])).run Tryz.prog w' = .ok (decide (a = b)) w' := by
  rw [run_equalIn_array w' 9999 _ _ hu hin, hce]
  have p0 : ∀ x y : Int, (part 3 #[.int .i64 x, .int .i64 y] 0).run Tryz.prog w' = .ok (.int .i64 x) w' := fun x y => run_part_plain w' (by kernel_rfl) rfl
  have p1 : ∀ x y : Int, (part 3 #[.int .i64 x, .int .i64 y] 1).run Tryz.prog w' = .ok (.int .i64 y) w' := fun x y => run_part_plain w' (by kernel_rfl) rfl
  have ei : ∀ x y : Int, (Op.equalIn 9999 3 (.int .i64 x) (.int .i64 y)).run Tryz.prog w' = .ok (x == y) w' := fun a b => run_equalIn_int (P := Tryz.prog) w' 9998 3 .i64 .i64 a b hi
  have e : decide (a = b) = ((a.1 == b.1) && (a.2 == b.2)) := by
   cases a; cases b
   simp only [Prod.mk.injEq, Bool.decide_and]
   rfl
  rw [e, show List.range 2 = [0, 1] from rfl]
  simp only [Op.eqItems, Nat.zero_mul, Nat.one_mul, Sem.run_bind, p0, p1, Result.andThen_ok, ei]
  cases h1 : (a.1 == b.1) <;> cases h2 : (a.2 == b.2) <;> simp [p1, ei, h1, h2]
 simp only [execOp, hop, h1, h2, Sem.run_bind, run_eqGuard_agg _ _ _ _ _ _ _ (show Tryz.prog.eqGuardType Tryz.prog.depth 47 = false by kernel_rfl), Result.andThen_ok, run_neq_struct, he, Sem.run_pure]
theorem whittlerlaw18_eqPairs (l m : List (Int × Int)) : SpecP Tryz.prog 41 [.sl (avP l), .sl (avP m)] (fun r => r = .bool (decide (l = m))) := by
 refine SpecP.body I_whittlerlaw18_eqPairs tabOK Tryz.func41 rfl Tryz.call41 (by show 2 ≤ _; decide) ?_
 conv => whnf
 have h1 : (avP l).length = l.length := by unfold avP; rw [List.length_map]
 have h2 : (avP m).length = m.length := by unfold avP; rw [List.length_map]
 repeat' (first | ((first | (intro (_ : _ ≤ 9223372036854775807)) | (refine DrawK.auto tabOK mixed (by kernel_rfl) ?_) | (refine And.intro rfl ?_) | (refine And.intro ⟨by decide, by decide⟩ ?_) | (refine And.intro ⟨rfl, rfl, by decide⟩ ?_) | (refine BsK.pure (fun x hx => by rcases List.mem_singleton.1 hx with rfl; rfl) rfl ?_) | (refine IdxK.map (by omega) (fun _ => rfl) ?_) | (refine IdxK.xs (by omega) ?_) | (refine IdxK.ss (by omega) ?_) | (refine ByteK.at (by omega) ?_) | (refine Wr.i64 (by omega) (by omega) ?_)); conv => whnf) | (refine Br.dec (fun _ => ?_) (fun _ => ?_) <;> first | (exfalso; omega) | conv => whnf) | (refine Br.dec2 (fun _ => ?_) (fun _ => ?_) <;> first | (exfalso; omega) | conv => whnf) | (refine Br.n (fun _ => ?_) (fun _ => ?_) <;> conv => whnf) | (refine Br.b (fun _ => ?_) (fun _ => ?_) <;> conv => whnf))
 all_goals first
  | exact RetK.ff (decide_eq_false fun h => by subst h; omega)
  | skip
 have hlen : l.length = m.length := by omega
 refine LoopK.inv tabOK (fun j : Nat => ⟨[(0, .p (.sl (avP l))), (1, .p (.sl (avP m))), (12, .p (.int .i64 (avP l).length)), (13, .p (.int .i64 j))], []⟩) (fun j => j ≤ l.length ∧ l.take j = m.take j) (fun j => l.length - j) 0 (Le.of_eq rfl) ⟨Nat.zero_le _, rfl⟩ ?_
 rintro j ⟨h3, h4⟩
 rcases Nat.lt_or_ge j l.length with hj | hj
 ·have e1 : (avP l)[j]? = some (.agg [.int .i64 l[j].1, .int .i64 l[j].2]) := by simp [avP, hj]
  have e2 : (avP m)[j]? = some (.agg [.int .i64 (m[j]'(by omega)).1, .int .i64 (m[j]'(by omega)).2]) := by simp [avP, show j < m.length by omega]
  have hst := fun (he : l[j] = (m[j]'(by omega))) => take_same h4 hj (by omega) he
  have hno : l[j] ≠ (m[j]'(by omega)) → ¬ l = m := fun hne he => hne (by subst he; rfl)
  generalize l[j] = u at e1 hst hno
  generalize (m[j]'(by omega)) = v at e2 hst hno
  conv => whnf
  repeat' (first | ((first | (intro (_ : _ ≤ 9223372036854775807)) | (refine DrawK.auto tabOK mixed (by kernel_rfl) ?_) | (refine And.intro rfl ?_) | (refine And.intro ⟨by decide, by decide⟩ ?_) | (refine And.intro ⟨rfl, rfl, by decide⟩ ?_) | (refine BsK.pure (fun x hx => by rcases List.mem_singleton.1 hx with rfl; rfl) rfl ?_) | (refine IdxK.map (by omega) (fun _ => rfl) ?_) | (refine IdxK.xs (by omega) ?_) | (refine IdxK.ss (by omega) ?_) | (refine ByteK.at (by omega) ?_) | (refine Wr.i64 (by omega) (by omega) ?_) | (refine IdxK.at (k := j) rfl e1 rfl ?_) | (refine IdxK.at (k := j) rfl e2 rfl ?_) | (refine ValO.pairNe rfl rfl rfl ?_)); conv => whnf) | (refine Br.dec (fun _ => ?_) (fun _ => ?_) <;> first | (exfalso; omega) | conv => whnf) | (refine Br.dec2 (fun _ => ?_) (fun _ => ?_) <;> first | (exfalso; omega) | conv => whnf) | (refine Br.n (fun _ => ?_) (fun _ => ?_) <;> conv => whnf) | (refine Br.b (fun _ => ?_) (fun _ => ?_) <;> conv => whnf))
  all_goals first
   | exact RetK.ff (decide_eq_false (hno (by simp_all)))
   | exact ⟨j + 1, ⟨by omega, hst (by simp_all)⟩, by omega, Le.of_eq rfl⟩
   | skip
 ·conv => whnf
  repeat' (first | ((first | (intro (_ : _ ≤ 9223372036854775807)) | (refine DrawK.auto tabOK mixed (by kernel_rfl) ?_) | (refine And.intro rfl ?_) | (refine And.intro ⟨by decide, by decide⟩ ?_) | (refine And.intro ⟨rfl, rfl, by decide⟩ ?_) | (refine BsK.pure (fun x hx => by rcases List.mem_singleton.1 hx with rfl; rfl) rfl ?_) | (refine IdxK.map (by omega) (fun _ => rfl) ?_) | (refine IdxK.xs (by omega) ?_) | (refine IdxK.ss (by omega) ?_) | (refine ByteK.at (by omega) ?_) | (refine Wr.i64 (by omega) (by omega) ?_)); conv => whnf) | (refine Br.dec (fun _ => ?_) (fun _ => ?_) <;> first | (exfalso; omega) | conv => whnf) | (refine Br.dec2 (fun _ => ?_) (fun _ => ?_) <;> first | (exfalso; omega) | conv => whnf) | (refine Br.n (fun _ => ?_) (fun _ => ?_) <;> conv => whnf) | (refine Br.b (fun _ => ?_) (fun _ => ?_) <;> conv => whnf))
  exact RetK.tt (decide_eq_true (all_same h4 hj (by omega)))
noncomputable def treL (p : Pg) (j : Nat) (f : Pr) (a : Nat) : List (Int × Int) := (List.range a).map fun (x : Nat) => (placeI p j (cntL f.body + 2 : Nat) x, (folR p j f (placeI p j (cntL f.body + 2 : Nat) x)).getD 1 0)
noncomputable def treO (p : Pg) (n : Str) : List (Int × Int) := match wayO p n with
 | some w => (match w.p.procs[w.j]? with
   | some f => treL w.p w.j f (cntL f.body + 1)
   | none => [])
 | none => []
theorem treO_some {p : Pg} {n : Str} {k : Nat} {f : Pr} (hw : wayO p n = some (newWay p k f)) (hk : p.procs[k]? = some f) : treO p n = treL p k f (cntL f.body + 1) := by
 have h : (newWay p k f).p.procs[(newWay p k f).j]? = some f := hk
 unfold treO
 rw [hw]
 simp only
 rw [h]
 rfl
theorem treO_none {p : Pg} {n : Str} (hw : wayO p n = none) : treO p n = [] := by
 unfold treO
 rw [hw]
theorem treL_succ (p : Pg) (j : Nat) (f : Pr) (a : Nat) : treL p j f (a + 1) = treL p j f a ++ [(placeI p j (cntL f.body + 2 : Nat) a, (folR p j f (placeI p j (cntL f.body + 2 : Nat) a)).getD 1 0)] := by
 unfold treL
 rw [List.range_succ, List.map_append]
 rfl
theorem treL_len (p : Pg) (j : Nat) (f : Pr) (a : Nat) : (treL p j f a).length = a := by unfold treL; simp
theorem folR_two {p : Pg} {j : Nat} {f : Pr} (h : chkB p = true) (hj : p.procs[j]? = some f) {x : Int} (hx : plP p j f x) (hne : x ≠ -1) : 2 ≤ (folR p j f x).length := by
 have hR := folR_row h hj hx
 have h1 : x ∈ folR p j f x := (hR.mem x).2 ⟨hx, folP.self x⟩
 have h2 : (-1 : Int) ∈ folR p j f x := (hR.mem _).2 ⟨.inr (.inl rfl), folP.exit x (aug_exit h hj hx)⟩
 match hq : folR p j f x, h1, h2 with
 | [], h1, _ => cases h1
 | [y], h1, h2 =>
   have e1 := List.mem_singleton.1 h1
   have e2 := List.mem_singleton.1 h2
   omega
 | _ :: _ :: _, _, _ => simp
theorem dom_Tree (p : Pg) (hf : Fit p) (n : Str) : SpecP Tryz.prog 67 [.agg p.cells, .str n] (fun r => r = .sl (avP (treO p n))) := by
 refine SpecP.body I_dom_Tree tabOK Tryz.func67 rfl Tryz.call67 (by show 2 ≤ _; decide) ?_
 conv => whnf
 have hW := way_Of p hf n
 cases hw : wayO p n with
 | none =>
   rw [treO_none hw]
   rw [hw] at hW
   repeat' (first | ((first | (intro (_ : _ ≤ 9223372036854775807)) | (refine DrawK.auto tabOK mixed (by kernel_rfl) ?_) | (refine And.intro rfl ?_) | (refine And.intro ⟨by decide, by decide⟩ ?_) | (refine And.intro ⟨rfl, rfl, by decide⟩ ?_) | (refine BsK.pure (fun x hx => by rcases List.mem_singleton.1 hx with rfl; rfl) rfl ?_) | (refine IdxK.map (by omega) (fun _ => rfl) ?_) | (refine IdxK.xs (by omega) ?_) | (refine IdxK.ss (by omega) ?_) | (refine ByteK.at (by omega) ?_) | (refine Wr.i64 (by omega) (by omega) ?_) | (refine CallK.pure hW (.cons (Sub.refl _) (.cons (Sub.refl _) .nil)) ?_; rintro _ rfl)); conv => whnf) | (refine Br.dec (fun _ => ?_) (fun _ => ?_) <;> first | (exfalso; omega) | conv => whnf) | (refine Br.dec2 (fun _ => ?_) (fun _ => ?_) <;> first | (exfalso; omega) | conv => whnf) | (refine Br.n (fun _ => ?_) (fun _ => ?_) <;> conv => whnf) | (refine Br.b (fun _ => ?_) (fun _ => ?_) <;> conv => whnf))
   exact ⟨_, .p Sub.nils, rfl⟩
 | some w =>
   obtain ⟨k, f, hkj, rfl, hc, _⟩ := wayO_some hw
   have hT := wayT hc hkj
   have hn2 := hT.hn2
   have hn5 := hT.hn
   have hwn := hT.hw
   rw [treO_some hw hkj]
   rw [hw] at hW
   have hFo := way_Way_Follow (newWay p k f) f (cntL f.body + 2) hT (prsA_in hc hkj) (Nat.le_trans (aug_len hc hkj) (by decide))
   repeat' (first | ((first | (intro (_ : _ ≤ 9223372036854775807)) | (refine DrawK.auto tabOK mixed (by kernel_rfl) ?_) | (refine And.intro rfl ?_) | (refine And.intro ⟨by decide, by decide⟩ ?_) | (refine And.intro ⟨rfl, rfl, by decide⟩ ?_) | (refine BsK.pure (fun x hx => by rcases List.mem_singleton.1 hx with rfl; rfl) rfl ?_) | (refine IdxK.map (by omega) (fun _ => rfl) ?_) | (refine IdxK.xs (by omega) ?_) | (refine IdxK.ss (by omega) ?_) | (refine ByteK.at (by omega) ?_) | (refine Wr.i64 (by omega) (by omega) ?_) | (refine CallK.pure hW (.cons (Sub.refl _) (.cons (Sub.refl _) .nil)) ?_; rintro _ rfl) | (refine CallK.pure hFo (.cons (Sub.refl _) .nil) ?_; rintro _ ⟨fm, hF, rfl⟩)); conv => whnf) | (refine Br.dec (fun _ => ?_) (fun _ => ?_) <;> first | (exfalso; omega) | conv => whnf) | (refine Br.dec2 (fun _ => ?_) (fun _ => ?_) <;> first | (exfalso; omega) | conv => whnf) | (refine Br.n (fun _ => ?_) (fun _ => ?_) <;> conv => whnf) | (refine Br.b (fun _ => ?_) (fun _ => ?_) <;> conv => whnf))
   refine LoopK.inv tabOK (fun a : Nat => ⟨[(5, .p (.ip (newWay p k f).cells)), (6, .hd 0 0 (treL p k f a).length), (7, .p (.sl ((bmI fm).map .sl))), (8, .p (.int .i64 a))], [(0, .own 47 2 (avP (treL p k f a)))]⟩) (fun a => a ≤ cntL f.body + 1) (fun a => cntL f.body + 1 - a) 0
    (Le.mk [(0, .own 47 2 [])] (by simp [Chunk.new0]; rfl) (by simp) (by simp) (.cons (.refl _) (.cons (.nil List.mem_cons_self) (.cons (.refl _) (.cons (.of_eq rfl) .nil)))) (.new List.mem_cons_self .nil)) (Nat.zero_le _) ?_
   intro a ha
   have hal := treL_len p k f a
   rcases Nat.lt_or_ge a (cntL f.body + 1) with ha2 | ha2
   ·obtain ⟨q1, q2⟩ := ix_place (p := p) (j := k) (f := f) (i := (a : Int)) (by omega)
    have hne : placeI p k (cntL f.body + 2 : Nat) a ≠ -1 := fun e => by
     rw [e, ix_exit] at q2
     omega
    have hR := row_spec hc hkj hF q1
    rw [q2] at hR
    have hP := way_Way_Place (newWay p k f) f hT.hj hT.hc (by omega) a (by omega)
    have heP : placeI (newWay p k f).p (newWay p k f).j (newWay p k f).n a = placeI p k (cntL f.body + 2 : Nat) a := rfl
    rw [heP] at hP
    have hsucc := treL_succ p k f a
    have htwo := folR_two hc hkj q1 hne
    have hg := row_at (l := folR p k f (placeI p k (cntL f.body + 2 : Nat) a)) (i := 1) (by omega)
    have hgz : getz (folR p k f (placeI p k (cntL f.body + 2 : Nat) a)) 1 = (folR p k f (placeI p k (cntL f.body + 2 : Nat) a)).getD 1 0 := rfl
    rw [hgz] at hg
    have hlen2 := folR_len hc hkj q1
    generalize (folR p k f (placeI p k (cntL f.body + 2 : Nat) a)).getD 1 0 = nr at hsucc hg
    generalize folR p k f (placeI p k (cntL f.body + 2 : Nat) a) = fr at hR hg htwo hlen2
    generalize placeI p k (cntL f.body + 2 : Nat) a = pl at hP hsucc
    generalize treL p k f a = acc at hal hsucc ⊢
    have haa : (avP acc).length = acc.length := by unfold avP; rw [List.length_map]
    conv => whnf
    repeat' (first | ((first | (intro (_ : _ ≤ 9223372036854775807)) | (refine DrawK.auto tabOK mixed (by kernel_rfl) ?_) | (refine And.intro rfl ?_) | (refine And.intro ⟨by decide, by decide⟩ ?_) | (refine And.intro ⟨rfl, rfl, by decide⟩ ?_) | (refine BsK.pure (fun x hx => by rcases List.mem_singleton.1 hx with rfl; rfl) rfl ?_) | (refine IdxK.map (by omega) (fun _ => rfl) ?_) | (refine IdxK.xs (by omega) ?_) | (refine IdxK.ss (by omega) ?_) | (refine ByteK.at (by omega) ?_) | (refine Wr.eq (m := (cntL f.body+1:Nat)) (by omega) (by omega) (by omega) ?_) | (refine Wr.i64 (by omega) (by omega) ?_) | (refine CallK.pure hP (.cons (Sub.refl _) (.cons (Sub.refl _) .nil)) ?_; rintro _ rfl) | (refine CallK.pure hR (.cons (Sub.refl _) (.cons (Sub.refl _) (.cons (Sub.refl _) .nil))) ?_; rintro _ rfl) | (refine IdxK.at (k := 1) rfl hg rfl ?_) | (refine BsK.pureL rfl rfl ?_) | (refine AppK.mk haa.symm rfl (by show (acc.length+1) * 16 ≤ 140737488355328; omega) (by show acc.length+1 ≤ 9223372036854775807; omega) (fun x hx => by rcases List.mem_singleton.1 hx with rfl; exact ⟨rfl, rfl⟩) ?_)); conv => whnf) | (refine Br.dec (fun _ => ?_) (fun _ => ?_) <;> first | (exfalso; omega) | conv => whnf) | (refine Br.dec2 (fun _ => ?_) (fun _ => ?_) <;> first | (exfalso; omega) | conv => whnf) | (refine Br.n (fun _ => ?_) (fun _ => ?_) <;> conv => whnf) | (refine Br.b (fun _ => ?_) (fun _ => ?_) <;> conv => whnf))
    all_goals first
     | (exfalso; omega)
     | exact ⟨a + 1, by omega, by omega, Le.of_eq (by rw [hsucc]; simp only [avP, List.length_append, List.map_append]; rfl)⟩
     | skip
   ·have hae : a = cntL f.body + 1 := by omega
    subst hae
    conv => whnf
    repeat' (first | ((first | (intro (_ : _ ≤ 9223372036854775807)) | (refine DrawK.auto tabOK mixed (by kernel_rfl) ?_) | (refine And.intro rfl ?_) | (refine And.intro ⟨by decide, by decide⟩ ?_) | (refine And.intro ⟨rfl, rfl, by decide⟩ ?_) | (refine BsK.pure (fun x hx => by rcases List.mem_singleton.1 hx with rfl; rfl) rfl ?_) | (refine IdxK.map (by omega) (fun _ => rfl) ?_) | (refine IdxK.xs (by omega) ?_) | (refine IdxK.ss (by omega) ?_) | (refine ByteK.at (by omega) ?_) | (refine Wr.eq (m := (cntL f.body+1:Nat)) (by omega) (by omega) (by omega) ?_) | (refine Wr.i64 (by omega) (by omega) ?_)); conv => whnf) | (refine Br.dec (fun _ => ?_) (fun _ => ?_) <;> first | (exfalso; omega) | conv => whnf) | (refine Br.dec2 (fun _ => ?_) (fun _ => ?_) <;> first | (exfalso; omega) | conv => whnf) | (refine Br.n (fun _ => ?_) (fun _ => ?_) <;> conv => whnf) | (refine Br.b (fun _ => ?_) (fun _ => ?_) <;> conv => whnf))
    all_goals first
     | (exfalso; omega)
     | exact ⟨_, .hd rfl (by unfold avP; rw [List.length_map]), rfl⟩
     | skip
open Go.Proofs
section
variable {a b : Str} {p : Pg} {j : Nat} {f : Pr}
theorem body_sw : (swPr a b f).body = swL a b f.body := rfl
theorem cntB_sw : cntL (swPr a b f).body = cntL f.body := by rw [body_sw, cntL_sw]
theorem itsOf_sw : itsOf (swPg a b p) j (swPr a b f) = (itsOf p j f).map (swI a b) := by
 unfold itsOf
 rw [show (swPg a b p).procs = p.procs.map (swPr a b) from rfl, offN_sw, body_sw, itL_sw]
theorem fOf_sw (it : Item) : fOf (swI a b it) = fOf it := by
 unfold fOf swI
 simp only [swS_kind, swS_id]
theorem newWay_n : (newWay (swPg a b p) j (swPr a b f)).n = (newWay p j f).n := by rw [newWay_sw]; rfl
theorem placeI_sw (n : Int) : placeI (swPg a b p) j n = placeI p j n := by
 funext i
 unfold placeI
 rw [loI_sw]
theorem prsW_sw : prsW (newWay (swPg a b p) j (swPr a b f)) (swPr a b f) = prsW (newWay p j f) f := by
 rw [prs_new, prs_new, ixP_sw, body_sw, cntL_sw, newWay_sw]
 rfl
theorem trapsW_sw : trapsW (newWay (swPg a b p) j (swPr a b f)) (swPr a b f) = trapsW (newWay p j f) f := by
 have h1 : partW (newWay (swPg a b p) j (swPr a b f)) (swPr a b f) = partW (newWay p j f) f := by
  unfold partW
  rw [prsW_sw, newWay_n]
 unfold trapsW
 rw [h1, prsW_sw, newWay_n, show (newWay (swPg a b p) j (swPr a b f)).p = swPg a b p from rfl, show (newWay (swPg a b p) j (swPr a b f)).j = j from rfl, placeI_sw]
 rfl
theorem vOf_sw (id : Int) : vOf (swPg a b p) id = vOf p id := by
 unfold vOf
 rw [stAt_sw]
 cases stAt p id with
 | none => rfl
 | some s => simp only [Option.map_some, swS_kind]
theorem augW_sw : augW (newWay (swPg a b p) j (swPr a b f)) (swPr a b f) = augW (newWay p j f) f := by
 have hv : virtW (newWay (swPg a b p) j (swPr a b f)) (swPr a b f) = virtW (newWay p j f) f := by
  unfold virtW
  rw [trapsW_sw]
  congr 1
  funext l
  congr 1
  funext id
  exact vOf_sw id
 unfold augW augRaw
 rw [hv, show (newWay (swPg a b p) j (swPr a b f)).p = swPg a b p from rfl, show (newWay (swPg a b p) j (swPr a b f)).j = j from rfl, itsOf_sw, List.flatMap_map]
 have hr : (newWay (swPg a b p) j (swPr a b f)).real = (newWay p j f).real := by rw [newWay_sw]; rfl
 rw [hr]
 congr 2
 congr 1
 funext it
 exact fOf_sw it
theorem aR_sw : aR (swPg a b p) j (swPr a b f) = aR p j f := by
 unfold aR
 rw [augW_sw]
theorem plP_sw : plP (swPg a b p) j (swPr a b f) = plP p j f := by
 funext x
 unfold plP
 rw [show (swPg a b p).procs = p.procs.map (swPr a b) from rfl, offN_sw, cntB_sw]
theorem folP_sw : folP (swPg a b p) j (swPr a b f) = folP p j f := by
 funext x y
 unfold folP
 rw [aR_sw]
theorem folR_sw (x : Int) : folR (swPg a b p) j (swPr a b f) x = folR p j f x := by
 unfold folR
 congr 1
 funext l
 refine propext ⟨fun h => ⟨?_, h.nd, ?_⟩, fun h => ⟨?_, h.nd, ?_⟩⟩
 ·have := h.mem
  rwa [plP_sw, folP_sw] at this
 ·have := h.chain
  rwa [folP_sw] at this
 ·rw [plP_sw, folP_sw]
  exact h.mem
 ·rw [folP_sw]
  exact h.chain
theorem prsA_sw : prsA (newWay (swPg a b p) j (swPr a b f)) (swPr a b f) = prsA (newWay p j f) f := by
 unfold prsA
 rw [augW_sw, newWay_n, show (newWay (swPg a b p) j (swPr a b f)).p = swPg a b p from rfl, show (newWay (swPg a b p) j (swPr a b f)).j = j from rfl, ixP_sw]
 rfl
theorem decL_sw (n : Nat) : decL (newWay (swPg a b p) j (swPr a b f)) (swPr a b f) n = decL (newWay p j f) f n := by
 unfold decL
 rw [prsA_sw, newWay_n, show (newWay (swPg a b p) j (swPr a b f)).p = swPg a b p from rfl, show (newWay (swPg a b p) j (swPr a b f)).j = j from rfl, placeI_sw]
 rfl
theorem treL_sw (n : Nat) : treL (swPg a b p) j (swPr a b f) n = treL p j f n := by
 unfold treL
 rw [cntB_sw, placeI_sw]
 congr 1
 funext x
 rw [folR_sw]
end
theorem way_sw {a b : Str} (h : Ren a b) {p : Pg} (hc : chkB p = true) {n : Str} {k : Nat} {f : Pr} (hw : wayO p n = some (newWay p k f)) (hk : p.procs[k]? = some f) : wayO (swPg a b p) (otherS a b n) = some (newWay (swPg a b p) k (swPr a b f)) ∧ (swPg a b p).procs[k]? = some (swPr a b f) := by
 rw [wayO_sw h, hw, newWay_sw]
 refine ⟨rfl, ?_⟩
 show (p.procs.map (swPr a b))[k]? = _
 rw [List.getElem?_map, hk]
 rfl
theorem decO_sw {a b : Str} (h : Ren a b) {p : Pg} (hc : chkB p = true) {n : Str} {k : Nat} {f : Pr} (hw : wayO p n = some (newWay p k f)) (hk : p.procs[k]? = some f) : decO (swPg a b p) (otherS a b n) = decO p n ∧ treO (swPg a b p) (otherS a b n) = treO p n := by
 obtain ⟨h1, h2⟩ := way_sw h hc hw hk
 rw [decO_some h1 h2, decO_some hw hk, treO_some h1 h2, treO_some hw hk, cntB_sw, decL_sw, treL_sw]
 exact ⟨rfl, rfl⟩
open Go.Proofs
theorem whittlerref3_Swap (a b : Str) (p : Pg) (hpl : p.procs.length ≤ 1000) (hgl : p.globals.length ≤ 1000000) (hpr : ∀ f ∈ p.procs, f.vars.length ≤ 1000000 ∧ f.fin.length ≤ 1000000 ∧ f.params.length ≤ 1000000 ∧ cntL f.body ≤ 1000000 ∧ ∀ t ∈ flL f.body, okC t) : SpecP Tryz.prog 73 [.agg p.cells, .str a, .str b] (fun r => r = .agg (swPg a b p).cells) := by
 refine SpecP.body I_whittlerref3_Swap tabOK Tryz.func73 rfl Tryz.call73 (by show 3 ≤ _; decide) ?_
 conv => whnf
 have hgt := whittlerref3_SwapTexts p.globals a b hgl
 have hpm : (p.procs.map fun f => AV.agg f.cells).length = p.procs.length := List.length_map _
 repeat' ((first | (intro (_ : _ ≤ 9223372036854775807)) | (refine And.intro rfl ?_) | (refine CallK.pure hgt (.cons (Sub.refl _) (.cons (Sub.refl _) (.cons (Sub.refl _) .nil))) ?_; rintro _ rfl)); conv => whnf)
 refine LoopK.inv tabOK (fun j : Nat => ⟨[(1, .p (.str a)), (2, .p (.str b)), (6, .ptr 1 0), (7, .ptr 0 0), (20, .p (.sl (p.procs.map fun f => AV.agg f.cells))), (21, .p (.int .i64 (p.procs.map fun f => AV.agg f.cells).length)), (22, .p (.int .i64 j))], [(0, .obj 25 [.p (eStrs (p.globals.map (otherS a b))), .hd 2 0 j]), (1, .obj 25 [.p .nils, .p .nils]), (2, .own 67 5 ((p.procs.take j).map fun f => .agg (swPr a b f).cells))]⟩) (fun j => j ≤ p.procs.length) (fun j => p.procs.length - j) 0
  (Le.mk [(2, .own 67 5 [])] (by simp [Chunk.new0]; rfl) (by simp) (by simp) (.cons (.refl _) (.cons (.refl _) (.cons (.refl _) (.cons (.refl _) (.cons (.refl _) (.cons (.refl _) (.cons (.refl _) .nil))))))) (.cons rfl (.obj (.cons (.refl _) (.cons (.nil List.mem_cons_self) .nil))) (.cons rfl (.refl _) (.new List.mem_cons_self .nil)))) (Nat.zero_le _) ?_
 intro j h2
 rcases Nat.lt_or_ge j p.procs.length with hj | hj
 ·obtain ⟨hv, hfin, hpm2, hcb, hok⟩ := hpr _ (List.getElem_mem hj)
  have h5 := whittlerref3_SwapTexts p.procs[j].vars a b hv
  have h6 := whittlerref3_SwapTexts p.procs[j].fin a b hfin
  have h7 := whittlerref3_SwapStmts a b (cntL p.procs[j].body + 1) p.procs[j].body (by omega) hcb hok
  have htl : ((p.procs.take j).map fun f => AV.agg (swPr a b f).cells).length = j := by rw [List.length_map, List.length_take]; omega
  have htk : ((p.procs.take (j + 1)).map fun f => AV.agg (swPr a b f).cells) = ((p.procs.take j).map fun f => AV.agg (swPr a b f).cells) ++ [.agg (swPr a b p.procs[j]).cells] := by
   rw [List.take_succ_eq_append_getElem hj, List.map_append]
   rfl
  generalize ((p.procs.take j).map fun f => AV.agg (swPr a b f).cells) = acc at htl htk ⊢
  have hpa : (p.procs[j].params.map fun x => AV.agg x.cells).length = p.procs[j].params.length := List.length_map _
  conv => whnf
  repeat' (first | ((first | (intro (_ : _ ≤ 9223372036854775807)) | (refine CallK.pure (whittlerref3_other _ _ _) (by repeat' (first | exact ArgP.nil | refine ArgP.cons ?_ ?_ | exact Sub.refl _ | exact Sub.tt rfl | exact Sub.ff rfl)) ?_; rintro _ rfl) | (refine DrawK.auto tabOK mixed (by kernel_rfl) ?_) | (refine And.intro rfl ?_) | (refine IdxK.map (by omega) (fun _ => rfl) ?_) | (refine CallK.pure h5 (.cons (Sub.refl _) (.cons (Sub.refl _) (.cons (Sub.refl _) .nil))) ?_; rintro _ rfl) | (refine CallK.pure h6 (.cons (Sub.refl _) (.cons (Sub.refl _) (.cons (Sub.refl _) .nil))) ?_; rintro _ rfl) | (refine CallK.pure h7 (.cons (Sub.refl _) (.cons (Sub.refl _) (.cons (Sub.refl _) .nil))) ?_; rintro _ rfl)); conv => whnf) | (refine Br.dec (fun _ => ?_) (fun _ => ?_) <;> first | (exfalso; omega) | conv => whnf) | (refine And.intro ?_ ?_ <;> conv => whnf))
  all_goals
   refine LoopK.inv tabOK (fun i : Nat => ⟨[(1, .p (.str a)), (2, .p (.str b)), (6, .ptr 1 0), (7, .ptr 0 0), (10, .ptr 3 0), (20, .p (.sl (p.procs.map fun f => AV.agg f.cells))), (21, .p (.int .i64 (p.procs.map fun f => AV.agg f.cells).length)), (22, .p (.int .i64 j)), (48, .p (.sl (p.procs[j].params.map fun x => AV.agg x.cells))), (49, .p (.int .i64 (p.procs[j].params.map fun x => AV.agg x.cells).length)), (50, .p (.int .i64 i))], [(3, .obj 67 [.p (.str (otherS a b p.procs[j].name)), .hd 4 0 i, .p (eStrs (p.procs[j].vars.map (otherS a b))), .p (eSs (swL a b p.procs[j].body)), .p (eStrs (p.procs[j].fin.map (otherS a b)))]), (0, .obj 25 [.p (eStrs (p.globals.map (otherS a b))), .hd 2 0 j]), (1, .obj 25 [.p .nils, .p .nils]), (2, .own 67 5 acc), (4, .own 71 2 ((p.procs[j].params.take i).map fun x => .agg (swPm a b x).cells))]⟩) (fun i => i ≤ p.procs[j].params.length) (fun i => p.procs[j].params.length - i) 0
    (Le.mk [(4, .own 71 2 [])] (by simp [Chunk.new0]; rfl) (by simp) (by simp) (.cons (.refl _) (.cons (.refl _) (.cons (.refl _) (.cons (.refl _) (.cons (.refl _) (.cons (.refl _) (.cons (.refl _) (.cons (.refl _) (.cons (.refl _) (.cons (.refl _) (.cons (.refl _) (.nil)))))))))))) (.cons rfl (.obj (.cons (.refl _) (.cons (.nil List.mem_cons_self) (.cons (.refl _) (.cons (.refl _) (.cons (.refl _) .nil)))))) (.cons rfl (.refl _) (.cons rfl (.refl _) (.cons rfl (.refl _) (.new List.mem_cons_self .nil)))))) (Nat.zero_le _) ?_
   intro i h3
   rcases Nat.lt_or_ge i p.procs[j].params.length with hi | hi
   ·have htk2 : ((p.procs[j].params.take (i + 1)).map fun x => AV.agg (swPm a b x).cells) = ((p.procs[j].params.take i).map fun x => AV.agg (swPm a b x).cells) ++ [.agg (swPm a b p.procs[j].params[i]).cells] := by
     rw [List.take_succ_eq_append_getElem hi, List.map_append]
     rfl
    have hcl : ((p.procs[j].params.take i).map fun x => AV.agg (swPm a b x).cells).length = i := by rw [List.length_map, List.length_take]; omega
    generalize ((p.procs[j].params.take i).map fun x => AV.agg (swPm a b x).cells) = accA at htk2 hcl ⊢
    conv => whnf
    repeat' (first | ((first | (refine CallK.pure (whittlerref3_other _ _ _) (by repeat' (first | exact ArgP.nil | refine ArgP.cons ?_ ?_ | exact Sub.refl _ | exact Sub.tt rfl | exact Sub.ff rfl)) ?_; rintro _ rfl) | (refine DrawK.auto tabOK mixed (by kernel_rfl) ?_) | (refine And.intro rfl ?_) | (refine And.intro ⟨by decide, by decide⟩ ?_) | (refine BsK.pure (fun x hx => by rcases List.mem_singleton.1 hx with rfl; rfl) rfl ?_) | (refine IdxK.map (by omega) (fun _ => rfl) ?_) | (refine Wr.i64 (by omega) (by omega) ?_) | (refine AppK.mk hcl.symm rfl (by show (i+1) * 24 ≤ 140737488355328; omega) (by show i+1 ≤ 9223372036854775807; omega) (fun x hx => by rcases List.mem_singleton.1 hx with rfl; exact ⟨rfl, rfl⟩) ?_)); conv => whnf) | (refine Br.dec (fun _ => ?_) (fun _ => ?_) <;> first | (exfalso; omega) | conv => whnf) | (refine And.intro ?_ ?_ <;> conv => whnf))
    all_goals exact ⟨i + 1, hi, by omega, Le.of_eq (by rw [htk2]; rfl)⟩
   ·have hA : ((p.procs[j].params.take i).map fun x => AV.agg (swPm a b x).cells) = ((swPr a b p.procs[j]).params.map fun x => .agg x.cells) := by
     rw [List.take_of_length_le hi]
     show _ = (p.procs[j].params.map (swPm a b)).map _
     rw [List.map_map]
     rfl
    have hcl : i = ((p.procs[j].params.take i).map fun x => AV.agg (swPm a b x).cells).length := by rw [List.length_map, List.length_take]; omega
    generalize ((p.procs[j].params.take i).map fun x => AV.agg (swPm a b x).cells) = accA at hA hcl ⊢
    conv => whnf
    repeat' (refine Br.dec (fun _ => ?_) (fun _ => ?_) <;> first | (exfalso; omega) | conv => whnf)
    refine OpK.layAgg tabOK (k := 4) 70 (swPr a b p.procs[j]).cells rfl rfl rfl (fun q u c h1 h2 => ?_) ?_
    ·match q, h1, h2 with
     | 0, h1, h2 => cases h1; cases h2; exact .inl ⟨_, rfl, Sub.refl _⟩
     | 1, h1, h2 => cases h1; cases h2; exact .inr ⟨_, rfl, hcl, by rw [hA]⟩
     | 2, h1, h2 => cases h1; cases h2; exact .inl ⟨_, rfl, Sub.refl _⟩
     | 3, h1, h2 => cases h1; cases h2; exact .inl ⟨_, rfl, Sub.refl _⟩
     | 4, h1, h2 => cases h1; cases h2; exact .inl ⟨_, rfl, Sub.refl _⟩
     | q + 5, h1, h2 => simp at h1
    conv => whnf
    repeat' ((first | (refine And.intro rfl ?_) | (refine And.intro ⟨by decide, by decide⟩ ?_) | (refine BsK.pure (fun x hx => by rcases List.mem_singleton.1 hx with rfl; rfl) rfl ?_) | (refine Wr.i64 (by omega) (by omega) ?_) | (refine AppK.mk htl.symm rfl (by show (j+1) * 112 ≤ 140737488355328; omega) (by show j+1 ≤ 9223372036854775807; omega) (fun x hx => by rcases List.mem_singleton.1 hx with rfl; exact ⟨rfl, rfl⟩) ?_)); conv => whnf)
    exact ⟨j + 1, hj, by omega, Le.of_eq (by rw [htk]; rfl)⟩
 ·have hA : ((p.procs.take j).map fun f => AV.agg (swPr a b f).cells) = ((swPg a b p).procs.map fun f => .agg f.cells) := by
   rw [List.take_of_length_le hj]
   show _ = (p.procs.map (swPr a b)).map _
   rw [List.map_map]
   rfl
  have hcl : j = ((p.procs.take j).map fun f => AV.agg (swPr a b f).cells).length := by rw [List.length_map, List.length_take]; omega
  generalize ((p.procs.take j).map fun f => AV.agg (swPr a b f).cells) = acc at hA hcl ⊢
  conv => whnf
  repeat' (first | (refine And.intro rfl ?_; conv => whnf) | (refine Br.dec (fun _ => ?_) (fun _ => ?_) <;> first | (exfalso; omega) | conv => whnf))
  refine ⟨_, .agg (cs := (swPg a b p).cells) rfl fun i l c h1 h3 => ?_, rfl⟩
  match i, h1, h3 with
  | 0, h1, h3 => cases h1; cases h3; exact .p (Sub.refl _)
  | 1, h1, h3 =>
    cases h1
    cases h3
    show Frz _ _ (.sl ((swPg a b p).procs.map fun f => .agg f.cells))
    rw [← hA]
    exact .hd rfl hcl
  | i + 2, h1, h3 => simp at h1
open Go.Proofs
theorem may_name (a : Str) : mayX (.mk 2 0 a []) = isName a := by
 unfold mayX
 rw [deepB]
 show (decide ((0 : Int) = kidsN 2) && (if (2 : Int) = 1 then _ else if (2 : Int) = 2 then decide ((0 : Int) = 0) && isName a else _)) = isName a
 simp [kidsN]
theorem okC_of {p : Pg} (h : Fit p) {f : Pr} (hf : f ∈ p.procs) : ∀ t ∈ flL f.body, okC t := fun t ht => by
 have h1 := h.pr hf
 unfold wPr at h1
 have h2 := flL_w _ _ ht
 have h3 := wS_eq t
 have h4 := wTxs_len t.labels
 have h5 := wArgs_len t.args
 refine ⟨by omega, by omega, by omega, fun a ha => ?_⟩
 have key : ∀ (l : List Arg), a ∈ l → wX a.x ≤ wArgs l := fun l => by
  induction l with
  | nil => intro h; cases h
  | cons b r ih =>
    intro h
    rw [wArgs]
    rcases List.mem_cons.1 h with rfl | h
    ·omega
    ·have := ih h; omega
 have := key _ ha
 omega
theorem swap_ok {p : Pg} (h : Fit p) (hc : chkB p = true) : p.procs.length ≤ 1000 ∧ p.globals.length ≤ 1000000 ∧ ∀ f ∈ p.procs, f.vars.length ≤ 1000000 ∧ f.fin.length ≤ 1000000 ∧ f.params.length ≤ 1000000 ∧ cntL f.body ≤ 1000000 ∧ ∀ t ∈ flL f.body, okC t := by
 obtain ⟨h1, h2, h3⟩ := chk_cnt hc
 refine ⟨by omega, by omega, fun f hf => ?_⟩
 have h4 := h.pr hf
 unfold wPr at h4
 have h5 := wTxs_len f.vars
 have h6 := wTxs_len f.fin
 have h7 := wPms_len f.params
 have h8 := cnt_wL f.body
 exact ⟨by omega, by omega, by omega, by omega, okC_of h hf⟩
open Go.Proofs
def avF (nx : List (List Int)) (n b : Nat) : Nat → Nat → Bool
 | 0, _ => false
 | k + 1, a => (decide (a = n - 1) && decide (b ≠ n - 1)) || (decide (a ≠ b) && (nx.getD a []).any fun t => decide (0 ≤ t) && avF nx n b k t.toNat)
theorem avF_avd {nx : List (List Int)} {n b : Nat} : ∀ (k a : Nat), avF nx n b k a = true → Avd nx n b a
 | 0, _, h => by cases h
 | k + 1, a, h => by
   rw [avF, Bool.or_eq_true, Bool.and_eq_true, Bool.and_eq_true, decide_eq_true_eq, decide_eq_true_eq, decide_eq_true_eq, List.any_eq_true] at h
   rcases h with ⟨rfl, h⟩ | ⟨h1, t, ht, h2⟩
   ·exact .exit h
   ·rw [Bool.and_eq_true, decide_eq_true_eq] at h2
    exact .step h1 (by rw [Int.toNat_of_nonneg h2.1]; exact ht) (avF_avd k _ h2.2)
theorem follow_of {n : Nat} {nx : List (List Int)} {G : List (List Bool)} (hl : G.length = n) (hr : ∀ r ∈ G, r.length = n) (hlast : G.getD (n - 1) [] = filRow n (n - 1))
  (hfix : ((List.range (n - 1)).all fun a => decide (G.getD a [] = rowF n nx G a)) = true) (hmin : ((List.range n).all fun a => (List.range n).all fun b => bitF G a b || avF nx n b n a) = true) : FollowP n nx G := by
 have hf : ∀ a, a < n - 1 → G.getD a [] = rowF n nx G a := fun a ha => of_decide_eq_true (List.all_eq_true.1 hfix a (List.mem_range.2 ha))
 refine ⟨⟨hl, hr, hlast, fun a b ha hb h => ?_, fun a b ha hb h => ?_⟩, hf⟩
 ·unfold bitF
  rw [hf a ha]
  exact h
 ·have h1 := List.all_eq_true.1 (List.all_eq_true.1 hmin a (List.mem_range.2 ha)) b (List.mem_range.2 hb)
  rw [h, Bool.false_or] at h1
  exact avF_avd _ _ h1
theorem prsA1 : prsA (newWay someP 1 f1) f1 = [(0, 1), (0, 5), (1, 2), (2, 3), (2, 4), (3, 4), (3, 5), (4, 5)] := by
 unfold prsA
 rw [aug1]
 kernel_rfl
theorem prsA0 : prsA (newWay someP 0 f0) f0 = [(0, 1), (0, 5), (1, 2), (2, 3), (3, 4), (4, 5)] := by
 unfold prsA
 rw [aug0]
 kernel_rfl
def fol1 : List (List Bool) := [[true, false, false, false, false, true], [false, true, true, false, false, true], [false, false, true, false, false, true], [false, false, false, true, false, true], [false, false, false, false, true, true], [false, false, false, false, false, true]]
def fol0 : List (List Bool) := [[true, false, false, false, false, true], [false, true, true, true, true, true], [false, false, true, true, true, true], [false, false, false, true, true, true], [false, false, false, false, true, true], [false, false, false, false, false, true]]
theorem foll1 : folM 6 (nextR 6 [(0, 1), (0, 5), (1, 2), (2, 3), (2, 4), (3, 4), (3, 5), (4, 5)]) = fol1 := (follow_of (by kernel_rfl) (by decide) (by kernel_rfl) (by kernel_rfl) (by kernel_rfl)).eq.symm
theorem foll0 : folM 6 (nextR 6 [(0, 1), (0, 5), (1, 2), (2, 3), (3, 4), (4, 5)]) = fol0 := (follow_of (by kernel_rfl) (by decide) (by kernel_rfl) (by kernel_rfl) (by kernel_rfl)).eq.symm
theorem decL1 : decO someP [112] = [(0, 5), (0, 6), (6, 7), (6, 8), (7, 8)] := by
 rw [decO_some (f := f1) some_way rfl]
 show decL (newWay someP 1 f1) f1 6 = _
 unfold decL
 rw [prsA1, foll1]
 kernel_rfl
theorem decL0 : decO someP [109, 97, 105, 110] = [(0, 1), (0, 2), (0, 3), (0, 4)] := by
 rw [decO_some (f := f0) some_way0 rfl]
 show decL (newWay someP 0 f0) f0 6 = _
 unfold decL
 rw [prsA0, foll0]
 kernel_rfl
theorem by8 : byR someP [112] 8 = [6, 7] := by
 unfold byR
 rw [decL1]
 kernel_rfl
theorem in7 : inR someP 7 = [6] := by
 unfold inR
 rw [some_chk]
 kernel_rfl
theorem whittlerlaw18_deciding : SpecP Tryz.prog 39 [] (fun r => r = .tt) := by
 have hB := cdep_By someP some_fit [112] 8
 rw [by8] at hB
 have hI := cdep_In someP some_fit 7
 rw [in7] at hI
 have hO := cdep_Of someP some_fit [109, 97, 105, 110]
 rw [decL0] at hO
 refine SpecP.body I_whittlerlaw18_deciding tabOK Tryz.func39 rfl Tryz.call39 (by show 0 ≤ _; decide) ?_
 conv => whnf
 repeat' (first | ((first | (intro (_ : _ ≤ 9223372036854775807)) | (refine And.intro rfl ?_) | (refine CallK.pure whittlerref3_Some .nil ?_; rintro _ rfl) | (refine CallK.pure hB (.cons (Sub.refl _) (.cons (Sub.refl _) (.cons (Sub.refl _) .nil))) ?_; rintro _ rfl) | (refine CallK.pure hI (.cons (Sub.refl _) (.cons (Sub.refl _) .nil)) ?_; rintro _ rfl) | (refine CallK.pure hO (.cons (Sub.refl _) (.cons (Sub.refl _) .nil)) ?_; rintro _ rfl) | (refine IdxK.at (k := 0) (e := .int .i64 6) rfl rfl rfl ?_) | (refine IdxK.at (k := 1) (e := .int .i64 7) rfl rfl rfl ?_)); conv => whnf) | (refine Br.dec (fun _ => ?_) (fun _ => ?_) <;> first | (exfalso; omega) | conv => whnf))
 all_goals first
  | exact RetK.tt rfl
  | exact ⟨_, .p (Sub.tt' rfl), rfl⟩
  | exact ⟨_, .p (Sub.tt rfl), rfl⟩
  | (rename_i h; exact absurd rfl h)
  | skip
open Go.Proofs
inductive TrD (p : Pg) (n : Str) (b : Int) : Int → Prop
 | base {a : Int} (h : a ∈ byR p n b) : TrD p n b a
 | step {x a : Int} (hx : TrD p n b x) (h0 : x ≠ 0) (h : a ∈ byR p n x) : TrD p n b a
theorem TrD.trans {p : Pg} {n : Str} {b x a : Int} (h : TrD p n b x) (h0 : x ≠ 0) (h' : TrD p n x a) : TrD p n b a := by
 induction h' with
 | base h1 => exact .step h h0 h1
 | step _ h1 h2 ih => exact .step ih h1 h2
section
variable {p : Pg} {j : Nat} {f : Pr} {n : Str}
end
open Go.Proofs
theorem small_chk {p : Pg} {m : Int} (h : smallB p m = true) : chkB p = true := by
 unfold smallB at h
 rw [Bool.and_eq_true] at h
 exact h.1
open Go.Proofs
theorem whittlerlaw18_CdepSwap (p : Pg) (a b : Str) (n : Int) : SpecP Tryz.prog 14 [.agg p.cells, .str a, .str b, .int .i64 n] (fun r => r = .tt) := by
 refine SpecP.body I_whittlerlaw18_CdepSwap tabOK Tryz.func14 rfl Tryz.call14 (by show 4 ≤ _; decide) ?_
 conv => whnf
 cases hfb : fitB p with
 | false =>
   have hno : ¬ gPg p ≤ 20000 := by unfold fitB at hfb; simpa using hfb
   repeat' (first | ((first | (intro (_ : _ ≤ 9223372036854775807)) | (refine CallK.pure (whittlerref3_Fits _) (by repeat' (first | exact ArgP.nil | refine ArgP.cons ?_ ?_ | exact Sub.refl _ | exact Sub.tt rfl | exact Sub.ff rfl)) ?_; rintro _ rfl) | (refine DrawK.auto tabOK mixed (by kernel_rfl) ?_) | (refine And.intro rfl ?_) | (refine And.intro ⟨by decide, by decide⟩ ?_) | (refine And.intro ⟨rfl, rfl, by decide⟩ ?_) | (refine BsK.pure (fun x hx => by rcases List.mem_singleton.1 hx with rfl; rfl) rfl ?_) | (refine IdxK.map (by omega) (fun _ => rfl) ?_) | (refine IdxK.xs (by omega) ?_) | (refine IdxK.ss (by omega) ?_) | (refine ByteK.at (by omega) ?_) | (refine Wr.i64 (by omega) (by omega) ?_) | (refine CallK.pure whittlerlaw18_deciding .nil ?_; rintro _ rfl)); conv => whnf) | (refine Br.dec (fun _ => ?_) (fun _ => ?_) <;> first | (exfalso; omega) | conv => whnf) | (refine Br.dec2 (fun _ => ?_) (fun _ => ?_) <;> first | (exfalso; omega) | conv => whnf) | (refine Br.n (fun _ => ?_) (fun _ => ?_) <;> conv => whnf) | (refine Br.b (fun _ => ?_) (fun _ => ?_) <;> conv => whnf))
   all_goals first
    | exact ⟨_, .p (Sub.refl _), rfl⟩
    | (exfalso; simp_all; done)
 | true =>
   have hf : Fit p := fit_of hfb
   have hfit : gPg p ≤ 20000 := by unfold fitB at hfb; simpa using hfb
   have hC := whittlerlaw18_small p hf 60
   cases hs : smallB p 60 with
   | false =>
     rw [hs] at hC
     repeat' (first | ((first | (intro (_ : _ ≤ 9223372036854775807)) | (refine CallK.pure (whittlerref3_Fits _) (by repeat' (first | exact ArgP.nil | refine ArgP.cons ?_ ?_ | exact Sub.refl _ | exact Sub.tt rfl | exact Sub.ff rfl)) ?_; rintro _ rfl) | (refine DrawK.auto tabOK mixed (by kernel_rfl) ?_) | (refine And.intro rfl ?_) | (refine And.intro ⟨by decide, by decide⟩ ?_) | (refine And.intro ⟨rfl, rfl, by decide⟩ ?_) | (refine BsK.pure (fun x hx => by rcases List.mem_singleton.1 hx with rfl; rfl) rfl ?_) | (refine IdxK.map (by omega) (fun _ => rfl) ?_) | (refine IdxK.xs (by omega) ?_) | (refine IdxK.ss (by omega) ?_) | (refine ByteK.at (by omega) ?_) | (refine Wr.i64 (by omega) (by omega) ?_) | (refine CallK.pure whittlerlaw18_deciding .nil ?_; rintro _ rfl) | (refine CallK.pure hC (.cons (Sub.refl _) (.cons (Sub.refl _) .nil)) ?_; rintro _ rfl)); conv => whnf) | (refine Br.dec (fun _ => ?_) (fun _ => ?_) <;> first | (exfalso; omega) | conv => whnf) | (refine Br.dec2 (fun _ => ?_) (fun _ => ?_) <;> first | (exfalso; omega) | conv => whnf) | (refine Br.n (fun _ => ?_) (fun _ => ?_) <;> conv => whnf) | (refine Br.b (fun _ => ?_) (fun _ => ?_) <;> conv => whnf))
     all_goals first
      | contradiction
      | exact ⟨_, .p (Sub.refl _), rfl⟩
   | true =>
     rw [hs] at hC
     have hc := small_chk hs
     have hMA := tree_MayExpr (.mk 2 0 a [])
     have hMB := tree_MayExpr (.mk 2 0 b [])
     rw [may_name] at hMA hMB
     have subX : ∀ s : Str, Sub (.agg [.int .i64 2, .int .i64 0, .str s, .nils]) (.agg (X.mk 2 0 s []).cells) := fun s => Sub.agg (.cons (Sub.refl _) (.cons (Sub.refl _) (.cons (Sub.refl _) (.cons Sub.nils .nil))))
     by_cases hnames : isName a = true ∧ isName b = true ∧ a ≠ mainS ∧ b ≠ mainS
     ·obtain ⟨hna, hnb, hma, hmb⟩ := hnames
      rw [hna] at hMA
      rw [hnb] at hMB
      have R : Ren a b := ⟨hna, hnb, hma, hmb⟩
      have hf2 : Fit (swPg a b p) := fit_sw hf
      obtain ⟨o1, o2, o3⟩ := swap_ok hf hc
      have hS := whittlerref3_Swap a b p o1 o2 o3
      have hc2 : chkB (swPg a b p) = true := by rw [chkB_sw R, hc]
      have hP1 := whittlerref6_ProcAt p n (fit_procs hc)
      have hP2 := whittlerref6_ProcAt (swPg a b p) n (fit_procs hc2)
      obtain ⟨k, f, hkj, hw, _⟩ := procAt_way hc n
      have hsw := decO_sw R hc hw hkj
      have hO1 := cfg_Of p hf (procAtR p n)
      have hO2 := cfg_Of (swPg a b p) hf2 (procAtR (swPg a b p) n)
      have hD1 := cdep_Of p hf (procAtR p n)
      have hD2 := cdep_Of (swPg a b p) hf2 (procAtR (swPg a b p) n)
      have hT1 := dom_Tree p hf (procAtR p n)
      have hT2 := dom_Tree (swPg a b p) hf2 (procAtR (swPg a b p) n)
      rw [procAt_sw R] at hP2 hO2 hD2 hT2
      rw [ofR_sw R] at hO2
      rw [hsw.1] at hD2
      rw [hsw.2] at hT2
      have hQ1 := whittlerlaw18_eqPairs (decO p (procAtR p n)) (decO p (procAtR p n))
      have hQ2 := whittlerlaw18_eqPairs (treO p (procAtR p n)) (treO p (procAtR p n))
      rw [decide_eq_true rfl] at hQ1 hQ2
      have hma' : (a == ([109, 97, 105, 110] : Str)) = false := beq_eq_false_iff_ne.2 hma
      have hmb' : (b == ([109, 97, 105, 110] : Str)) = false := beq_eq_false_iff_ne.2 hmb
      clear hsw hw hkj
      generalize otherS a b (procAtR p n) = pn2 at *
      generalize procAtR p n = pn1 at *
      generalize ofR p pn1 = L at *
      generalize decO p pn1 = D at *
      generalize treO p pn1 = T at *
      generalize swPg a b p = q at *
      repeat' (first | ((first | (intro (_ : _ ≤ 9223372036854775807)) | (refine CallK.pure (whittlerref3_Fits _) (by repeat' (first | exact ArgP.nil | refine ArgP.cons ?_ ?_ | exact Sub.refl _ | exact Sub.tt rfl | exact Sub.ff rfl)) ?_; rintro _ rfl) | (refine DrawK.auto tabOK mixed (by kernel_rfl) ?_) | (refine And.intro rfl ?_) | (refine And.intro ⟨by decide, by decide⟩ ?_) | (refine And.intro ⟨rfl, rfl, by decide⟩ ?_) | (refine BsK.pure (fun x hx => by rcases List.mem_singleton.1 hx with rfl; rfl) rfl ?_) | (refine IdxK.map (by omega) (fun _ => rfl) ?_) | (refine IdxK.xs (by omega) ?_) | (refine IdxK.ss (by omega) ?_) | (refine ByteK.at (by omega) ?_) | (refine Wr.i64 (by omega) (by omega) ?_) | (refine CallK.pure whittlerlaw18_deciding .nil ?_; rintro _ rfl) | (refine CallK.pure hC (.cons (Sub.refl _) (.cons (Sub.refl _) .nil)) ?_; rintro _ rfl) | (refine CallK.pure hMA (.cons (subX _) .nil) ?_; rintro _ rfl) | (refine CallK.pure hMB (.cons (subX _) .nil) ?_; rintro _ rfl) | (refine CallK.pure hS (.cons (Sub.refl _) (.cons (Sub.refl _) (.cons (Sub.refl _) .nil))) ?_; rintro _ rfl) | (refine CallK.pure hP1 (.cons (Sub.refl _) (.cons (Sub.refl _) .nil)) ?_; rintro _ rfl) | (refine CallK.pure hP2 (.cons (Sub.refl _) (.cons (Sub.refl _) .nil)) ?_; rintro _ rfl) | (refine CallK.pure hD1 (.cons (Sub.refl _) (.cons (Sub.refl _) .nil)) ?_; rintro _ rfl) | (refine CallK.pure hD2 (.cons (Sub.refl _) (.cons (Sub.refl _) .nil)) ?_; rintro _ rfl) | (refine CallK.pure hQ1 (.cons (Sub.refl _) (.cons (Sub.refl _) .nil)) ?_; rintro _ rfl) | (refine CallK.pure hT1 (.cons (Sub.refl _) (.cons (Sub.refl _) .nil)) ?_; rintro _ rfl) | (refine CallK.pure hT2 (.cons (Sub.refl _) (.cons (Sub.refl _) .nil)) ?_; rintro _ rfl) | (refine CallK.pure hQ2 (.cons (Sub.refl _) (.cons (Sub.refl _) .nil)) ?_; rintro _ rfl) | (refine CallK.pure hO1 (.cons (Sub.refl _) (.cons (Sub.refl _) .nil)) ?_; rintro _ rfl) | (refine CallK.pure hO2 (.cons (Sub.refl _) (.cons (Sub.refl _) .nil)) ?_; rintro _ rfl)); conv => whnf) | (refine Br.dec (fun _ => ?_) (fun _ => ?_) <;> first | (exfalso; omega) | conv => whnf) | (refine Br.dec2 (fun _ => ?_) (fun _ => ?_) <;> first | (exfalso; omega) | conv => whnf) | (refine Br.n (fun _ => ?_) (fun _ => ?_) <;> conv => whnf) | (refine Br.b (fun _ => ?_) (fun _ => ?_) <;> conv => whnf))
      all_goals first
       | exact ⟨_, .p (Sub.refl _), rfl⟩
       | exact ⟨_, .p (Sub.tt' (by simp)), rfl⟩
       | (exfalso; simp_all; done)
       | skip
     ·have hna : True := trivial
      repeat' (first | ((first | (intro (_ : _ ≤ 9223372036854775807)) | (refine CallK.pure (whittlerref3_Fits _) (by repeat' (first | exact ArgP.nil | refine ArgP.cons ?_ ?_ | exact Sub.refl _ | exact Sub.tt rfl | exact Sub.ff rfl)) ?_; rintro _ rfl) | (refine DrawK.auto tabOK mixed (by kernel_rfl) ?_) | (refine And.intro rfl ?_) | (refine And.intro ⟨by decide, by decide⟩ ?_) | (refine And.intro ⟨rfl, rfl, by decide⟩ ?_) | (refine BsK.pure (fun x hx => by rcases List.mem_singleton.1 hx with rfl; rfl) rfl ?_) | (refine IdxK.map (by omega) (fun _ => rfl) ?_) | (refine IdxK.xs (by omega) ?_) | (refine IdxK.ss (by omega) ?_) | (refine ByteK.at (by omega) ?_) | (refine Wr.i64 (by omega) (by omega) ?_) | (refine CallK.pure whittlerlaw18_deciding .nil ?_; rintro _ rfl) | (refine CallK.pure hC (.cons (Sub.refl _) (.cons (Sub.refl _) .nil)) ?_; rintro _ rfl) | (refine CallK.pure hMA (.cons (subX _) .nil) ?_; rintro _ rfl) | (refine CallK.pure hMB (.cons (subX _) .nil) ?_; rintro _ rfl)); conv => whnf) | (refine Br.dec (fun _ => ?_) (fun _ => ?_) <;> first | (exfalso; omega) | conv => whnf) | (refine Br.dec2 (fun _ => ?_) (fun _ => ?_) <;> first | (exfalso; omega) | conv => whnf) | (refine Br.n (fun _ => ?_) (fun _ => ?_) <;> conv => whnf) | (refine Br.b (fun _ => ?_) (fun _ => ?_) <;> conv => whnf))
      all_goals first
       | exact ⟨_, .p (Sub.refl _), rfl⟩
       | (exfalso; simp_all; done)
       | (exfalso; simp_all [mainS]; done)
       | skip
end Go.Ab
