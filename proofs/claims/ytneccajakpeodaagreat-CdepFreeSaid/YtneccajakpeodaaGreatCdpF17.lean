/- way: which place decides which statement, walked. -/
import Derived.Test.YtneccajakpeodaaGreatCdpF10
import Derived.Test.YtneccajakpeodaaGreatCdpF14
import Derived.Test.YtneccajakpeodaaGreatCdpF15
import Derived.Test.YtneccajakpeodaaGreatCdpF16
set_option linter.unusedSimpArgs false
set_option linter.unusedVariables false
set_option maxRecDepth 100000
set_option maxHeartbeats 16000000
namespace Go.Ab
open Go.Proofs
def decB (fm : List (List Bool)) (t : Int × Int) (b : Nat) : Bool := bitF fm t.2.toNat b && (decide (t.1 = b) || !bitF fm t.1.toNat b)
def mkM (n : Nat) (fm : List (List Bool)) (l : List (Int × Int)) (a b : Nat) : Bool := (decide (1 ≤ b) && decide (b < n - 1)) && l.any fun t => decide (t.1 = a) && decB fm t b
structure DimB (n : Nat) (M : List (List Bool)) : Prop where
 len : M.length = n
 rows : ∀ r ∈ M, r.length = n
theorem DimB.row {n : Nat} {M : List (List Bool)} (h : DimB n M) {a : Nat} (ha : a < n) : (bmI M)[a]? = some ((M.getD a []).map bv) ∧ ((M.getD a []).map bv).length = n := by
 have hal : a < M.length := by rw [h.len]; exact ha
 have e : M.getD a [] = M[a] := by rw [List.getD_eq_getElem?_getD, List.getElem?_eq_getElem hal]; rfl
 rw [e]
 refine ⟨by unfold bmI; rw [List.getElem?_map, List.getElem?_eq_getElem hal]; rfl, ?_⟩
 rw [List.length_map]
 exact h.rows _ (List.getElem_mem hal)
theorem DimB.bit {n : Nat} {M : List (List Bool)} (h : DimB n M) {a b : Nat} (ha : a < n) (hb : b < n) : ((M.getD a []).map bv)[b]? = some (bv (bitF M a b)) := by
 obtain ⟨_, h2⟩ := h.row ha
 have hbl : b < (M.getD a []).length := by rw [List.length_map] at h2; omega
 rw [List.getElem?_map, List.getElem?_eq_getElem hbl]
 unfold bitF
 rw [List.getD_eq_getElem?_getD (l := M.getD a []) (i := b), List.getElem?_eq_getElem hbl]
 rfl
theorem DimB.set {n : Nat} {M : List (List Bool)} (h : DimB n M) {a b : Nat} (ha : a < n) (hb : b < n) : DimB n (M.set a ((M.getD a []).set b true)) ∧ (bmI M).set a (((M.getD a []).map bv).set b .tt) = bmI (M.set a ((M.getD a []).set b true)) ∧ ∀ x y, x < n → y < n → bitF (M.set a ((M.getD a []).set b true)) x y = if x = a ∧ y = b then true else bitF M x y := by
 have hal : a < M.length := by rw [h.len]; exact ha
 obtain ⟨_, h2⟩ := h.row ha
 rw [List.length_map] at h2
 refine ⟨⟨by rw [List.length_set]; exact h.len, fun r hr => ?_⟩, ?_, fun x y hx hy => ?_⟩
 ·rcases List.mem_or_eq_of_mem_set hr with hr | rfl
  ·exact h.rows r hr
  ·rw [List.length_set]; exact h2
 ·unfold bmI
  rw [List.map_set, List.map_set]
  rfl
 ·rw [bit_set hal]
  by_cases hxa : x = a
  ·subst hxa
   rw [if_pos rfl, List.getD_eq_getElem?_getD]
   by_cases hyb : y = b
   ·subst hyb
    rw [if_pos ⟨rfl, rfl⟩, List.getElem?_set_self (by omega)]
    rfl
   ·rw [if_neg (fun h => hyb h.2), List.getElem?_set_ne (Ne.symm hyb), ← List.getD_eq_getElem?_getD]
    rfl
  ·rw [if_neg hxa, if_neg (fun h => hxa h.1)]
def outM (plc : Int → Int) (M : List (List Bool)) (n a : Nat) : List (Int × Int) := (List.range a).flatMap fun (x : Nat) => ((List.range n).filter fun y => bitF M x y).map fun (y : Nat) => (plc x, plc y)
def outR (plc : Int → Int) (M : List (List Bool)) (a b : Nat) : List (Int × Int) := ((List.range b).filter fun y => bitF M a y).map fun (y : Nat) => (plc a, plc y)
theorem outM_succ (plc : Int → Int) (M : List (List Bool)) (n a : Nat) : outM plc M n (a + 1) = outM plc M n a ++ outR plc M a n := by
 unfold outM outR
 rw [List.range_succ, List.flatMap_append]
 simp
theorem outR_succ (plc : Int → Int) (M : List (List Bool)) (a b : Nat) : outR plc M a (b + 1) = outR plc M a b ++ (if bitF M a b then [(plc a, plc b)] else []) := by
 unfold outR
 rw [List.range_succ, List.filter_append, List.map_append]
 congr 1
 cases h : bitF M a b <;> simp [h]
theorem outR_len (plc : Int → Int) (M : List (List Bool)) (a b : Nat) : (outR plc M a b).length ≤ b := by
 unfold outR
 rw [List.length_map]
 exact Nat.le_trans (List.length_filter_le _ _) (by simp)
theorem outM_len (plc : Int → Int) (M : List (List Bool)) (n a : Nat) : (outM plc M n a).length ≤ a * n := by
 induction a with
 | zero => unfold outM; simp
 | succ a ih =>
   have := outR_len plc M a n
   rw [outM_succ, List.length_append, Nat.add_mul, Nat.one_mul]
   omega
def zR (n a : Nat) : List (List Bool) := List.replicate a (List.replicate n false) ++ List.replicate (n - a) []
theorem zR_len {n a : Nat} (h : a ≤ n) : (zR n a).length = n := by unfold zR; simp; omega
theorem zR_set {n a : Nat} (h : a < n) : (bmI (zR n a)).set a (List.replicate n .ff) = bmI (zR n (a + 1)) := by
 have e : (zR n a).set a (List.replicate n false) = zR n (a + 1) := by
  unfold zR
  rw [List.set_append_right _ _ (by simp), List.length_replicate, Nat.sub_self, show n - a = (n - (a + 1)) + 1 by omega, List.replicate_succ, List.set_cons_zero, List.replicate_succ', List.append_assoc]
  rfl
 rw [← e]
 unfold bmI
 rw [List.map_set]
 congr 1
 simp [bv]
theorem zR_end (n : Nat) : DimB n (zR n n) ∧ ∀ a b, bitF (zR n n) a b = false := by
 have e : zR n n = List.replicate n (List.replicate n false) := by unfold zR; simp
 rw [e]
 refine ⟨⟨by simp, fun r hr => by rw [List.eq_of_mem_replicate hr]; simp⟩, fun a b => ?_⟩
 unfold bitF
 simp only [List.getD_eq_getElem?_getD, List.getElem?_replicate]
 split
 ·simp only [Option.getD_some, List.getElem?_replicate]
  split <;> rfl
 ·rfl
theorem mat_begin2 {N' : Nat} {sl : List (Nat × LV)} (n : Nat) (h0 : (sl.all fun x => x.2.xfree 0) = true) :
  Le N' ⟨sl, [(0, .own 112 1 (List.replicate n .nils))]⟩ ⟨sl, [(0, .ext (.mat 112 4 1 (List.replicate n []) []))]⟩ := by
 have hm := Le.toMat (N := N') (sl := sl) (H := [(0, .own 112 1 (List.replicate n .nils))])
  (H' := [(0, .ext (.mat 112 4 1 (List.replicate (List.replicate n AV.nils).length []) []))])
  0 4 1 (e := 112) (es := List.replicate n .nils) rfl (fun x hx => List.eq_of_mem_replicate hx) rfl h0 rfl rfl (by simp [labN])
 simpa using hm
theorem way_Way_Decides (w : Way) (f : Pr) (n : Nat) (h : WayT w f n) (hp : ∀ t ∈ prsA w f, (0 ≤ t.1 ∧ t.1 < n) ∧ 0 ≤ t.2 ∧ t.2 < n) (hlen : (augW w f).length ≤ 1000000) : SpecP Tryz.prog 109 [.ip w.cells] (fun r => ∃ fm M : List (List Bool), FollowP n (nextR n (prsA w f)) fm ∧ DimB n M ∧ (∀ a b, a < n → b < n → bitF M a b = mkM n fm (prsA w f) a b) ∧ r = .sl (avP (outM (placeI w.p w.j w.n) M n n))) := by
 refine SpecP.body I_way_Way_Decides tabOK Tryz.func109 rfl Tryz.call109 (by show 1 ≤ _; decide) ?_
 conv => whnf
 have hwn := h.hw
 have hn5 := h.hn
 have hn2 := h.hn2
 have hF := way_Way_Follow w f n h hp hlen
 have hA := way_Way_Aug w f n h
 have hP := way_Way_Pairs w f h.hj h.hc (by omega) (augW w f) hlen
 have hpl : (avP (prsA w f)).length = (prsA w f).length := by unfold avP; rw [List.length_map]
 have hpl2 : (prsA w f).length ≤ 1000000 := by unfold prsA; rw [List.length_map]; exact hlen
 have hPe : (augW w f).map (ixP w.p w.j f w.n) = prsA w f := rfl
 rw [hPe] at hP
 repeat' ((first | (intro (_ : _ ≤ 9223372036854775807)) | (refine And.intro ⟨rfl, rfl, by decide⟩ ?_) | (refine CallK.pure hF (.cons (Sub.refl _) .nil) ?_; rintro _ ⟨fm, hFP, rfl⟩) | (refine MkK.mk n (by omega) (by show 24 * _ ≤ 140737488355328; omega) (by unfold maxLen; omega) ?_)); conv => whnf)
 have hFD : DimB n fm := ⟨hFP.inv.len, hFP.inv.rows⟩
 refine LoopK.inv tabOK (fun a : Nat => ⟨[(0, .p (.ip w.cells)), (3, .p (.sl ((bmI fm).map .sl))), (4, .hd 0 0 n), (21, .p (.int .i64 n)), (22, .p (.int .i64 a))], [(0, .ext (.mat 112 4 1 (bmI (zR n a)) []))]⟩) (fun a => a ≤ n) (fun a => n - a) 0
  (by
    refine Le.trans (mat_begin2 n rfl) ?_
    exact Le.mk [] (by simp) (by simp) (by simp) (.cons (.refl _) (.cons (.refl _) (.cons (.refl _) (.cons (.refl _) (.cons (.refl _) .nil))))) (.cons rfl (.of_eq (by simp [bmI, zR])) .nil)) (Nat.zero_le _) ?_
 intro a h3
 rcases Nat.lt_or_ge a n with ha | ha
 ·have hzl := zR_len (n := n) h3
  have hzs := zR_set (n := n) ha
  have hbl : (bmI (zR n a)).length = n := by unfold bmI; rw [List.length_map, hzl]
  generalize bmI (zR n a) = rows at hzs hbl ⊢
  conv => whnf
  repeat' (first | ((first | (refine And.intro rfl ?_) | (refine And.intro ⟨rfl, rfl, by decide⟩ ?_) | (refine Wr.i64 (by omega) (by omega) ?_) | (refine MkK.mk n (by omega) (by show 1 * _ ≤ 140737488355328; omega) (by unfold maxLen; omega) ?_) | (refine IdxL.mk a rfl ha ?_) | (refine OpK.stMat tabOK rfl rfl rfl rfl rfl rfl rfl rfl rfl (by decide) a [] (by omega) (by omega) (by simp) ⟨by simp, by simp, by simp⟩ ?_)); conv => whnf) | (refine Br.dec (fun _ => ?_) (fun _ => ?_) <;> first | (exfalso; omega) | conv => whnf))
  exact ⟨a + 1, by omega, by omega, Le.of_eq (by rw [← hzs]; rfl)⟩
 have hae : a = n := by omega
 rw [hae]
 clear h3 ha hae a
 obtain ⟨hz1, hz2⟩ := zR_end n
 generalize zR n n = M0 at hz1 hz2 ⊢
 conv => whnf
 repeat' (first | ((first | (intro (_ : _ ≤ 9223372036854775807)) | (refine CallK.pure hA (.cons (Sub.refl _) .nil) ?_; rintro _ rfl) | (refine CallK.pure hP (.cons (Sub.refl _) (.cons (Sub.refl _) .nil)) ?_; rintro _ rfl)); conv => whnf) | (refine Br.dec (fun _ => ?_) (fun _ => ?_) <;> first | (exfalso; omega) | conv => whnf))
 refine LoopK.inv tabOK (fun x : Nat × List (List Bool) => ⟨[(0, .p (.ip w.cells)), (3, .p (.sl ((bmI fm).map .sl))), (4, .hd 0 0 n), (37, .p (.sl (avP (prsA w f)))), (38, .p (.int .i64 (avP (prsA w f)).length)), (39, .p (.int .i64 x.1))], [(0, .ext (.mat 112 4 1 (bmI x.2) []))]⟩)
  (fun x => x.1 ≤ (prsA w f).length ∧ DimB n x.2 ∧ ∀ a b, a < n → b < n → bitF x.2 a b = mkM n fm ((prsA w f).take x.1) a b) (fun x => (prsA w f).length - x.1) (0, M0) (Le.of_eq rfl) ⟨Nat.zero_le _, hz1, fun a b _ _ => by simp only [hz2]; unfold mkM; simp⟩ ?_
 rintro ⟨j, M⟩ ⟨h2, hD, hB⟩
 simp only at h2 hD hB ⊢
 rcases Nat.lt_or_ge j (prsA w f).length with hj | hj
 ·have hme : (avP (prsA w f))[j]? = some (.agg [.int .i64 (prsA w f)[j].1, .int .i64 (prsA w f)[j].2]) := by simp [avP, hj]
  obtain ⟨⟨q1, q2⟩, q3, q4⟩ := hp _ (List.getElem_mem hj)
  have hmk : ∀ a b, mkM n fm ((prsA w f).take (j + 1)) a b = (mkM n fm ((prsA w f).take j) a b || ((decide (1 ≤ b) && decide (b < n - 1)) && (decide ((prsA w f)[j].1 = a) && decB fm (prsA w f)[j] b))) := fun a b => by
   unfold mkM
   rw [List.take_succ_eq_append_getElem hj, List.any_append]
   simp only [List.any_cons, List.any_nil, Bool.or_false]
   cases (decide (1 ≤ b) && decide (b < n - 1)) <;> simp
  generalize (prsA w f)[j] = t at hme q1 q2 q3 q4 hmk
  obtain ⟨a, ha⟩ : ∃ a : Nat, t.1 = a := ⟨t.1.toNat, by omega⟩
  obtain ⟨c, hc⟩ : ∃ c : Nat, t.2 = c := ⟨t.2.toNat, by omega⟩
  have han : a < n := by omega
  have hcn : c < n := by omega
  rw [ha, hc] at hme
  have hdec : ∀ b, decB fm t b = (bitF fm c b && (decide (a = b) || !bitF fm a b)) := fun b => by
   unfold decB
   rw [ha, hc, Int.toNat_natCast, Int.toNat_natCast]
   congr 2
   by_cases e : a = b
   ·subst e; simp
   ·rw [decide_eq_false e, decide_eq_false (by omega)]
  conv => whnf
  repeat' (first | ((first | (refine And.intro rfl ?_) | (refine IdxK.at (k := j) rfl hme rfl ?_) | (refine IdxL.mk 0 rfl (by decide) ?_)); conv => whnf) | (refine Br.dec (fun _ => ?_) (fun _ => ?_) <;> first | (exfalso; omega) | conv => whnf))
  refine LoopK.inv tabOK (fun y : Nat × List (List Bool) => ⟨[(0, .p (.ip w.cells)), (3, .p (.sl ((bmI fm).map .sl))), (4, .hd 0 0 n), (7, .p (.ip [.int .i64 a, .int .i64 c])), (8, .p (.int .i64 a)), (9, .p (.int .i64 y.1)), (37, .p (.sl (avP (prsA w f)))), (38, .p (.int .i64 (avP (prsA w f)).length)), (39, .p (.int .i64 j))], [(0, .ext (.mat 112 4 1 (bmI y.2) []))]⟩)
   (fun y => (1 ≤ y.1 ∧ y.1 ≤ n - 1) ∧ DimB n y.2 ∧ ∀ a' b', a' < n → b' < n → bitF y.2 a' b' = (mkM n fm ((prsA w f).take j) a' b' || ((decide (1 ≤ b') && decide (b' < y.1)) && (decide (t.1 = a') && decB fm t b')))) (fun y => n - y.1) (1, M) (Le.of_eq rfl)
   ⟨⟨Nat.le_refl _, by simp only; omega⟩, hD, fun a' b' h1 h2 => by
     simp only
     rw [hB a' b' h1 h2]
     cases hq : (decide (1 ≤ b') && decide (b' < 1)) with
     | true => simp at hq; omega
     | false => simp⟩ ?_
  rintro ⟨b, L⟩ ⟨⟨h4, h5⟩, hL, hLB⟩
  simp only at h4 h5 hL hLB ⊢
  rcases Nat.lt_or_ge b (n - 1) with hb | hb
  ·have hbn : b < n := by omega
   obtain ⟨r1, r2⟩ := hFD.row hcn
   obtain ⟨s1, s2⟩ := hFD.row han
   obtain ⟨u1, u2⟩ := hL.row han
   have e1 := hFD.bit hcn hbn
   have e2 := hFD.bit han hbn
   obtain ⟨d1, d2, d3⟩ := hL.set han hbn
   have hr1 : ((bmI fm).map AV.sl)[c]? = some (.sl ((fm.getD c []).map bv)) := by rw [List.getElem?_map, r1]; rfl
   have hr2 : ((bmI fm).map AV.sl)[a]? = some (.sl ((fm.getD a []).map bv)) := by rw [List.getElem?_map, s1]; rfl
   have no : decB fm t b = false → ∀ a' b', a' < n → b' < n → bitF L a' b' = (mkM n fm ((prsA w f).take j) a' b' || ((decide (1 ≤ b') && decide (b' < b + 1)) && (decide (t.1 = a') && decB fm t b'))) := fun hq a' b' g1 g2 => by
    rw [hLB a' b' g1 g2]
    by_cases e : b' = b
    ·subst e; simp [hq]
    ·have : decide (b' < b + 1) = decide (b' < b) := by by_cases hlt : b' < b <;> simp [hlt] <;> omega
     rw [this]
   have yes : decB fm t b = true → ∀ a' b', a' < n → b' < n → bitF (L.set a ((L.getD a []).set b true)) a' b' = (mkM n fm ((prsA w f).take j) a' b' || ((decide (1 ≤ b') && decide (b' < b + 1)) && (decide (t.1 = a') && decB fm t b'))) := fun hq a' b' g1 g2 => by
    rw [d3 a' b' g1 g2]
    by_cases e : a' = a ∧ b' = b
    ·rw [if_pos e, e.1, e.2, hq, decide_eq_true h4, decide_eq_true (by omega : b < b + 1), decide_eq_true ha]
     simp
    ·rw [if_neg e, hLB a' b' g1 g2]
     by_cases ea : a' = a
     ·have eb : ¬ b' = b := fun hh => e ⟨ea, hh⟩
      have : decide (b' < b + 1) = decide (b' < b) := by by_cases hlt : b' < b <;> simp [hlt] <;> omega
      rw [this]
     ·have : decide (t.1 = (a' : Int)) = false := decide_eq_false (by omega)
      rw [this]
      simp
   have hdb := hdec b
   generalize bitF fm c b = v1 at e1 hdb
   generalize bitF fm a b = v2 at e2 hdb
   cases v1 <;> cases v2 <;>
   conv => whnf
   repeat' (first | ((first | (refine And.intro rfl ?_) | (refine Wr.eq (m := (n : Int) - 1) (by omega) (by omega) (by omega) ?_) | (refine Wr.i64 (by omega) (by omega) ?_) | (refine IdxL.mk 1 rfl (by decide) ?_) | (refine IdxK.at (k := c) rfl hr1 rfl ?_) | (refine IdxK.at (k := a) rfl hr2 rfl ?_) | (refine IdxK.at (k := b) rfl e1 rfl ?_) | (refine IdxK.at (k := b) rfl e2 rfl ?_) | (refine IdxL.mk a rfl han ?_) | (refine RowK.mk a _ (by omega) u1 (by simp) ?_) | (refine IdxL.mk b rfl (by omega) ?_) | (refine OpK.stEl tabOK rfl rfl rfl rfl rfl rfl rfl rfl rfl u1 (by simp) (by omega) ?_)); conv => whnf) | (refine Br.dec (fun _ => ?_) (fun _ => ?_) <;> first | (exfalso; omega) | conv => whnf))
   all_goals first
    | exact ⟨(b + 1, L), ⟨⟨by simp only; omega, by simp only; omega⟩, hL, no (by first | (rw [hdb]; rfl) | (rw [hdb]; have hab : ¬ a = b := (by omega); rw [decide_eq_false hab]; rfl))⟩, by simp only; omega, Le.of_eq rfl⟩
    | exact ⟨(b + 1, L.set a ((L.getD a []).set b true)), ⟨⟨by simp only; omega, by simp only; omega⟩, d1, yes (by first | (rw [hdb]; have hab : a = b := (by omega); rw [decide_eq_true hab]; rfl) | (rw [hdb]; have hab : ¬ a = b := (by omega); rw [decide_eq_false hab]; rfl))⟩, by simp only; omega, Le.of_eq (by rw [Nat.mul_one]; simp only; rw [← d2]; rfl)⟩
    | trace_state
  ·have hbe : b = n - 1 := by omega
   subst hbe
   have hfin : ∀ a b, a < n → b < n → bitF L a b = mkM n fm ((prsA w f).take (j + 1)) a b := fun a' b' g1 g2 => by rw [hLB a' b' g1 g2, hmk]
   conv => whnf
   repeat' (first | ((first | (refine Wr.eq (m := (n : Int) - 1) (by omega) (by omega) (by omega) ?_) | (refine Wr.i64 (by omega) (by omega) ?_)); conv => whnf) | (refine Br.dec (fun _ => ?_) (fun _ => ?_) <;> first | (exfalso; omega) | conv => whnf))
   all_goals first
    | exact ⟨(j + 1, L), ⟨by simp only; omega, hL, hfin⟩, by simp only; omega, Le.mk [] (by simp) (by simp) (by simp) (.cons (.refl _) (.cons (.refl _) (.cons (.refl _) (.cons (.refl _) (.cons (.refl _) (.cons (.refl _) .nil)))))) (.cons rfl (.refl _) .nil)⟩
    | (exfalso; omega)
    | trace_state
 ·have hje : (prsA w f).take j = prsA w f := List.take_of_length_le hj
  rw [hje] at hB
  have hbl : (bmI M).length = n := by unfold bmI; rw [List.length_map, hD.len]
  generalize hplc : placeI w.p w.j w.n = plc
  conv => whnf
  repeat' (refine Br.dec (fun _ => ?_) (fun _ => ?_) <;> first | (exfalso; omega) | conv => whnf)
  refine LoopK.inv tabOK (fun a : Nat => ⟨[(0, .p (.ip w.cells)), (4, .hd 0 0 n), (10, .hd 1 0 (outM plc M n a).length), (85, .p (.int .i64 n)), (86, .p (.int .i64 a))], [(0, .ext (.mat 112 4 1 (bmI M) [])), (1, .own 47 2 (avP (outM plc M n a)))]⟩) (fun a => a ≤ n) (fun a => n - a) 0
   (Le.mk [(1, .own 47 2 [])] (by simp [Chunk.new0]; rfl) (by simp) (by simp) (.cons (.refl _) (.cons (.refl _) (.cons (.nil List.mem_cons_self) (.cons (.refl _) (.cons (.refl _) .nil))))) (.cons rfl (.refl _) (.new List.mem_cons_self .nil))) (Nat.zero_le _) ?_
  intro a h3
  rcases Nat.lt_or_ge a n with ha | ha
  ·obtain ⟨u1, u2⟩ := hD.row ha
   have hol := outM_len plc M n a
   have hol2 : a * n ≤ 5000 * 5000 := Nat.mul_le_mul (by omega) hn5
   have hsu := outM_succ plc M n a
   generalize outM plc M n a = acc at hol hsu ⊢
   conv => whnf
   repeat' (first | ((first | (refine And.intro rfl ?_) | (refine IdxL.mk a rfl ha ?_) | (refine RowK.mk a _ (by omega) u1 (by simp) ?_)); conv => whnf) | (refine Br.dec (fun _ => ?_) (fun _ => ?_) <;> first | (exfalso; omega) | conv => whnf))
   refine LoopK.inv tabOK (fun b : Nat => ⟨[(0, .p (.ip w.cells)), (4, .hd 0 0 n), (10, .hd 1 0 (acc ++ outR plc M a b).length), (11, .p (.int .i64 a)), (85, .p (.int .i64 n)), (86, .p (.int .i64 a)), (93, .p (.int .i64 n)), (94, .p (.int .i64 b))], [(0, .ext (.mat 112 4 1 (bmI M) [])), (1, .own 47 2 (avP (acc ++ outR plc M a b)))]⟩) (fun b => b ≤ n) (fun b => n - b) 0
    (Le.of_eq (by rw [u2, show acc ++ outR plc M a 0 = acc by unfold outR; simp]; rfl)) (Nat.zero_le _) ?_
   intro b h4
   rcases Nat.lt_or_ge b n with hb | hb
   ·have e1 := hD.bit ha hb
    have hrs := outR_succ plc M a b
    have hrl := outR_len plc M a b
    generalize outR plc M a b = acc2 at hrs hrl ⊢
    have hal : (avP (acc ++ acc2)).length = (acc ++ acc2).length := by unfold avP; rw [List.length_map]
    have hal2 : (acc ++ acc2).length ≤ 25005000 := by rw [List.length_append]; omega
    have hP1 := way_Way_Place w f h.hj h.hc (by omega) a (by omega)
    have hP2 := way_Way_Place w f h.hj h.hc (by omega) b (by omega)
    rw [hplc] at hP1 hP2
    cases hv : bitF M a b with
    | true =>
      rw [hv] at e1
      rw [hv, if_pos rfl] at hrs
      conv => whnf
      repeat' (first | ((first | (refine And.intro rfl ?_) | (refine And.intro ⟨by decide, by decide⟩ ?_) | (refine BsK.pure (fun x hx => by rcases List.mem_singleton.1 hx with rfl; rfl) rfl ?_) | (refine Wr.i64 (by omega) (by omega) ?_) | (refine IdxL.mk a rfl ha ?_) | (refine RowK.mk a _ (by omega) u1 (by simp) ?_) | (refine IdxL.mk b rfl (by omega) ?_) | (refine RLd.mk _ b 0 _ u1 (by simp) (by omega) e1 ?_) | (refine CallK.pure hP1 (.cons (Sub.refl _) (.cons (Sub.refl _) .nil)) ?_; rintro _ rfl) | (refine CallK.pure hP2 (.cons (Sub.refl _) (.cons (Sub.refl _) .nil)) ?_; rintro _ rfl) | (refine AppK.mk hal.symm rfl (by show ((acc ++ acc2).length+1) * 16 ≤ 140737488355328; omega) (by show (acc ++ acc2).length+1 ≤ 9223372036854775807; omega) (fun x hx => by rcases List.mem_singleton.1 hx with rfl; exact ⟨rfl, rfl⟩) ?_)); conv => whnf) | (refine Br.dec (fun _ => ?_) (fun _ => ?_) <;> first | (exfalso; omega) | conv => whnf))
      all_goals first
       | exact ⟨b + 1, by omega, by omega, Le.of_eq (by rw [hrs, ← List.append_assoc]; simp only [avP, List.length_append, List.map_append]; rfl)⟩
       | (exfalso; simp_all; done)
       | trace_state
    | false =>
      rw [hv] at e1
      rw [hv, if_neg (by decide), List.append_nil] at hrs
      conv => whnf
      repeat' (first | ((first | (refine And.intro rfl ?_) | (refine Wr.i64 (by omega) (by omega) ?_) | (refine IdxL.mk a rfl ha ?_) | (refine RowK.mk a _ (by omega) u1 (by simp) ?_) | (refine IdxL.mk b rfl (by omega) ?_) | (refine RLd.mk _ b 0 _ u1 (by simp) (by omega) e1 ?_)); conv => whnf) | (refine Br.dec (fun _ => ?_) (fun _ => ?_) <;> first | (exfalso; omega) | conv => whnf))
      all_goals first
       | exact ⟨b + 1, by omega, by omega, Le.of_eq (by rw [hrs]; rfl)⟩
       | (exfalso; simp_all; done)
       | trace_state
   ·have hbe : b = n := by omega
    subst hbe
    rw [← hsu]
    conv => whnf
    repeat' (first | (refine Wr.i64 (by omega) (by omega) ?_; conv => whnf) | (refine Br.dec (fun _ => ?_) (fun _ => ?_) <;> first | (exfalso; omega) | conv => whnf))
    exact ⟨a + 1, by omega, by omega, Le.of_eq rfl⟩
  ·have hae : a = n := by omega
   subst hae
   conv => whnf
   repeat' (refine Br.dec (fun _ => ?_) (fun _ => ?_) <;> first | (exfalso; omega) | conv => whnf)
   exact ⟨_, .hd rfl (by unfold avP; rw [List.length_map]), fm, M, hFP, hD, hB, rfl⟩
open Go.Proofs
def fitB (p : Pg) : Bool := decide (gPg p ≤ 20000)
theorem fit_of {p : Pg} (h : fitB p = true) : Fit p := by
 have := wg_Pg p
 have h1 : gPg p ≤ 20000 := by simpa [fitB] using h
 unfold Fit
 omega
theorem whittlerref3_Fits (p : Pg) : SpecP Tryz.prog 16 [.agg p.cells] (fun r => r = .bool (fitB p)) := by
 refine SpecP.body I_whittlerref3_Fits tabOK Tryz.func16 rfl Tryz.call16 (by show 1 ≤ _; decide) ?_
 conv => whnf
 have hl : (p.procs.map fun f => AV.agg f.cells).length = p.procs.length := List.length_map _
 have q0 := satI_rng (a := 0 + gTxs p.globals) (by omega)
 repeat' (refine CallK.pure (whittlerref3_weighTexts p.globals 0 (by omega)) (.cons (Sub.refl _) (.cons (Sub.refl _) .nil)) ?_; rintro _ rfl; conv => whnf)
 refine LoopK.inv tabOK (fun y : Nat × Int => ⟨[(1, .p (.ip p.cells)), (3, .p (.int .i64 y.2)), (4, .p (.int .i64 y.1))], []⟩) (fun y => y.1 ≤ p.procs.length ∧ (0 ≤ y.2 ∧ y.2 ≤ 20001) ∧ satI (y.2 + gPrs (p.procs.drop y.1)) = satI (gPg p : Nat)) (fun y => p.procs.length - y.1) (0, satI (0 + gTxs p.globals)) (Le.of_eq rfl) ⟨Nat.zero_le _, q0, by
  show satI (satI (0 + gTxs p.globals) + gPrs p.procs) = _
  rw [satI_sat (by omega)]
  congr 1
  unfold gPg
  omega⟩ ?_
 rintro ⟨j, m⟩ ⟨h2, h3, h4⟩
 simp only at h2 h3 h4 ⊢
 have last : ∀ {x : Int}, 0 ≤ x ∧ x ≤ 20001 → satI x = satI (gPg p : Nat) → (decide (x ≤ 20000)) = fitB p := fun {x} hx h => by
  unfold fitB
  unfold satI at h
  by_cases h1 : gPg p ≤ 20000
  ·rw [decide_eq_true h1, decide_eq_true_eq]
   split at h <;> split at h <;> omega
  ·rw [decide_eq_false h1, decide_eq_false_iff_not]
   split at h <;> split at h <;> omega
 rcases Nat.lt_or_ge j p.procs.length with hj | hj
 rotate_left 1
 ·rw [List.drop_eq_nil_of_le hj, gPrs] at h4
  conv => whnf
  repeat' (first | (intro (_ : _ ≤ 9223372036854775807); conv => whnf) | (refine Br.dec (fun _ => ?_) (fun _ => ?_) <;> first | (exfalso; omega) | conv => whnf))
  all_goals exact RetK.bool (last h3 (by rw [← h4]; simp))
 rw [List.drop_eq_getElem_cons hj, gPrs] at h4
 have hpe : gPr p.procs[j] = 1 + p.procs[j].name.length + gTxs p.procs[j].vars + gTxs p.procs[j].fin + gPms p.procs[j].params + gL p.procs[j].body := rfl
 have q1 := satI_rng (a := m + (1 + p.procs[j].name.length : Nat)) (by omega)
 have q2 := satI_rng (a := satI (m + (1 + p.procs[j].name.length : Nat)) + gTxs p.procs[j].vars) (by omega)
 have q3 := satI_rng (a := satI (satI (m + (1 + p.procs[j].name.length : Nat)) + gTxs p.procs[j].vars) + gTxs p.procs[j].fin) (by omega)
 conv => whnf
 repeat' (first | ((first | (intro (_ : _ ≤ 9223372036854775807)) | (refine DrawK.auto tabOK mixed (by kernel_rfl) ?_) | (refine And.intro rfl ?_) | (refine IdxK.map (by omega) (fun _ => rfl) ?_) | (refine CallK.pure (whittlerref3_weighText p.procs[j].name _ h3) (.cons (Sub.refl _) (.cons (Sub.refl _) .nil)) ?_; rintro _ rfl) | (refine CallK.pure (whittlerref3_weighTexts p.procs[j].vars _ q1) (.cons (Sub.refl _) (.cons (Sub.refl _) .nil)) ?_; rintro _ rfl) | (refine CallK.pure (whittlerref3_weighTexts p.procs[j].fin _ q2) (.cons (Sub.refl _) (.cons (Sub.refl _) .nil)) ?_; rintro _ rfl)); conv => whnf) | (refine Br.dec (fun _ => ?_) (fun _ => ?_) <;> first | (exfalso; omega) | conv => whnf))
 rotate_left 1
 ·exact RetK.bool (last h3 (by rw [← h4, ← satI_full (by omega) h3.2 (by omega), satI_id h3.2]))
 have h5 : satI (satI (satI (satI (m + (1 + p.procs[j].name.length : Nat)) + gTxs p.procs[j].vars) + gTxs p.procs[j].fin) + (gPms p.procs[j].params + (gL p.procs[j].body + gPrs (p.procs.drop (j + 1))) : Nat)) = satI (gPg p : Nat) := by
  rw [satI_sat (by omega), Int.add_assoc, satI_sat (by omega), Int.add_assoc, satI_sat (by omega), ← h4, hpe]
  congr 1
  omega
 generalize satI (satI (satI (m + (1 + p.procs[j].name.length : Nat)) + gTxs p.procs[j].vars) + gTxs p.procs[j].fin) = m0 at q3 h5 ⊢
 have hal : (p.procs[j].params.map fun a => AV.agg a.cells).length = p.procs[j].params.length := List.length_map _
 refine LoopK.inv tabOK (fun y : Nat × Int => ⟨[(1, .p (.ip p.cells)), (3, .p (.int .i64 y.2)), (4, .p (.int .i64 j)), (5, .p (.ip p.procs[j].cells)), (6, .p (.int .i64 y.1))], []⟩) (fun y => y.1 ≤ p.procs[j].params.length ∧ (0 ≤ y.2 ∧ y.2 ≤ 20001) ∧ satI (y.2 + (gPms (p.procs[j].params.drop y.1) + (gL p.procs[j].body + gPrs (p.procs.drop (j + 1))) : Nat)) = satI (gPg p : Nat)) (fun y => p.procs[j].params.length - y.1) (0, m0) (Le.of_eq rfl) ⟨Nat.zero_le _, q3, h5⟩ ?_
 rintro ⟨a, m2⟩ ⟨h6, h7, h8⟩
 simp only at h6 h7 h8 ⊢
 have fin : satI (m2 + (gL p.procs[j].body + gPrs (p.procs.drop (j + 1)) : Nat)) = satI (gPg p : Nat) → (0 ≤ satI (m2 + gL p.procs[j].body) ∧ satI (m2 + gL p.procs[j].body) ≤ 20001) ∧ satI (satI (m2 + gL p.procs[j].body) + gPrs (p.procs.drop (j + 1))) = satI (gPg p : Nat) := fun h => by
  refine ⟨satI_rng (by omega), ?_⟩
  rw [satI_sat (by omega), ← h]
  congr 1
  omega
 have full : m2 > 20000 → satI (m2 + (gL p.procs[j].body + gPrs (p.procs.drop (j + 1)) : Nat)) = satI (gPg p : Nat) := fun h => by
  rw [← h8, ← satI_full h h7.2 (by omega), ← satI_full h h7.2 (by omega)]
 rcases Nat.lt_or_ge a p.procs[j].params.length with ha | ha
 rotate_left 1
 ·have h9 : satI (m2 + (gL p.procs[j].body + gPrs (p.procs.drop (j + 1)) : Nat)) = satI (gPg p : Nat) := by
   rw [List.drop_eq_nil_of_le ha, gPms, Nat.zero_add] at h8
   exact h8
  obtain ⟨f1, f2⟩ := fin h9
  conv => whnf
  repeat' (first | ((first | (intro (_ : _ ≤ 9223372036854775807)) | (refine Wr.i64 (by omega) (by omega) ?_) | (refine CallK.pure (whittlerref3_weighStmts (gL p.procs[j].body+1) p.procs[j].body (by omega) m2 h7) (.cons (Sub.refl _) (.cons (Sub.refl _) .nil)) ?_; rintro _ rfl)); conv => whnf) | (refine Br.dec (fun _ => ?_) (fun _ => ?_) <;> first | (exfalso; omega) | conv => whnf))
  all_goals exact ⟨(j + 1, satI (m2 + gL p.procs[j].body)), ⟨by simp only; omega, f1, f2⟩, by simp only; omega, Le.of_eq rfl⟩
 rw [List.drop_eq_getElem_cons ha, gPms] at h8
 conv => whnf
 repeat' (first | ((first | (intro (_ : _ ≤ 9223372036854775807)) | (refine IdxK.map (by omega) (fun _ => rfl) ?_) | (refine Wr.i64 (by omega) (by omega) ?_) | (refine CallK.pure (whittlerref3_weighText p.procs[j].params[a].name _ h7) (.cons (Sub.refl _) (.cons (Sub.refl _) .nil)) ?_; rintro _ rfl) | (refine CallK.pure (whittlerref3_weighStmts (gL p.procs[j].body+1) p.procs[j].body (by omega) m2 h7) (.cons (Sub.refl _) (.cons (Sub.refl _) .nil)) ?_; rintro _ rfl)); conv => whnf) | (refine Br.dec (fun _ => ?_) (fun _ => ?_) <;> first | (exfalso; omega) | conv => whnf))
 ·have h10 : satI (satI (m2 + (1 + p.procs[j].params[a].name.length : Nat)) + (gPms (p.procs[j].params.drop (a + 1)) + (gL p.procs[j].body + gPrs (p.procs.drop (j + 1))) : Nat)) = satI (gPg p : Nat) := by
   rw [satI_sat (by omega), ← h8]
   congr 1
   omega
  exact ⟨(a + 1, satI (m2 + (1 + p.procs[j].params[a].name.length : Nat))), ⟨by simp only; omega, satI_rng (by omega), h10⟩, by simp only; omega, Le.of_eq rfl⟩
 ·obtain ⟨f1, f2⟩ := fin (full (by omega))
  exact ⟨(j + 1, satI (m2 + gL p.procs[j].body)), ⟨by simp only; omega, f1, f2⟩, by simp only; omega, Le.of_eq rfl⟩
open Go.Proofs
inductive SubE : List AV → List AV → Prop
 | nil : SubE [] []
 | cons {a b : AV} {xs ys : List AV} (h : SubL a.cells b.cells) (hs : SubE xs ys) : SubE (a :: xs) (b :: ys)
theorem SubE.get {xs ys : List AV} (h : SubE xs ys) : xs.length = ys.length ∧ ∀ (i : Nat) (b : AV), ys[i]? = some b → ∃ a, xs[i]? = some a ∧ SubL a.cells b.cells := by
 induction h with
 | nil => exact ⟨rfl, by simp⟩
 | cons h hs ih =>
   refine ⟨by simp [ih.1], fun i b hb => ?_⟩
   cases i with
   | zero => simp at hb; subst hb; exact ⟨_, rfl, h⟩
   | succ i => exact ih.2 i b (by simpa using hb)
theorem Sub.sl {xs ys : List AV} (h : SubE xs ys) : Sub (.sl xs) (.sl ys) := fun σ v hr => by
 obtain ⟨hl, hg⟩ := h.get
 cases hr with
 | nilsl =>
   obtain rfl : ys = [] := by simpa using hl.symm
   exact .nilsl
 | slz b =>
   obtain rfl : ys = [] := by simpa using hl.symm
   exact .slz b
 | sl _ b off cap sz cells u hb hcap hmax hsz hc hrr =>
   rw [hl]
   refine .sl ys b off cap sz cells u hb (by omega) hmax (fun i e hi => ?_) (fun i e j c hi hj => ?_) (fun i e j c hi hj => ?_)
   ·obtain ⟨a, h1, h2⟩ := hg i e hi
    rw [← hsz i a h1, h2.1]
   ·obtain ⟨a, h1, h2⟩ := hg i e hi
    obtain ⟨d, h3, _⟩ := h2.get hj
    exact hc i a j d h1 h3
   ·obtain ⟨a, h1, h2⟩ := hg i e hi
    obtain ⟨d, h3, h4⟩ := h2.get hj
    exact h4 _ _ (hrr i a j d h1 h3)
theorem whittlerref3_num (n : Int) : SpecP Tryz.prog 131 [.int .i64 n] (fun r => r = .agg (X.mk 1 n [] []).cells) := by
 refine SpecP.body I_whittlerref3_num tabOK Tryz.func131 rfl Tryz.call131 (by show 1 ≤ _; decide) ?_
 conv => whnf
 repeat' (refine And.intro rfl ?_; conv => whnf)
 exact ⟨_, .p (Sub.agg (by repeat' (first | exact SubL.nil | refine SubL.cons ?_ ?_ | exact Sub.refl _ | exact Sub.nils | exact Sub.ff rfl))), rfl⟩
theorem whittlerref3_name (s : Str) : SpecP Tryz.prog 132 [.str s] (fun r => r = .agg (X.mk 2 0 s []).cells) := by
 refine SpecP.body I_whittlerref3_name tabOK Tryz.func132 rfl Tryz.call132 (by show 1 ≤ _; decide) ?_
 conv => whnf
 repeat' (refine And.intro rfl ?_; conv => whnf)
 exact ⟨_, .p (Sub.agg (by repeat' (first | exact SubL.nil | refine SubL.cons ?_ ?_ | exact Sub.refl _ | exact Sub.nils | exact Sub.ff rfl))), rfl⟩
theorem whittlerref3_two (op : Int) (a b : X) : SpecP Tryz.prog 133 [.int .i64 op, .agg a.cells, .agg b.cells] (fun r => r = .agg (X.mk op 0 [] [a, b]).cells) := by
 refine SpecP.body I_whittlerref3_two tabOK Tryz.func133 rfl Tryz.call133 (by show 3 ≤ _; decide) ?_
 conv => whnf
 repeat' ((first | (refine And.intro rfl ?_) | (refine And.intro ⟨by decide, by decide⟩ ?_) | (refine BsK.pureL rfl rfl ?_)); conv => whnf)
 have e : X.avs [a, b] = [.agg a.cells, .agg b.cells] := by simp only [X.avs, X.av_eq]
 exact ⟨_, .p (Sub.agg (SubL.cons (Sub.refl _) (SubL.cons (Sub.refl _) (SubL.cons (Sub.refl _) (SubL.cons (Sub.of_eq (by show _ = AV.sl (X.avs [a, b]); rw [e]; rfl)) SubL.nil))))), rfl⟩
def bs (l : List Nat) : Str := l.map fun n => UInt8.ofNat n
def someP : Pg := ⟨[[103]], [
 ⟨[109, 97, 105, 110], [], [[118]], [
   .mk 1 1 [] [118] [] (.mk 1 2 [] []) false [] [] [],
   .mk 2 4 [] [103] [112] (.mk 0 0 [] []) false [⟨false, [], .mk 1 3 [] []⟩, ⟨true, [118], .mk 0 0 [] []⟩] [] [],
   .mk 3 3 [] [] [] (.mk 2 0 [118] []) false [] [] [],
   .mk 4 3 [] [] [] (.mk 2 0 [103] []) false [] [] []], []⟩,
 ⟨[112], [⟨[120], false⟩, ⟨[121], true⟩], [], [
   .mk 5 1 [] [121] [] (.mk 8 0 [] [.mk 2 0 [121] [], .mk 2 0 [120] []]) false [] [] [],
   .mk 6 5 [] [] [] (.mk 12 0 [] [.mk 2 0 [121] [], .mk 1 9 [] []]) false [] [.mk 7 10 [] [101] [] (.mk 0 0 [] []) false [] [] []] [],
   .mk 8 9 [] [] [] (.mk 2 0 [121] []) true [] [] []], [[101]]⟩]⟩
theorem whittlerref3_Some : SpecP Tryz.prog 74 [] (fun r => r = .agg someP.cells) := by
 refine SpecP.body I_whittlerref3_Some tabOK Tryz.func74 rfl Tryz.call74 (by show 0 ≤ _; decide) ?_
 conv => whnf
 repeat' ((first | (refine CallK.pure (whittlerref3_num _) (by repeat' (first | exact ArgP.nil | refine ArgP.cons ?_ ?_ | exact Sub.refl _ | exact Sub.tt rfl | exact Sub.ff rfl)) ?_; rintro _ rfl) | (refine CallK.pure (whittlerref3_name _) (by repeat' (first | exact ArgP.nil | refine ArgP.cons ?_ ?_ | exact Sub.refl _ | exact Sub.tt rfl | exact Sub.ff rfl)) ?_; rintro _ rfl) | (refine And.intro rfl ?_) | (refine And.intro ⟨by decide, by decide⟩ ?_) | (refine BsK.pure (fun x hx => by rcases List.mem_singleton.1 hx with rfl; rfl) rfl ?_) | (refine BsK.pureL rfl rfl ?_) | (refine CallK.pure (whittlerref3_two 8 (.mk 2 0 [121] []) (.mk 2 0 [120] [])) (.cons (Sub.refl _) (.cons (Sub.refl _) (.cons (Sub.refl _) .nil))) ?_; rintro _ rfl) | (refine CallK.pure (whittlerref3_two 12 (.mk 2 0 [121] []) (.mk 1 9 [] [])) (.cons (Sub.refl _) (.cons (Sub.refl _) (.cons (Sub.refl _) .nil))) ?_; rintro _ rfl)); conv => whnf)
 exact ⟨_, .p (Sub.agg (by repeat' (first | exact SubL.nil | exact SubE.nil | exact Sub.nils | exact Sub.ff rfl | exact Sub.tt rfl | refine SubL.cons ?_ ?_ | refine SubE.cons ?_ ?_ | exact Sub.refl _ | refine Sub.agg ?_ | refine Sub.sl ?_))), rfl⟩
open Go.Proofs
theorem some_fit : Fit someP := by unfold Fit; decide
theorem some_chk : chkB someP = true := by kernel_rfl
def f0 : Pr := someP.procs[0]'(by decide)
def f1 : Pr := someP.procs[1]'(by decide)
theorem norm0 : normS (stepsRaw someP 0 f0) = [⟨0, 1, 1⟩, ⟨1, 2, 1⟩, ⟨2, 3, 1⟩, ⟨3, 4, 1⟩, ⟨4, -1, 1⟩] := by
 have h1 : stepsRaw someP 0 f0 = [⟨0, 1, 1⟩, ⟨1, 2, 1⟩, ⟨2, 3, 1⟩, ⟨3, 4, 1⟩, ⟨4, -1, 1⟩] := by kernel_rfl
 unfold normS sortSt
 rw [h1, List.mergeSort_of_pairwise (by decide)]
 rfl
theorem norm1 : normS (stepsRaw someP 1 f1) = [⟨0, 5, 1⟩, ⟨5, 6, 1⟩, ⟨6, 7, 1⟩, ⟨6, 8, 1⟩, ⟨7, -1, 1⟩, ⟨8, -1, 1⟩] := by
 have h1 : stepsRaw someP 1 f1 = [⟨0, 5, 1⟩, ⟨5, 6, 1⟩, ⟨6, 7, 1⟩, ⟨6, 8, 1⟩, ⟨7, -1, 1⟩, ⟨8, -1, 1⟩] := by kernel_rfl
 unfold normS sortSt
 rw [h1, List.mergeSort_of_pairwise (by decide)]
 rfl
theorem some_way : wayO someP [112] = some (newWay someP 1 f1) := by
 unfold wayO
 rw [some_chk]
 rfl
open Go.Proofs
open Go.Proofs
open Go.Proofs
theorem tree_count : ∀ (k : Nat) (l : List S) (_ : cntL l < k) (_ : cntL l ≤ 1000000), SpecP Tryz.prog 80 [eSs l] (fun r => r = .int .i64 (cntL l)) := by
 intro k
 induction k with
 | zero => intro l h; omega
 | succ k ih =>
   intro l hk hl
   have hll := S.avs_len l
   have hlc : l.length ≤ cntL l := by
    clear hk hl hll
    induction l with
    | nil => simp
    | cons t r ihr => rw [cntL, cntS_eq, List.length_cons]; omega
   refine SpecP.body I_tree_count tabOK Tryz.func80 rfl Tryz.call80 (by show 1 ≤ _; decide) ?_
   conv => whnf
   repeat' (intro (_ : _ ≤ 9223372036854775807); conv => whnf)
   refine LoopK.inv tabOK (fun y : Nat × Nat => ⟨[(0, .p (eSs l)), (3, .p (.int .i64 y.2)), (8, .p (.int .i64 (S.avs l).length)), (9, .p (.int .i64 y.1))], []⟩) (fun y => y.1 ≤ l.length ∧ y.2 + cntL (l.drop y.1) = cntL l + (l.length - y.1)) (fun y => l.length - y.1) (0, l.length) (Le.of_eq (by simp only [S.avs_len]; rfl)) ⟨Nat.zero_le _, by simp; omega⟩ ?_
   rintro ⟨j, n⟩ ⟨h2, h3⟩
   simp only at h2 h3 ⊢
   rcases Nat.lt_or_ge j l.length with hj | hj
   ·have hst := cntL_step hj
    have hcs := cntS_eq l[j]
    have h4 : cntL (l.drop j) ≤ cntL l := by
     have : ∀ (l : List S) (j : Nat), cntL (l.drop j) ≤ cntL l := fun l => by
      induction l with
      | nil => intro j; simp
      | cons t r ihr =>
        intro j
        cases j with
        | zero => simp
        | succ j => rw [List.drop_succ_cons, cntL]; have := ihr j; omega
     exact this l j
    conv => whnf
    repeat' (first | ((first | (refine DrawK.auto tabOK mixed (by kernel_rfl) ?_) | (refine IdxK.ss (by omega) ?_) | (refine Wr.i64 (by omega) (by omega) ?_) | (refine CallK.pure (ih l[j].thn (by omega) (by omega)) (.cons (Sub.refl _) .nil) ?_; rintro _ rfl) | (refine CallK.pure (ih l[j].els (by omega) (by omega)) (.cons (Sub.refl _) .nil) ?_; rintro _ rfl)); conv => whnf) | (refine Br.dec (fun _ => ?_) (fun _ => ?_) <;> first | (exfalso; omega) | conv => whnf))
    all_goals exact ⟨(j + 1, n + (cntL l[j].thn + cntL l[j].els)), ⟨by simp only; omega, by simp only; omega⟩, by simp only; omega, Le.of_eq rfl⟩
   ·conv => whnf
    rw [List.drop_eq_nil_of_le hj, cntL] at h3
    repeat' (refine Br.dec (fun _ => ?_) (fun _ => ?_) <;> first | (exfalso; omega) | conv => whnf)
    exact RetK.int (by omega)
theorem tree_Count (p : Pg) (hc : cntP p.procs ≤ 1000) : SpecP Tryz.prog 18 [.agg p.cells] (fun r => r = .int .i64 (cntP p.procs)) := by
 refine SpecP.body I_tree_Count tabOK Tryz.func18 rfl Tryz.call18 (by show 1 ≤ _; decide) ?_
 conv => whnf
 have hl2 : (p.procs.map fun f => AV.agg f.cells).length = p.procs.length := List.length_map _
 repeat' (intro (_ : _ ≤ 9223372036854775807); conv => whnf)
 refine LoopK.inv tabOK (fun y : Nat × Nat => ⟨[(3, .p (.int .i64 y.2)), (7, .p (.sl (p.procs.map fun f => .agg f.cells))), (8, .p (.int .i64 (p.procs.map fun f => AV.agg f.cells).length)), (9, .p (.int .i64 y.1))], []⟩) (fun y => y.1 ≤ p.procs.length ∧ y.2 + cntP (p.procs.drop y.1) = cntP p.procs) (fun y => p.procs.length - y.1) (0, 0) (Le.of_eq rfl) ⟨Nat.zero_le _, by simp⟩ ?_
 rintro ⟨j, n⟩ ⟨h2, h3⟩
 simp only at h2 h3 ⊢
 rcases Nat.lt_or_ge j p.procs.length with hj | hj
 ·have hst := cntP_step hj
  have hcm := cntP_mem _ _ (List.getElem_mem hj)
  conv => whnf
  repeat' (first | ((first | (refine And.intro rfl ?_) | (refine IdxK.map (by omega) (fun _ => rfl) ?_) | (refine Wr.i64 (by omega) (by omega) ?_) | (refine CallK.pure (tree_count (cntL p.procs[j].body+1) p.procs[j].body (by omega) (by omega)) (.cons (Sub.refl _) .nil) ?_; rintro _ rfl)); conv => whnf) | (refine Br.dec (fun _ => ?_) (fun _ => ?_) <;> first | (exfalso; omega) | conv => whnf))
  exact ⟨(j + 1, n + cntL p.procs[j].body), ⟨by simp only; omega, by simp only; omega⟩, by simp only; omega, Le.of_eq rfl⟩
 ·conv => whnf
  rw [List.drop_eq_nil_of_le hj, cntP] at h3
  repeat' (refine Br.dec (fun _ => ?_) (fun _ => ?_) <;> first | (exfalso; omega) | conv => whnf)
  exact RetK.int (by omega)
def smallB (p : Pg) (most : Int) : Bool := chkB p && decide ((cntP p.procs : Int) ≤ most)
open Go.Proofs
def frR (steps : List Step) (at_ : Int) (but : List Int) (a b : Int) : Prop := (a = at_ ∨ hasI but a = false) ∧ ∃ s ∈ steps, s.src = a ∧ s.dst = b
structure FrI (steps : List Step) (at_ : Int) (but : List Int) (n : Nat) (l : List Int) : Prop where
 le : n ≤ l.length
 hd : l[0]? = some at_
 nd : l.Nodup
 sub : ∀ x ∈ l, x ∈ at_ :: steps.map Step.dst
 snd : ∀ x ∈ l, Rch (frR steps at_ but) at_ x
 cl : ∀ (m : Nat) (a : Int), m < n → l[m]? = some a → ∀ b, frR steps at_ but a b → b ∈ l
theorem FrI.len {steps : List Step} {at_ : Int} {but : List Int} {n : Nat} {l : List Int} (h : FrI steps at_ but n l) : l.length ≤ steps.length + 1 := by
 have := nodup_len h.nd h.sub
 simpa using this
theorem FrI.start (steps : List Step) (at_ : Int) (but : List Int) : FrI steps at_ but 0 [at_] := ⟨Nat.zero_le _, rfl, by simp, by simp, fun x hx => by rw [List.mem_singleton.1 hx]; exact .refl, fun m a hm => by omega⟩
theorem FrI.add {steps : List Step} {at_ : Int} {but : List Int} {n : Nat} {l : List Int} (h : FrI steps at_ but n l) {a b : Int} (ha : a ∈ l) (hb : frR steps at_ but a b) (hn : hasI l b = false) : FrI steps at_ but n (l ++ [b]) := by
 have hnm : b ∉ l := fun hm => by rw [hasI_iff.2 hm] at hn; cases hn
 have h0 : 0 < l.length := (List.getElem?_eq_some_iff.1 h.hd).1
 refine ⟨by rw [List.length_append]; have := h.le; omega, by rw [List.getElem?_append_left h0]; exact h.hd, ?_, fun x hx => ?_, fun x hx => ?_, fun m c hm hc d hd => ?_⟩
 ·rw [List.nodup_append]
  refine ⟨h.nd, by simp, fun x hx y hy => ?_⟩
  rw [List.mem_singleton.1 hy]
  exact fun e => hnm (e ▸ hx)
 ·rcases List.mem_append.1 hx with hx | hx
  ·exact h.sub x hx
  ·rw [List.mem_singleton.1 hx]
   obtain ⟨_, s, hs, _, h2⟩ := hb
   exact List.mem_cons_of_mem _ (List.mem_map.2 ⟨s, hs, h2⟩)
 ·rcases List.mem_append.1 hx with hx | hx
  ·exact h.snd x hx
  ·rw [List.mem_singleton.1 hx]
   exact .tail (h.snd a ha) hb
 ·rcases Nat.lt_or_ge m l.length with hml | hml
  ·rw [List.getElem?_append_left hml] at hc
   exact List.mem_append.2 (.inl (h.cl m c hm hc d hd))
  ·have := h.le
   omega
theorem FrI.fin {steps : List Step} {at_ : Int} {but : List Int} {l : List Int} (h : FrI steps at_ but l.length l) (x : Int) : x ∈ l ↔ Rch (frR steps at_ but) at_ x := by
 refine ⟨h.snd x, fun hr => hr.closed (S := fun x => x ∈ l) (fun a b ha hb => ?_) (List.mem_of_getElem? h.hd)⟩
 obtain ⟨m, hm⟩ := List.mem_iff_getElem?.1 ha
 exact h.cl m a (List.getElem?_eq_some_iff.1 hm).1 hm b hb
theorem FrI.next {steps : List Step} {at_ : Int} {but : List Int} {n : Nat} {l : List Int} (h : FrI steps at_ but n l) (hn : n < l.length) (hc : ∀ b, frR steps at_ but l[n] b → b ∈ l) : FrI steps at_ but (n + 1) l := by
 refine ⟨hn, h.hd, h.nd, h.sub, h.snd, fun m a hm ha b hb => ?_⟩
 rcases Nat.lt_or_ge m n with hmn | hmn
 ·exact h.cl m a hmn ha b hb
 ·obtain rfl : m = n := by omega
  rw [List.getElem?_eq_getElem hn] at ha
  cases ha
  exact hc b hb
open Go.Proofs
theorem DrawK.frz {P : Program} {T : Tab} {N : Nat} {ops : Array Oper} {info : Info} {id : Nat} {K : St → Prop} {s : St} (gs : List (List Nat)) (h : frzK gs s fun s' => DrawK P T N info id ops K s') : DrawK P T N info id ops K s := by
 obtain ⟨s', h1, h2⟩ := frzK_spec (N := N) h
 exact DrawK.le h2 h1
theorem stAt_own {p : Pg} (h : chkB p = true) {j : Nat} {f : Pr} (hj : p.procs[j]? = some f) {a : Int} (h1 : (offN p.procs j : Int) + 1 ≤ a) (h2 : a ≤ (offN p.procs j + cntL f.body : Nat)) : ∃ t ∈ flL f.body, stAt p a = some t ∧ t.id = a := by
 obtain ⟨it, h3, h4⟩ := sheet_its hj (k := (a - 1).toNat) (by omega) (by omega)
 refine ⟨it.s, its_s h4, by unfold stAt; rw [h3]; rfl, ?_⟩
 obtain ⟨_, _, _, hlen, hsp⟩ := sheet_spec p
 obtain ⟨_, _, hle, hd⟩ := hsp j f hj
 have hids := its_ids (chk_parts h).1 hj
 have h5 : (itsOf p j f)[(a - 1).toNat - offN p.procs j]? = some it := by
  unfold itsOf
  rw [← hd, List.getElem?_drop, List.getElem?_take, if_pos (by omega), show offN p.procs j + ((a - 1).toNat - offN p.procs j) = (a - 1).toNat by omega]
  exact h3
 have h6 : ((itsOf p j f).map fun it => it.s.id)[(a - 1).toNat - offN p.procs j]? = some it.s.id := by rw [List.getElem?_map, h5]; rfl
 rw [hids] at h6
 unfold idsN at h6
 rw [List.getElem?_map, List.getElem?_range' (by omega)] at h6
 simp at h6
 omega
open Go.Proofs
structure NoGo (sh : Sheet) (f : Pr) (lo hi : Nat) (T : Int → Prop) : Prop where
 cl : ∀ (k : Nat) (it : Item), lo ≤ k → k < hi → sh.l[k]? = some it → T it.s.id → it.s.kind ≠ 10 ∧ ∀ y ∈ goesI sh f it, T y
 id : ∀ (k : Nat) (it : Item), lo ≤ k → k < hi → sh.l[k]? = some it → it.s.id = (k : Int) + 1
 ld : ∀ (k : Nat) (it : Item), lo ≤ k → k < hi → sh.l[k]? = some it → it.s.kind = 7 ∨ it.s.kind = 8 → it.loop ≠ 0
 lp : ∀ (k : Nat) (it : Item), lo ≤ k → k < hi → sh.l[k]? = some it → it.loop = 0 ∨ ∃ u, sh.l[(it.loop - 1).toNat]? = some u
def escC (sh : Sheet) (T : Int → Prop) (nx lp : Int) : Prop := T nx ∨ T (-1) ∨ (lp ≠ 0 ∧ (T lp ∨ ∃ u, sh.l[(lp - 1).toNat]? = some u ∧ T u.next))
def atP (sh : Sheet) (n : Nat) (l : List Item) : Prop := ∀ (i : Nat) (it : Item), l[i]? = some it → sh.l[n + i]? = some it
theorem atP.left {sh : Sheet} {n : Nat} {a b : List Item} (h : atP sh n (a ++ b)) : atP sh n a := fun i it hi => h i it (by
 rw [List.getElem?_append_left (List.getElem?_eq_some_iff.1 hi).1]
 exact hi)
theorem atP.right {sh : Sheet} {n : Nat} {a b : List Item} (h : atP sh n (a ++ b)) : atP sh (n + a.length) b := fun i it hi => by
 rw [Nat.add_assoc]
 exact h (a.length + i) it (by rw [List.getElem?_append_right (by omega), Nat.add_sub_cancel_left]; exact hi)
theorem itL_hd (proc up nx lp : Int) (n : Nat) (v : S) (r : List S) : ∃ it ∈ itL proc up nx lp n (v :: r), it.s = v := by
 rw [itL, itS_eq]
 exact ⟨_, List.mem_append.2 (.inl List.mem_cons_self), rfl⟩
mutual
theorem escS {sh : Sheet} {f : Pr} {lo hi : Nat} {T : Int → Prop} (hT : NoGo sh f lo hi T) (proc : Int) : ∀ (t : S) (up nx lp : Int) (n : Nat), atP sh n (itS proc up nx lp n t) → lo ≤ n → n + cntS t ≤ hi → (∃ it ∈ itS proc up nx lp n t, T it.s.id) → escC sh T nx lp
 | .mk id kind labels name pr x has args thn els, up, nx, lp, n, hp, h1, h2, h3 => by
   rw [itS] at hp h3
   rw [cntS] at h2
   have hself : sh.l[n]? = some ⟨.mk id kind labels name pr x has args thn els, proc, up, nx, lp⟩ := hp 0 _ rfl
   have hcl := hT.cl n _ h1 (by omega) hself
   have hid := hT.id n _ h1 (by omega) hself
   have hld := hT.ld n _ h1 (by omega) hself
   have hlp := hT.lp n _ h1 (by omega) hself
   have hp1 : atP sh (n + 1) (itL proc (n + 1) (if kind = 6 then n + 1 else nx) (if kind = 6 then n + 1 else lp) (n + 1) thn ++ itL proc (n + 1) (if kind = 6 then n + 1 else nx) (if kind = 6 then n + 1 else lp) (n + 1 + cntL thn) els) := fun i it hi => by
    have := hp (i + 1) it (by simpa using hi)
    rwa [show n + (i + 1) = n + 1 + i by omega] at this
   have hw : kind = 6 → T ((n : Int) + 1) → T nx := fun hk h => by
    have h5 : T (S.mk id kind labels name pr x has args thn els).id := by
     rw [show (S.mk id kind labels name pr x has args thn els).id = (n : Int) + 1 from hid]
     exact h
    refine (hcl h5).2 nx ?_
    unfold goesI
    rw [if_neg (by show ¬ kind = 5; omega), if_pos (by exact hk)]
    simp
   have hin : escC sh T (if kind = 6 then ((n : Int) + 1) else nx) (if kind = 6 then ((n : Int) + 1) else lp) → escC sh T nx lp := fun h => by
    by_cases hk : kind = 6
    ·rw [if_pos hk, if_pos hk] at h
     rcases h with h | h | ⟨_, h | ⟨u, hu, h⟩⟩
     ·exact .inl (hw hk h)
     ·exact .inr (.inl h)
     ·exact .inl (hw hk h)
     ·rw [show ((n : Int) + 1 - 1).toNat = n by omega, hself] at hu
      cases hu
      exact .inl h
    ·rw [if_neg hk, if_neg hk] at h
     exact h
   have hthn : (∃ it ∈ itL proc (n + 1) (if kind = 6 then n + 1 else nx) (if kind = 6 then n + 1 else lp) (n + 1) thn, T it.s.id) → escC sh T nx lp := fun h =>
    hin (escL hT proc thn _ _ _ (n + 1) hp1.left (by omega) (by omega) h)
   obtain ⟨it, hit, hti⟩ := h3
   rcases List.mem_cons.1 hit with rfl | hit
   ·obtain ⟨hk10, hgo⟩ := hcl hti
    have hk10 : kind ≠ 10 := hk10
    by_cases hk5 : kind = 5
    ·cases thn with
     | nil =>
       refine .inl (hgo nx ?_)
       unfold goesI
       rw [if_pos (by exact hk5)]
       simp [headI, S.thn]
     | cons v r =>
       have : T v.id := by
        refine hgo v.id ?_
        unfold goesI
        rw [if_pos (by exact hk5)]
        simp [headI, S.thn]
       obtain ⟨iv, h5, h6⟩ := itL_hd proc (n + 1) (if kind = 6 then n + 1 else nx) (if kind = 6 then n + 1 else lp) (n + 1) v r
       exact hthn ⟨iv, h5, by rw [h6]; exact this⟩
    by_cases hk6 : kind = 6
    ·refine .inl (hw hk6 ?_)
     rw [← show (S.mk id kind labels name pr x has args thn els).id = (n : Int) + 1 from hid]
     exact hti
    by_cases hk7 : kind = 7
    ·have hl0 := hld (.inl hk7)
     rcases hlp with h5 | ⟨u, hu⟩
     ·exact absurd h5 hl0
     ·refine .inr (.inr ⟨hl0, .inr ⟨u, hu, hgo _ ?_⟩⟩)
      unfold goesI
      rw [if_neg (by exact hk5), if_neg (by exact hk6), if_pos (by exact hk7)]
      simp only at hu
      rw [hu]
      simp
    by_cases hk8 : kind = 8
    ·refine .inr (.inr ⟨hld (.inr hk8), .inl (hgo _ ?_)⟩)
     unfold goesI
     rw [if_neg (by exact hk5), if_neg (by exact hk6), if_neg (by exact hk7), if_pos (by exact hk8)]
     simp
    by_cases hk9 : kind = 9
    ·refine .inr (.inl (hgo _ ?_))
     unfold goesI
     rw [if_neg (by exact hk5), if_neg (by exact hk6), if_neg (by exact hk7), if_neg (by exact hk8), if_pos (by exact hk9)]
     simp
    ·refine .inl (hgo _ ?_)
     unfold goesI
     rw [if_neg (by exact hk5), if_neg (by exact hk6), if_neg (by exact hk7), if_neg (by exact hk8), if_neg (by exact hk9), if_neg (by exact hk10)]
     simp
   ·rcases List.mem_append.1 hit with hit | hit
    ·exact hthn ⟨it, hit, hti⟩
    ·have hp2 := hp1.right
     rw [itL_len] at hp2
     exact hin (escL hT proc els _ _ _ (n + 1 + cntL thn) hp2 (by omega) (by omega) ⟨it, hit, hti⟩)
theorem escL {sh : Sheet} {f : Pr} {lo hi : Nat} {T : Int → Prop} (hT : NoGo sh f lo hi T) (proc : Int) : ∀ (l : List S) (up nx lp : Int) (n : Nat), atP sh n (itL proc up nx lp n l) → lo ≤ n → n + cntL l ≤ hi → (∃ it ∈ itL proc up nx lp n l, T it.s.id) → escC sh T nx lp
 | [], up, nx, lp, n, hp, h1, h2, h3 => by
   rw [itL] at h3
   obtain ⟨it, hit, _⟩ := h3
   cases hit
 | t :: r, up, nx, lp, n, hp, h1, h2, h3 => by
   rw [itL] at hp h3
   rw [cntL] at h2
   have hp2 := hp.right
   rw [itS_len] at hp2
   have hr : (∃ it ∈ itL proc up nx lp (n + cntS t) r, T it.s.id) → escC sh T nx lp := fun h => escL hT proc r up nx lp (n + cntS t) hp2 (by omega) (by omega) h
   obtain ⟨it, hit, hti⟩ := h3
   rcases List.mem_append.1 hit with hit | hit
   ·have h5 := escS hT proc t up _ lp n hp.left h1 (by omega) ⟨it, hit, hti⟩
    cases r with
    | nil => exact h5
    | cons v r =>
      rcases h5 with h5 | h5
      ·refine hr ?_
       obtain ⟨iv, h6, h7⟩ : ∃ iv, (itL proc up nx lp (n + cntS t) (v :: r))[0]? = some iv ∧ iv.s = v := by
        rw [itL, itS_eq]
        exact ⟨_, rfl, rfl⟩
       have h8 := hp2 0 iv h6
       have h9 := hT.id (n + cntS t) iv (by omega) (by
        rw [cntL] at h2
        have : 1 ≤ cntS v := by cases v; rw [cntS]; omega
        omega) h8
       refine ⟨iv, List.mem_of_getElem? h6, ?_⟩
       rw [h9]
       simp only [List.isEmpty_cons] at h5
       have e : ((n + cntS t : Nat) : Int) + 1 = (n : Int) + 1 + cntS t := by omega
       rw [e]
       exact h5
      ·exact .inr h5
   ·exact hr ⟨it, hit, hti⟩
end
open Go.Proofs
theorem sheet_id {p : Pg} (h : chkB p = true) {j : Nat} {f : Pr} (hj : p.procs[j]? = some f) {k : Nat} {it : Item} (h1 : offN p.procs j ≤ k) (h2 : k < offN p.procs j + cntL f.body) (hk : (sheetOf p).l[k]? = some it) : it.s.id = (k : Int) + 1 := by
 obtain ⟨t, _, h4, h5⟩ := stAt_own h hj (a := (k : Int) + 1) (by omega) (by omega)
 unfold stAt at h4
 rw [show ((k : Int) + 1 - 1).toNat = k by omega, hk] at h4
 cases h4
 exact h5
theorem raw_go {p : Pg} {j : Nat} {f : Pr} {it : Item} (hi : it ∈ itsOf p j f) {y : Int} (hy : y ∈ goesI (sheetOf p) f it) : (⟨it.s.id, y, 1⟩ : Step) ∈ stepsRaw p j f := by
 unfold stepsRaw
 exact List.mem_cons_of_mem _ (List.mem_flatMap.2 ⟨it, hi, List.mem_map.2 ⟨y, hy, rfl⟩⟩)
theorem proc_exit {p : Pg} (h : chkB p = true) {j : Nat} {f : Pr} (hj : p.procs[j]? = some f) {T : Int → Prop} (hcl : ∀ a b, T a → stR (newWay p j f).real a b → T b) (hgo : ∀ t ∈ flL f.body, T t.id → t.kind ≠ 10) {t : S} (ht : t ∈ flL f.body) (hT : T t.id) : T (-1) := by
 obtain ⟨hm, hs, _, hjm, _⟩ := chk_parts h
 have hld := jump_leads_all hs hjm hj
 obtain ⟨_, _, _, hlen, hsp⟩ := sheet_spec p
 obtain ⟨_, _, hle, hd⟩ := hsp j f hj
 have hits : ∀ (k : Nat) (it : Item), offN p.procs j ≤ k → k < offN p.procs j + cntL f.body → (sheetOf p).l[k]? = some it → it ∈ itsOf p j f := fun k it h1 h2 hk => by
  obtain ⟨it', h3, h4⟩ := sheet_its hj h1 h2
  rw [hk] at h3
  cases h3
  exact h4
 have hn : NoGo (sheetOf p) f (offN p.procs j) (offN p.procs j + cntL f.body) T := by
  refine ⟨fun k it h1 h2 hk hT => ?_, fun k it h1 h2 hk => sheet_id h hj h1 h2 hk, fun k it h1 h2 hk hkd => ?_, fun k it h1 h2 hk => ?_⟩
  ·have hi := hits k it h1 h2 hk
   exact ⟨hgo _ (its_s hi) hT, fun y hy => hcl _ _ hT ⟨⟨it.s.id, y, 1⟩, ((real_spec h hj).2 _).2 (raw_go hi hy), rfl, rfl⟩⟩
  ·have hl := hld it (hits k it h1 h2 hk)
   unfold leadsB at hl
   rw [if_pos hkd] at hl
   intro h0
   rw [h0] at hl
   cases hl
  ·rcases (its_rng (hits k it h1 h2 hk)).2 with h0 | ⟨h3, h4⟩
   ·exact .inl h0
   ·have : (it.loop - 1).toNat < (sheetOf p).l.length := by omega
    exact .inr ⟨_, List.getElem?_eq_getElem this⟩
 obtain ⟨it, hit, hits2⟩ := it_of (p := p) (j := j) ht
 have hat : atP (sheetOf p) (offN p.procs j) (itL j 0 (-1) 0 (offN p.procs j) f.body) := fun i it hi => by
  rw [← hd, List.getElem?_drop, List.getElem?_take] at hi
  split at hi
  ·exact hi
  ·cases hi
 have := escL hn j f.body 0 (-1) 0 (offN p.procs j) hat (Nat.le_refl _) (Nat.le_refl _) ⟨it, hit, by rw [hits2]; exact hT⟩
 rcases this with h1 | h1 | ⟨h1, _⟩
 ·exact h1
 ·exact h1
 ·exact absurd rfl h1
theorem openF_iff {n : Nat} {part : List Int} (hp : ∀ k, k < n → 0 ≤ part.getD k 0 ∧ part.getD k 0 < n) {i : Nat} (hi : i < n) : ∀ (l : List (Int × Int)) {o : List Bool}, o.length = n → (∀ t ∈ l, 0 ≤ t.1 ∧ t.1 < n) →
  ((l.foldl (openS part) o).getD i false = true ↔ o.getD i false = true ∨ ∃ t ∈ l, part.getD t.1.toNat 0 ≠ part.getD t.2.toNat 0 ∧ part.getD t.1.toNat 0 = i)
 | [], o, _, _ => by simp
 | t :: r, o, ho, hr => by
   rw [List.foldl_cons, openF_iff hp hi r (by rw [openS_len]; exact ho) fun u hu => hr u (List.mem_cons_of_mem _ hu)]
   have h1 := hr t List.mem_cons_self
   have h2 := hp t.1.toNat (by omega)
   have key : (openS part o t).getD i false = true ↔ o.getD i false = true ∨ (part.getD t.1.toNat 0 ≠ part.getD t.2.toNat 0 ∧ part.getD t.1.toNat 0 = i) := by
    unfold openS
    split
    ·rename_i he
     constructor
     ·exact .inl
     ·rintro (h3 | ⟨h3, _⟩)
      ·exact h3
      ·exact absurd he h3
    ·rename_i he
     rw [getD_set (by omega)]
     split
     ·rename_i h3
      constructor
      ·intro _
       exact .inr ⟨he, by omega⟩
      ·intro _
       rfl
     ·rename_i h3
      constructor
      ·exact .inl
      ·rintro (h4 | ⟨_, h4⟩)
       ·exact h4
       ·exact absurd (by omega) h3
   rw [key, or_assoc]
   constructor
   ·rintro (h3 | ⟨h3, h4⟩ | ⟨u, hu, h3⟩)
    ·exact .inl h3
    ·exact .inr ⟨t, List.mem_cons_self, h3, h4⟩
    ·exact .inr ⟨u, List.mem_cons_of_mem _ hu, h3⟩
   ·rintro (h3 | ⟨u, hu, h3⟩)
    ·exact .inl h3
    ·rcases List.mem_cons.1 hu with rfl | hu
     ·exact .inr (.inl h3)
     ·exact .inr (.inr ⟨u, hu, h3⟩)
theorem open_iff {n : Nat} {part : List Int} (hn : 0 < n) (hp : ∀ k, k < n → 0 ≤ part.getD k 0 ∧ part.getD k 0 < n) {i : Nat} (hi : i < n) {l : List (Int × Int)} (hr : ∀ t ∈ l, 0 ≤ t.1 ∧ t.1 < n) :
  (openB n part l).getD i false = true ↔ part.getD 0 0 = i ∨ part.getD (n - 1) 0 = i ∨ ∃ t ∈ l, part.getD t.1.toNat 0 ≠ part.getD t.2.toNat 0 ∧ part.getD t.1.toNat 0 = i := by
 have h0 := hp 0 hn
 have h1 := hp (n - 1) (by omega)
 unfold openB
 rw [openF_iff hp hi l (by simp [open0]) hr]
 have key : (open0 n part).getD i false = true ↔ part.getD 0 0 = i ∨ part.getD (n - 1) 0 = i := by
  unfold open0
  rw [getD_set (by rw [List.length_set, List.length_replicate]; omega), getD_set (by rw [List.length_replicate]; omega)]
  split
  ·exact ⟨fun _ => .inr (by omega), fun _ => rfl⟩
  ·split
   ·exact ⟨fun _ => .inl (by omega), fun _ => rfl⟩
   ·have : (List.replicate n false).getD i false = false := by
     rw [List.getD_eq_getElem?_getD, List.getElem?_replicate]; split <;> rfl
    rw [this]
    constructor
    ·intro h; cases h
    ·rintro (h | h) <;> omega
 rw [key, or_assoc]
open Go.Proofs
section
variable {p : Pg} {j : Nat} {f : Pr}
theorem ix_place {i : Int} (h : 0 ≤ i ∧ i < (cntL f.body + 2 : Nat)) : plP p j f (placeI p j (cntL f.body + 2 : Nat) i) ∧ ixI p j f (placeI p j (cntL f.body + 2 : Nat) i) = i := by
 unfold placeI ixI indexI plP loI hiI
 constructor
 ·(repeat' split) <;> omega
 ·(repeat' split) <;> omega
theorem place_ix {x : Int} (h : plP p j f x) : placeI p j (cntL f.body + 2 : Nat) (ixI p j f x) = x := by
 have h1 := ix_place (p := p) (j := j) (f := f) (ix_rng h)
 exact ix_inj h1.1 h h1.2
theorem prs_new : prsW (newWay p j f) f = (newWay p j f).real.map (ixP p j f (cntL f.body + 2 : Nat)) := rfl
theorem prs_in (h : chkB p = true) (hj : p.procs[j]? = some f) : ∀ t ∈ prsW (newWay p j f) f, (0 ≤ t.1 ∧ t.1 < (cntL f.body + 2 : Nat)) ∧ 0 ≤ t.2 ∧ t.2 < (cntL f.body + 2 : Nat) := fun t ht => by
 rw [prs_new] at ht
 obtain ⟨s, hs, rfl⟩ := List.mem_map.1 ht
 obtain ⟨h1, h2⟩ := real_places h hj s hs
 exact ⟨ix_rng h1, ix_rng h2⟩
def wE (p : Pg) (j : Nat) (f : Pr) : Int → Int → Prop := rowE (graphE (cntL f.body + 2) (prsW (newWay p j f) f)).1
def wR (p : Pg) (j : Nat) (f : Pr) : Int → Int → Prop := stR (newWay p j f).real
theorem E_iff (h : chkB p = true) (hj : p.procs[j]? = some f) {i k : Int} : wE p j f i k ↔ ∃ a b, wR p j f a b ∧ ixI p j f a = i ∧ ixI p j f b = k := by
 unfold wE wR
 rw [graph_rowE]
 constructor
 ·rintro ⟨h1, _, _⟩
  rw [prs_new] at h1
  obtain ⟨s, hs, he⟩ := List.mem_map.1 h1
  exact ⟨s.src, s.dst, ⟨s, hs, rfl, rfl⟩, congrArg Prod.fst he, congrArg Prod.snd he⟩
 ·rintro ⟨a, b, ⟨s, hs, rfl, rfl⟩, rfl, rfl⟩
  obtain ⟨h1, h2⟩ := real_places h hj s hs
  exact ⟨List.mem_map.2 ⟨s, hs, rfl⟩, hasB_of (ix_rng h1), hasB_of (ix_rng h2)⟩
theorem R_pl (h : chkB p = true) (hj : p.procs[j]? = some f) {a b : Int} (hr : wR p j f a b) : plP p j f a ∧ plP p j f b := by
 obtain ⟨s, hs, rfl, rfl⟩ := hr
 exact real_places h hj s hs
theorem rch_ix (h : chkB p = true) (hj : p.procs[j]? = some f) {a b : Int} (ha : plP p j f a) (hb : plP p j f b) : Rch (wE p j f) (ixI p j f a) (ixI p j f b) ↔ Rch (wR p j f) a b := by
 constructor
 ·intro hr
  obtain ⟨c, h1, h2, h3⟩ := hr.closed (S := fun k => ∃ c, plP p j f c ∧ ixI p j f c = k ∧ Rch (wR p j f) a c) (by
   rintro i k ⟨c, h1, h2, h3⟩ h4
   obtain ⟨x, y, h5, h6, h7⟩ := (E_iff h hj).1 h4
   have h8 := R_pl h hj h5
   have : x = c := ix_inj h8.1 h1 (by rw [h6, h2])
   subst this
   exact ⟨y, h8.2, h7, .tail h3 h5⟩) ⟨a, ha, rfl, .refl⟩
  rw [← ix_inj h1 hb h2]
  exact h3
 ·intro hr
  exact (hr.closed (S := fun c => plP p j f c ∧ Rch (wE p j f) (ixI p j f a) (ixI p j f c)) (fun x y ⟨h1, h2⟩ h3 => ⟨(R_pl h hj h3).2, .tail h2 ((E_iff h hj).2 ⟨x, y, h3, rfl, rfl⟩)⟩) ⟨ha, .refl⟩).2
theorem scc_ix (h : chkB p = true) (hj : p.procs[j]? = some f) {a b : Int} (ha : plP p j f a) (hb : plP p j f b) : sccP (wE p j f) (ixI p j f a) (ixI p j f b) ↔ sccP (wR p j f) a b := by
 unfold sccP
 rw [rch_ix h hj ha hb, rch_ix h hj hb ha]
def partI (p : Pg) (j : Nat) (f : Pr) (i : Int) : Int := (partW (newWay p j f) f).getD i.toNat 0
theorem partW_new : partW (newWay p j f) f = partR (cntL f.body + 2) (graphE (cntL f.body + 2) (prsW (newWay p j f) f)).1 := rfl
theorem part_min {i : Int} (hi : 0 ≤ i ∧ i < (cntL f.body + 2 : Nat)) : MinP (wE p j f) i (partI p j f i) := by
 unfold partI
 rw [partW_new]
 exact partR_spec (graphE_in _ _).1 hi
theorem part_rng {k : Nat} (hk : k < cntL f.body + 2) : 0 ≤ (partW (newWay p j f) f).getD k 0 ∧ (partW (newWay p j f) f).getD k 0 < (cntL f.body + 2 : Nat) := by
 rw [partW_new]
 exact partR_in (graphE_in _ _).1 hk
theorem part_len : (partW (newWay p j f) f).length = cntL f.body + 2 := by rw [partW_new, partR_len]
theorem MinP.same {E : Int → Int → Prop} {x y v : Int} (h : MinP E x v) (hs : sccP E x y) : MinP E y v := ⟨hs.symm.trans h.scc, fun z hz => h.le z (hs.trans hz)⟩
theorem part_iff {i k : Int} (hi : 0 ≤ i ∧ i < (cntL f.body + 2 : Nat)) (hk : 0 ≤ k ∧ k < (cntL f.body + 2 : Nat)) : partI p j f i = partI p j f k ↔ sccP (wE p j f) i k := by
 have h1 := part_min (p := p) (j := j) hi
 have h2 := part_min (p := p) (j := j) hk
 constructor
 ·intro he
  rw [← he] at h2
  exact h1.scc.trans h2.scc.symm
 ·intro hs
  exact (h1.same hs).uniq h2
theorem part_pl (h : chkB p = true) (hj : p.procs[j]? = some f) {a b : Int} (ha : plP p j f a) (hb : plP p j f b) : partI p j f (ixI p j f a) = partI p j f (ixI p j f b) ↔ sccP (wR p j f) a b := by
 rw [part_iff (ix_rng ha) (ix_rng hb), scc_ix h hj ha hb]
structure TrapP (p : Pg) (j : Nat) (f : Pr) (l : List Int) (r : Int) : Prop where
 pl : plP p j f r
 mem : ∀ b, b ∈ l ↔ plP p j f b ∧ sccP (wR p j f) r b
 cl : ∀ b c, sccP (wR p j f) r b → wR p j f b c → sccP (wR p j f) r c
 n0 : ¬ sccP (wR p j f) r 0
 nx : ¬ sccP (wR p j f) r (-1)
theorem trapR_mem {plc : Int → Int} {part : List Int} {i q : Nat} {b : Int} : b ∈ trapR plc part i q ↔ ∃ k : Nat, k < q ∧ part.getD k 0 = i ∧ plc k = b := by
 unfold trapR
 constructor
 ·intro h
  obtain ⟨k, hk, rfl⟩ := List.mem_map.1 h
  obtain ⟨h1, h2⟩ := List.mem_filter.1 hk
  exact ⟨k, List.mem_range.1 h1, beq_iff_eq.1 h2, rfl⟩
 ·rintro ⟨k, h1, h2, rfl⟩
  exact List.mem_map.2 ⟨k, List.mem_filter.2 ⟨List.mem_range.2 h1, beq_iff_eq.2 h2⟩, rfl⟩
theorem ix0 : ixI p j f 0 = 0 := by unfold ixI indexI; rw [if_pos rfl]
theorem ix1 : ixI p j f (-1) = ((cntL f.body + 2 : Nat) : Int) - 1 := by unfold ixI indexI; rw [if_neg (by omega), if_pos rfl]
theorem pl0 : plP p j f 0 := .inl rfl
theorem pl1 : plP p j f (-1) := .inr (.inl rfl)
theorem part_nat (k : Nat) : (partW (newWay p j f) f).getD k 0 = partI p j f k := by
 unfold partI
 rw [Int.toNat_natCast]
theorem open_pl (h : chkB p = true) (hj : p.procs[j]? = some f) {i : Nat} (hi : i < cntL f.body + 2) : (openB (cntL f.body + 2) (partW (newWay p j f) f) (prsW (newWay p j f) f)).getD i false = true ↔
  partI p j f (ixI p j f 0) = i ∨ partI p j f (ixI p j f (-1)) = i ∨ ∃ a b, wR p j f a b ∧ ¬ sccP (wR p j f) a b ∧ partI p j f (ixI p j f a) = i := by
 rw [open_iff (by omega) (fun k hk => part_rng hk) hi fun t ht => (prs_in h hj t ht).1, ix0, ix1]
 have e1 : (partW (newWay p j f) f).getD (cntL f.body + 2 - 1) 0 = partI p j f (((cntL f.body + 2 : Nat) : Int) - 1) := by
  unfold partI
  congr 1
  omega
 have e0 : (partW (newWay p j f) f).getD 0 0 = partI p j f 0 := rfl
 rw [e0, e1]
 refine or_congr Iff.rfl (or_congr Iff.rfl ?_)
 constructor
 ·rintro ⟨t, ht, h1, h2⟩
  rw [prs_new] at ht
  obtain ⟨s, hs, rfl⟩ := List.mem_map.1 ht
  obtain ⟨h3, h4⟩ := real_places h hj s hs
  exact ⟨s.src, s.dst, ⟨s, hs, rfl, rfl⟩, fun hsc => h1 ((part_pl h hj h3 h4).2 hsc), h2⟩
 ·rintro ⟨a, b, ⟨s, hs, rfl, rfl⟩, h1, h2⟩
  obtain ⟨h3, h4⟩ := real_places h hj s hs
  exact ⟨ixP p j f (cntL f.body + 2 : Nat) s, by rw [prs_new]; exact List.mem_map.2 ⟨s, hs, rfl⟩, fun he => h1 ((part_pl h hj h3 h4).1 he), h2⟩
theorem traps_mem {l : List Int} : l ∈ trapsW (newWay p j f) f ↔ ∃ i : Nat, i < cntL f.body + 2 ∧ partI p j f i = i ∧ (openB (cntL f.body + 2) (partW (newWay p j f) f) (prsW (newWay p j f) f)).getD i false = false ∧ l = trapR (placeI p j (cntL f.body + 2 : Nat)) (partW (newWay p j f) f) i (cntL f.body + 2) := by
 unfold trapsW trapL
 rw [part_len]
 constructor
 ·intro hl
  obtain ⟨i, hi, rfl⟩ := List.mem_map.1 hl
  obtain ⟨h1, h2⟩ := List.mem_filter.1 hi
  unfold trapT at h2
  rw [Bool.and_eq_true, beq_iff_eq, Bool.not_eq_true', part_nat] at h2
  exact ⟨i, List.mem_range.1 h1, h2.1, h2.2, rfl⟩
 ·rintro ⟨i, h1, h2, h3, rfl⟩
  refine List.mem_map.2 ⟨i, List.mem_filter.2 ⟨List.mem_range.2 h1, ?_⟩, rfl⟩
  unfold trapT
  rw [Bool.and_eq_true, beq_iff_eq, Bool.not_eq_true', part_nat]
  exact ⟨h2, h3⟩
theorem trap_mem (h : chkB p = true) (hj : p.procs[j]? = some f) {i : Nat} (hi : i < cntL f.body + 2) (hp : partI p j f i = i) (b : Int) :
  b ∈ trapR (placeI p j (cntL f.body + 2 : Nat)) (partW (newWay p j f) f) i (cntL f.body + 2) ↔ plP p j f b ∧ sccP (wR p j f) (placeI p j (cntL f.body + 2 : Nat) i) b := by
 obtain ⟨h1, h2⟩ := ix_place (p := p) (j := j) (f := f) (i := i) (by omega)
 rw [trapR_mem]
 constructor
 ·rintro ⟨k, h3, h4, rfl⟩
  obtain ⟨h5, h6⟩ := ix_place (p := p) (j := j) (f := f) (i := k) (by omega)
  refine ⟨h5, (part_pl h hj h1 h5).1 ?_⟩
  rw [h2, h6, hp, ← part_nat, h4]
 ·rintro ⟨h3, h4⟩
  have h5 := ix_rng h3
  refine ⟨(ixI p j f b).toNat, by omega, ?_, ?_⟩
  ·rw [part_nat, show (((ixI p j f b).toNat : Nat) : Int) = ixI p j f b by omega, ← (part_pl h hj h1 h3).2 h4, h2, hp]
  ·rw [show (((ixI p j f b).toNat : Nat) : Int) = ixI p j f b by omega, place_ix h3]
theorem trap_spec (h : chkB p = true) (hj : p.procs[j]? = some f) {l : List Int} (hl : l ∈ trapsW (newWay p j f) f) : ∃ r, TrapP p j f l r := by
 obtain ⟨i, hi, hp, ho, rfl⟩ := traps_mem.1 hl
 obtain ⟨h1, h2⟩ := ix_place (p := p) (j := j) (f := f) (i := i) (by omega)
 have ho2 : ¬ _ := fun hx => by
  have := (open_pl h hj hi).2 hx
  rw [ho] at this
  cases this
 have hpr : partI p j f (ixI p j f (placeI p j (cntL f.body + 2 : Nat) i)) = i := by rw [h2, hp]
 refine ⟨_, h1, trap_mem h hj hi hp, fun b c hb hbc => ?_, fun hs => ho2 (.inl ?_), fun hs => ho2 (.inr (.inl ?_))⟩
 ·have h3 := R_pl h hj hbc
  by_cases hsc : sccP (wR p j f) b c
  ·exact hb.trans hsc
  ·refine absurd (.inr (.inr ⟨b, c, hbc, hsc, ?_⟩)) ho2
   rw [← (part_pl h hj h1 h3.1).2 hb, hpr]
 ·rw [← (part_pl h hj h1 pl0).2 hs, hpr]
 ·rw [← (part_pl h hj h1 pl1).2 hs, hpr]
end
open Go.Proofs
theorem real_len {p : Pg} {j : Nat} {f : Pr} (hj : p.procs[j]? = some f) (hcn : cntP p.procs ≤ 200) : (newWay p j f).real.length ≤ 100000 := by
 obtain ⟨_, _, _, hlen, hsp⟩ := sheet_spec p
 obtain ⟨_, _, hle, _⟩ := hsp j f hj
 have h9 := normS_len (stepsRaw p j f)
 have h10 := stepsRaw_len p j f
 show (normS (stepsRaw p j f)).length ≤ 100000
 omega
theorem nextR_ok {p : Pg} (h : chkB p = true) {j : Nat} {f : Pr} (hj : p.procs[j]? = some f) : ∀ it ∈ itsOf p j f, ∀ s ∈ fOf it, okSt s := fun it hi s hs => by
 obtain ⟨hm, _⟩ := chk_parts h
 obtain ⟨_, _, hcn⟩ := chk_cnt h
 obtain ⟨_, _, _, hlen, hsp⟩ := sheet_spec p
 obtain ⟨_, _, hle, _⟩ := hsp j f hj
 have h1 := body_id hm hj (its_s hi)
 have h2 := (its_rng hi).1
 unfold fOf at hs
 split at hs
 ·rw [List.mem_singleton.1 hs]
  unfold okI at h2
  unfold okSt
  constructor
  ·show it.s.id ≠ _
   omega
  ·show it.next ≠ _
   omega
 ·cases hs
theorem trap_row {p : Pg} (h : chkB p = true) {j : Nat} {f : Pr} (hj : p.procs[j]? = some f) {l : List Int} (hl : l ∈ trapsW (newWay p j f) f) : l.length ≤ cntL f.body + 2 ∧ ∀ id ∈ l, (offN p.procs j : Int) + 1 ≤ id ∧ id ≤ (offN p.procs j + cntL f.body : Nat) := by
 constructor
 ·obtain ⟨i, _, _, _, rfl⟩ := traps_mem.1 hl
  exact trapR_len _ _ _ _
 ·intro id hid
  obtain ⟨r, ht⟩ := trap_spec h hj hl
  obtain ⟨h1, h2⟩ := (ht.mem id).1 hid
  rcases h1 with rfl | rfl | h1
  ·exact absurd h2 ht.n0
  ·exact absurd h2 ht.nx
  ·exact h1
theorem wayT {p : Pg} (h : chkB p = true) {j : Nat} {f : Pr} (hj : p.procs[j]? = some f) : WayT (newWay p j f) f (cntL f.body + 2) := by
 obtain ⟨_, _, hcn⟩ := chk_cnt h
 obtain ⟨_, _, _, hlen, hsp⟩ := sheet_spec p
 obtain ⟨_, _, hle, _⟩ := hsp j f hj
 refine ⟨rfl, hj, by show cntP p.procs ≤ 1000; omega, by omega, by omega, Nat.le_trans (real_len hj hcn) (by decide), prs_in h hj, ?_, fun l hl => ?_, fun s hs => (chk_way h hj).2.2 s (((real_spec h hj).2 s).1 hs), nextR_ok h hj⟩
 ·have := trapL_len (placeI p j (cntL f.body + 2 : Nat)) (partW (newWay p j f) f) (openB (cntL f.body + 2) (partW (newWay p j f) f) (prsW (newWay p j f) f)) (cntL f.body + 2)
  have e : trapsW (newWay p j f) f = trapL (placeI p j (cntL f.body + 2 : Nat)) (partW (newWay p j f) f) (openB (cntL f.body + 2) (partW (newWay p j f) f) (prsW (newWay p j f) f)) (cntL f.body + 2) := by
   unfold trapsW
   rw [part_len]
   rfl
  rw [e]
  omega
 ·obtain ⟨h1, h2⟩ := trap_row h hj hl
  refine ⟨by omega, fun id hid => ?_⟩
  have := h2 id hid
  show 1 ≤ id ∧ id ≤ (sheetOf p).l.length
  omega
def augO (p : Pg) (n : Str) : List Step := match wayO p n with
 | some w => (match w.p.procs[w.j]? with
   | some f => augW w f
   | none => [])
 | none => []
def dataO (p : Pg) (n : Str) : List Step := match wayO p n with
 | some w => (match w.p.procs[w.j]? with
   | some f => dataW w f
   | none => [])
 | none => []
def trapsO (p : Pg) (n : Str) : List (List Int) := match wayO p n with
 | some w => (match w.p.procs[w.j]? with
   | some f => trapsW w f
   | none => [])
 | none => []
theorem augO_some {p : Pg} {n : Str} {k : Nat} {f : Pr} (hw : wayO p n = some (newWay p k f)) (hk : p.procs[k]? = some f) : augO p n = augW (newWay p k f) f := by
 have h : (newWay p k f).p.procs[(newWay p k f).j]? = some f := hk
 unfold augO
 rw [hw]
 simp only
 rw [h]
theorem dataO_some {p : Pg} {n : Str} {k : Nat} {f : Pr} (hw : wayO p n = some (newWay p k f)) (hk : p.procs[k]? = some f) : dataO p n = dataW (newWay p k f) f := by
 have h : (newWay p k f).p.procs[(newWay p k f).j]? = some f := hk
 unfold dataO
 rw [hw]
 simp only
 rw [h]
theorem trapsO_some {p : Pg} {n : Str} {k : Nat} {f : Pr} (hw : wayO p n = some (newWay p k f)) (hk : p.procs[k]? = some f) : trapsO p n = trapsW (newWay p k f) f := by
 have h : (newWay p k f).p.procs[(newWay p k f).j]? = some f := hk
 unfold trapsO
 rw [hw]
 simp only
 rw [h]
open Go.Proofs
instance (a b : Step) : Decidable (ltSt a b) := inferInstanceAs (Decidable (_ ∨ _))
instance : DecidableEq Step := fun a b => decidable_of_iff (a.src = b.src ∧ a.dst = b.dst ∧ a.kind = b.kind) ⟨fun h => Step.eq_of h.1 h.2.1 h.2.2, fun h => by rw [h]; exact ⟨rfl, rfl, rfl⟩⟩
theorem same_of {a b : Step} (ha : okSt a) (hb : okSt b) (h : stepLt b a = false) : (a.src = b.src ∧ a.dst = b.dst ∧ a.kind ≤ b.kind) ∨ ltSt a b := by
 rw [Bool.eq_false_iff, ne_eq, stepLt_iff] at h
 unfold ltSt
 by_cases h1 : rankI a.src = rankI b.src
 ·by_cases h2 : rankI a.dst = rankI b.dst
  ·exact .inl ⟨rankI_inj ha.1 hb.1 h1, rankI_inj ha.2 hb.2 h2, by omega⟩
  ·exact .inr (by omega)
 ·exact .inr (by omega)
theorem compFrom_gen : ∀ (l : List Step) (a : Step), okSt a → (∀ s ∈ l, okSt s) → (a :: l).Pairwise (fun a b => stepLt b a = false) →
  (∀ s ∈ compFrom a l, ltSt a s) ∧ (compFrom a l).Pairwise ltSt ∧ (∀ s ∈ compFrom a l, s ∈ l) ∧ ∀ s ∈ l, (s.src = a.src ∧ s.dst = a.dst ∧ a.kind ≤ s.kind) ∨ ∃ s' ∈ compFrom a l, s'.src = s.src ∧ s'.dst = s.dst ∧ s'.kind ≤ s.kind
 | [], a, _, _, _ => by simp [compFrom]
 | b :: r, a, ha, hl, h => by
   have hb := hl b List.mem_cons_self
   have hr : ∀ s ∈ r, okSt s := fun s hs => hl s (List.mem_cons_of_mem _ hs)
   rw [List.pairwise_cons] at h
   obtain ⟨h1, h2⟩ := h
   obtain ⟨i1, i2, i3, i4⟩ := compFrom_gen r b hb hr h2
   have hab := same_of ha hb (h1 b List.mem_cons_self)
   rw [compFrom]
   cases hs : sameStep b a with
   | true =>
     unfold sameStep at hs
     simp only [Bool.and_eq_true, decide_eq_true_eq] at hs
     have hk : a.kind ≤ b.kind := by
      rcases hab with h3 | h3
      ·exact h3.2.2
      ·unfold ltSt at h3
       rw [hs.1, hs.2] at h3
       omega
     rw [cond_true]
     refine ⟨fun s hs' => ?_, i2, fun s hs' => List.mem_cons_of_mem _ (i3 s hs'), fun s hs' => ?_⟩
     ·have := i1 s hs'
      unfold ltSt at this ⊢
      rwa [← hs.1, ← hs.2]
     ·rcases List.mem_cons.1 hs' with rfl | hs'
      ·exact .inl ⟨hs.1, hs.2, hk⟩
      ·rcases i4 s hs' with ⟨h3, h4, h5⟩ | h3
       ·exact .inl ⟨by rw [h3, hs.1], by rw [h4, hs.2], by omega⟩
       ·exact .inr h3
   | false =>
     have hlt : ltSt a b := by
      rcases hab with h3 | h3
      ·unfold sameStep at hs
       simp [h3.1, h3.2.1] at hs
      ·exact h3
     rw [cond_false]
     refine ⟨fun s hs' => ?_, List.pairwise_cons.2 ⟨i1, i2⟩, fun s hs' => ?_, fun s hs' => ?_⟩
     ·rcases List.mem_cons.1 hs' with rfl | hs'
      ·exact hlt
      ·exact ltSt_trans hlt (i1 s hs')
     ·rcases List.mem_cons.1 hs' with rfl | hs'
      ·exact List.mem_cons_self
      ·exact List.mem_cons_of_mem _ (i3 s hs')
     ·rcases List.mem_cons.1 hs' with rfl | hs'
      ·exact .inr ⟨s, List.mem_cons_self, rfl, rfl, Int.le_refl _⟩
      ·rcases i4 s hs' with ⟨h3, h4, h5⟩ | ⟨s', h3, h4⟩
       ·exact .inr ⟨b, List.mem_cons_self, h3.symm, h4.symm, h5⟩
       ·exact .inr ⟨s', List.mem_cons_of_mem _ h3, h4⟩
theorem normS_gen {l : List Step} (hok : ∀ s ∈ l, okSt s) : (normS l).Pairwise ltSt ∧ (∀ s ∈ normS l, s ∈ l) ∧ ∀ s ∈ l, ∃ s' ∈ normS l, s'.src = s.src ∧ s'.dst = s.dst ∧ s'.kind ≤ s.kind := by
 have hp : ∀ s, s ∈ sortSt l ↔ s ∈ l := fun s => (sortSt_perm l).mem_iff
 have hs := sortSt_sorted l
 unfold normS
 cases hq : sortSt l with
 | nil =>
   rw [hq] at hp
   refine ⟨by simp [compF], by simp [compF], fun s hs => ?_⟩
   have := (hp s).2 hs
   cases this
 | cons a r =>
   rw [hq] at hp hs
   have hok' : ∀ s ∈ a :: r, okSt s := fun s h => hok s ((hp s).1 h)
   obtain ⟨h1, h2, h3, h4⟩ := compFrom_gen r a (hok' a List.mem_cons_self) (fun s h => hok' s (List.mem_cons_of_mem _ h)) hs
   rw [compF]
   refine ⟨List.pairwise_cons.2 ⟨h1, h2⟩, fun s hs' => ?_, fun s hs' => ?_⟩
   ·rcases List.mem_cons.1 hs' with rfl | hs'
    ·exact (hp s).1 List.mem_cons_self
    ·exact (hp s).1 (List.mem_cons_of_mem _ (h3 s hs'))
   ·rcases List.mem_cons.1 ((hp s).2 hs') with rfl | hs'
    ·exact ⟨s, List.mem_cons_self, rfl, rfl, Int.le_refl _⟩
    ·rcases h4 s hs' with ⟨h5, h6, h7⟩ | ⟨s', h5, h6⟩
     ·exact ⟨a, List.mem_cons_self, h5.symm, h6.symm, h7⟩
     ·exact ⟨s', List.mem_cons_of_mem _ h5, h6⟩
theorem lt_uniq {l : List Step} (h : l.Pairwise ltSt) {a b : Step} (ha : a ∈ l) (hb : b ∈ l) (h1 : a.src = b.src) (h2 : a.dst = b.dst) : a = b := by
 have hn : ∀ {x y : Step}, x.src = y.src → x.dst = y.dst → ¬ ltSt x y := fun {x y} e1 e2 hlt => by
  unfold ltSt at hlt
  rw [e1, e2] at hlt
  omega
 induction h with
 | nil => cases ha
 | @cons c r hc hr ih =>
   rcases List.mem_cons.1 ha with e1 | ha'
   ·rcases List.mem_cons.1 hb with e2 | hb'
    ·rw [e1, e2]
    ·exact absurd (hc b hb') (by rw [← e1]; exact hn h1 h2)
   ·rcases List.mem_cons.1 hb with e2 | hb'
    ·exact absurd (hc a ha') (by rw [← e2]; exact hn h1.symm h2.symm)
    ·exact ih ha' hb'
theorem normS_eq {l m : List Step} (hok : ∀ s ∈ l, okSt s) (h1 : m.Pairwise ltSt) (h2 : ∀ s ∈ m, s ∈ l) (h3 : ∀ s ∈ l, ∃ s' ∈ m, s'.src = s.src ∧ s'.dst = s.dst ∧ s'.kind ≤ s.kind) : normS l = m := by
 obtain ⟨g1, g2, g3⟩ := normS_gen hok
 refine sorted_ext g1 h1 fun s => ⟨fun hs => ?_, fun hs => ?_⟩
 ·obtain ⟨a, ha, h4, h5, h6⟩ := h3 s (g2 s hs)
  obtain ⟨b, hb, h7, h8, h9⟩ := g3 a (h2 a ha)
  have := lt_uniq g1 hb hs (h7.trans h4) (h8.trans h5)
  subst this
  have : a = b := Step.eq_of h4 h5 (by omega)
  rw [← this]
  exact ha
 ·obtain ⟨a, ha, h4, h5, h6⟩ := g3 s (h2 s hs)
  obtain ⟨b, hb, h7, h8, h9⟩ := h3 a (g2 a ha)
  have := lt_uniq h1 hb hs (h7.trans h4) (h8.trans h5)
  subst this
  have : a = b := Step.eq_of h4 h5 (by omega)
  rw [← this]
  exact ha
open Go.Proofs
theorem real1 : (newWay someP 1 f1).real = [⟨0, 5, 1⟩, ⟨5, 6, 1⟩, ⟨6, 7, 1⟩, ⟨6, 8, 1⟩, ⟨7, -1, 1⟩, ⟨8, -1, 1⟩] := norm1
theorem real0 : (newWay someP 0 f0).real = [⟨0, 1, 1⟩, ⟨1, 2, 1⟩, ⟨2, 3, 1⟩, ⟨3, 4, 1⟩, ⟨4, -1, 1⟩] := norm0
theorem prs1 : prsW (newWay someP 1 f1) f1 = [(0, 1), (1, 2), (2, 3), (2, 4), (3, 5), (4, 5)] := by
 unfold prsW
 rw [real1]
 kernel_rfl
theorem prs0 : prsW (newWay someP 0 f0) f0 = [(0, 1), (1, 2), (2, 3), (3, 4), (4, 5)] := by
 unfold prsW
 rw [real0]
 kernel_rfl
theorem traps1 : trapsW (newWay someP 1 f1) f1 = [] := by
 unfold trapsW partW
 rw [prs1]
 kernel_rfl
theorem traps0 : trapsW (newWay someP 0 f0) f0 = [] := by
 unfold trapsW partW
 rw [prs0]
 kernel_rfl
theorem aug1 : augW (newWay someP 1 f1) f1 = [⟨0, 5, 1⟩, ⟨0, -1, 2⟩, ⟨5, 6, 1⟩, ⟨6, 7, 1⟩, ⟨6, 8, 1⟩, ⟨7, 8, 2⟩, ⟨7, -1, 1⟩, ⟨8, -1, 1⟩] := by
 have h1 : augRaw (newWay someP 1 f1) f1 = [⟨0, 5, 1⟩, ⟨5, 6, 1⟩, ⟨6, 7, 1⟩, ⟨6, 8, 1⟩, ⟨7, -1, 1⟩, ⟨8, -1, 1⟩, ⟨0, -1, 2⟩, ⟨7, 8, 2⟩, ⟨8, -1, 2⟩] := by
  unfold augRaw virtW
  rw [traps1, real1]
  kernel_rfl
 unfold augW
 rw [h1]
 exact normS_eq (by unfold okSt; decide) (by decide) (by decide) (by decide)
theorem aug0 : augW (newWay someP 0 f0) f0 = [⟨0, 1, 1⟩, ⟨0, -1, 2⟩, ⟨1, 2, 1⟩, ⟨2, 3, 1⟩, ⟨3, 4, 1⟩, ⟨4, -1, 1⟩] := by
 have h1 : augRaw (newWay someP 0 f0) f0 = [⟨0, 1, 1⟩, ⟨1, 2, 1⟩, ⟨2, 3, 1⟩, ⟨3, 4, 1⟩, ⟨4, -1, 1⟩, ⟨0, -1, 2⟩] := by
  unfold augRaw virtW
  rw [traps0, real0]
  kernel_rfl
 unfold augW
 rw [h1]
 exact normS_eq (by unfold okSt; decide) (by decide) (by decide) (by decide)
theorem some_way0 : wayO someP [109, 97, 105, 110] = some (newWay someP 0 f0) := by
 unfold wayO
 rw [some_chk]
 rfl
open Go.Proofs
theorem no_entry {p : Pg} (h : chkB p = true) {j : Nat} {f : Pr} (hj : p.procs[j]? = some f) {a : Int} : ¬ wR p j f a 0 := fun ⟨s, hs, _, hd⟩ => by
 have h1 := ((chk_way h hj).2.1 s (((real_spec h hj).2 s).1 hs)).2
 unfold okI at h1
 omega
theorem entry_go {p : Pg} (h : chkB p = true) {j : Nat} {f : Pr} (hj : p.procs[j]? = some f) : wR p j f 0 (fstI p j f) := ⟨⟨0, fstI p j f, 1⟩, ((real_spec h hj).2 _).2 (by unfold stepsRaw fstI; exact List.mem_cons_self), rfl, rfl⟩
theorem trap_goto {p : Pg} (h : chkB p = true) {j : Nat} {f : Pr} (hj : p.procs[j]? = some f) {r : Int} (hr : plP p j f r) (hcl : ∀ b c, sccP (wR p j f) r b → wR p j f b c → sccP (wR p j f) r c) (h0 : ¬ sccP (wR p j f) r 0) (hx : ¬ sccP (wR p j f) r (-1)) : ∃ t ∈ flL f.body, sccP (wR p j f) r t.id ∧ t.kind = 10 := by
 refine Classical.byContradiction fun hno => hx ?_
 have hrr : (offN p.procs j : Int) + 1 ≤ r ∧ r ≤ (offN p.procs j + cntL f.body : Nat) := by
  rcases hr with rfl | rfl | h1
  ·exact absurd (sccP.refl 0) h0
  ·exact absurd (sccP.refl (-1)) hx
  ·exact h1
 obtain ⟨t, ht, _, hti⟩ := stAt_own h hj hrr.1 hrr.2
 exact proc_exit h hj (T := fun y => sccP (wR p j f) r y) (fun a b ha hab => hcl a b ha hab) (fun u hu hs hk => hno ⟨u, hu, hs, hk⟩) ht (by rw [hti]; exact sccP.refl r)
theorem stAt_id {p : Pg} (h : chkB p = true) {j : Nat} {f : Pr} (hj : p.procs[j]? = some f) {t : S} (ht : t ∈ flL f.body) : stAt p t.id = some t := by
 have hb := body_id (chk_parts h).1 hj ht
 obtain ⟨u, hu, h1, h2⟩ := stAt_own h hj hb.1 hb.2
 obtain ⟨it, hi, rfl⟩ := it_of (p := p) (j := j) ht
 obtain ⟨iu, hiu, rfl⟩ := it_of (p := p) (j := j) hu
 rw [it_inj (chk_parts h).1 hj hiu hi h2] at h1
 exact h1
theorem virt_mem {p : Pg} (h : chkB p = true) {j : Nat} {f : Pr} (hj : p.procs[j]? = some f) {s : Step} : s ∈ virtW (newWay p j f) f ↔ ∃ l ∈ trapsW (newWay p j f) f, ∃ t ∈ flL f.body, t.id ∈ l ∧ t.kind = 10 ∧ s = ⟨t.id, -1, 3⟩ := by
 unfold virtW
 constructor
 ·intro hs
  obtain ⟨l, hl, hs⟩ := List.mem_flatMap.1 hs
  obtain ⟨id, hid, hs⟩ := List.mem_flatMap.1 hs
  have hb := (trap_row h hj hl).2 id hid
  obtain ⟨t, ht, h1, h2⟩ := stAt_own h hj hb.1 hb.2
  have e : (newWay p j f).p = p := rfl
  unfold vOf at hs
  rw [e, h1] at hs
  simp only at hs
  split at hs
  ·rename_i hk
   exact ⟨l, hl, t, ht, by rw [h2]; exact hid, hk, by rw [h2]; simpa using hs⟩
  ·cases hs
 ·rintro ⟨l, hl, t, ht, hid, hk, rfl⟩
  refine List.mem_flatMap.2 ⟨l, hl, List.mem_flatMap.2 ⟨t.id, hid, ?_⟩⟩
  have e : (newWay p j f).p = p := rfl
  unfold vOf
  rw [e, stAt_id h hj ht]
  simp [hk]
theorem data_ok {p : Pg} (h : chkB p = true) {j : Nat} {f : Pr} (hj : p.procs[j]? = some f) : ∀ s ∈ virtW (newWay p j f) f ++ (newWay p j f).real, okSt s := fun s hs =>
 (List.mem_append.1 hs).elim ((wayT h hj).virt_ok s) ((wayT h hj).hok s)
open Go.Proofs
theorem flat_pl {p : Pg} (h : chkB p = true) {j : Nat} {f : Pr} (hj : p.procs[j]? = some f) {x : RI} (hx : x ∈ flatR f) : x.s ∈ flL f.body := by
 rw [flatR_eq (chk_parts h).1 (List.mem_of_getElem? hj)] at hx
 rw [← show (flatU f).map RI.s = flL f.body from fuL_s 1 0 false f.body]
 exact List.mem_map.2 ⟨x, hx, rfl⟩
open Go.Proofs
def RI0 : RI := ⟨.mk 0 0 [] [] [] (.mk 0 0 [] []) false [] [] [], 0, 0, false⟩
def findF (id : Int) (f : Pr) : Option (RI × Str) := ((flatR f).find? fun x => decide (x.s.id = id)).map fun x => (x, f.name)
def findR (p : Pg) (id : Int) : Option (RI × Str) := p.procs.findSome? (findF id)
def findO (p : Pg) (id : Int) : RI × Str × Bool := match findR p id with
 | some (x, n) => (x, n, true)
 | none => (RI0, [], false)
theorem sub_RI0 : Sub (.agg [.int .i64 0, .int .i64 0, .nils, .str [], .str [], .int .i64 0, .int .i64 0, .str [], .nils, .ff, .nils, .nils, .nils, .int .i64 0, .int .i64 0, .ff]) (.agg RI0.cells) :=
 Sub.agg (by repeat' (first | exact SubL.nil | refine SubL.cons ?_ ?_ | exact Sub.nils | exact Sub.ff rfl | exact Sub.refl _))
theorem drop_find {l : List RI} {q : RI → Bool} {k : Nat} (hk : k < l.length) : (l.drop k).find? q = if q l[k] then some l[k] else (l.drop (k + 1)).find? q := by
 rw [drop_cons hk, List.find?_cons]
 cases q l[k] <;> rfl
theorem whittlerref6_Find (p : Pg) (id : Int) : SpecP Tryz.prog 84 [.agg p.cells, .int .i64 id] (fun r => r = .tup [.agg (findO p id).1.cells, .str (findO p id).2.1, .bool (findO p id).2.2]) := by
 refine SpecP.body I_whittlerref6_Find tabOK Tryz.func84 rfl Tryz.call84 (by show 2 ≤ _; decide) ?_
 conv => whnf
 have hpl : (p.procs.map fun f => AV.agg f.cells).length = p.procs.length := List.length_map _
 repeat' (intro (_ : _ ≤ 9223372036854775807); conv => whnf)
 refine LoopK.inv tabOK (fun j : Nat => ⟨[(1, .p (.int .i64 id)), (4, .ptr 1 0), (12, .p (.sl (p.procs.map fun f => .agg f.cells))), (13, .p (.int .i64 (p.procs.map fun f => AV.agg f.cells).length)), (14, .p (.int .i64 j))], [(1, .obj 103 [.p (.int .i64 0), .p (.int .i64 0), .p .nils, .p (.str []), .p (.str []), .p (.int .i64 0), .p (.int .i64 0), .p (.str []), .p .nils, .p .ff, .p .nils, .p .nils, .p .nils, .p (.int .i64 0), .p (.int .i64 0), .p .ff])]⟩) (fun j => j ≤ p.procs.length ∧ (p.procs.drop j).findSome? (findF id) = findR p id) (fun j => p.procs.length - j) 0 (Le.of_eq rfl) ⟨Nat.zero_le _, rfl⟩ ?_
 rintro j ⟨h2, h3⟩
 rcases Nat.lt_or_ge j p.procs.length with hj | hj
 rotate_left 1
 ·rw [List.drop_eq_nil_of_le hj, List.findSome?_nil] at h3
  have hO : findO p id = (RI0, [], false) := by unfold findO; rw [← h3]
  rw [hO]
  conv => whnf
  repeat' (first | (refine And.intro rfl ?_; conv => whnf) | (refine Br.dec (fun _ => ?_) (fun _ => ?_) <;> first | (exfalso; omega) | conv => whnf))
  exact ⟨_, .p (Sub.tup (SubL.cons sub_RI0 (SubL.cons (Sub.refl _) (SubL.cons (Sub.ff rfl) SubL.nil)))), rfl⟩
 rw [drop_cons hj, List.findSome?_cons] at h3
 conv => whnf
 repeat' (first | ((first | (intro (_ : _ ≤ 9223372036854775807)) | (refine And.intro rfl ?_) | (refine IdxK.map (by omega) (fun _ => rfl) ?_) | (refine CallK.pure (whittlerref3_Flat _) (.cons (Sub.refl _) .nil) ?_; rintro _ rfl)); conv => whnf) | (refine Br.dec (fun _ => ?_) (fun _ => ?_) <;> first | (exfalso; omega) | conv => whnf))
 have hrl : ((flatR p.procs[j]).map fun i => AV.agg i.cells).length = (flatR p.procs[j]).length := List.length_map _
 have hff : findF id p.procs[j] = ((flatR p.procs[j]).find? fun x => decide (x.s.id = id)).map fun x => (x, p.procs[j].name) := rfl
 rw [hff] at h3
 have hfl := flatR_len p.procs[j]
 generalize flatR p.procs[j] = F at hrl hfl h3 ⊢
 refine LoopK.inv tabOK (fun k : Nat => ⟨[(1, .p (.int .i64 id)), (4, .ptr 1 0), (8, .p (.ip p.procs[j].cells)), (12, .p (.sl (p.procs.map fun f => .agg f.cells))), (13, .p (.int .i64 (p.procs.map fun f => AV.agg f.cells).length)), (14, .p (.int .i64 j)), (19, .p (eRIs F)), (20, .p (.int .i64 (F.map fun i => AV.agg i.cells).length)), (21, .p (.int .i64 k))], [(1, .obj 103 [.p (.int .i64 0), .p (.int .i64 0), .p .nils, .p (.str []), .p (.str []), .p (.int .i64 0), .p (.int .i64 0), .p (.str []), .p .nils, .p .ff, .p .nils, .p .nils, .p .nils, .p (.int .i64 0), .p (.int .i64 0), .p .ff])]⟩) (fun k => k ≤ F.length ∧ (F.drop k).find? (fun x => decide (x.s.id = id)) = F.find? fun x => decide (x.s.id = id)) (fun k => F.length - k) 0 (Le.of_eq rfl) ⟨Nat.zero_le _, rfl⟩ ?_
 rintro k ⟨h4, h5⟩
 rcases Nat.lt_or_ge k F.length with hk | hk
 rotate_left 1
 ·rw [List.drop_eq_nil_of_le hk, List.find?_nil] at h5
  rw [← h5] at h3
  conv => whnf
  repeat' (first | (refine Wr.i64 (by omega) (by omega) ?_; conv => whnf) | (refine Br.dec (fun _ => ?_) (fun _ => ?_) <;> first | (exfalso; omega) | conv => whnf))
  exact ⟨j + 1, ⟨hj, h3⟩, by omega, Le.of_eq rfl⟩
 rw [drop_find hk] at h5
 conv => whnf
 repeat' (first | ((first | (refine DrawK.auto tabOK mixed (by kernel_rfl) ?_) | (refine And.intro rfl ?_) | (refine IdxK.map (by omega) (fun _ => rfl) ?_) | (refine Wr.i64 (by omega) (by omega) ?_)); conv => whnf) | (refine Br.dec (fun _ => ?_) (fun _ => ?_) <;> first | (exfalso; omega) | conv => whnf))
 ·have hid : F[k].s.id = id := by assumption
  rw [if_pos (decide_eq_true hid)] at h5
  rw [← h5] at h3
  have hO : findO p id = (F[k], p.procs[j].name, true) := by unfold findO; rw [← h3]; rfl
  rw [hO]
  exact ⟨_, .p (Sub.tup (SubL.cons (Sub.refl _) (SubL.cons (Sub.refl _) (SubL.cons (Sub.tt rfl) SubL.nil)))), rfl⟩
 ·have hid : ¬ F[k].s.id = id := by assumption
  rw [if_neg (by simpa using hid)] at h5
  exact ⟨k + 1, ⟨hk, h5⟩, by omega, Le.of_eq rfl⟩
def stmtR (p : Pg) (id : Int) : S := (findO p id).1.s
theorem whittlerref6_Stmt (p : Pg) (id : Int) : SpecP Tryz.prog 50 [.agg p.cells, .int .i64 id] (fun r => r = .agg (stmtR p id).cells) := by
 refine SpecP.body I_whittlerref6_Stmt tabOK Tryz.func50 rfl Tryz.call50 (by show 2 ≤ _; decide) ?_
 conv => whnf
 repeat' ((first | (refine CallK.pure (whittlerref6_Find _ _) (by repeat' (first | exact ArgP.nil | refine ArgP.cons ?_ ?_ | exact Sub.refl _ | exact Sub.tt rfl | exact Sub.ff rfl)) ?_; rintro _ rfl) | (refine And.intro rfl ?_)); conv => whnf)
 exact RetK.p rfl
end Go.Ab
