/- slices.SortStableFunc of numbers by a key: two sorted parts merged. -/
import Derived.Test.YtneccajakpeodaaGreatCdpW9
import Derived.Test.YtneccajakpeodaaGreatCdpW16
import Derived.Test.YtneccajakpeodaaGreatCdpW17
import Derived.Test.YtneccajakpeodaaGreatCdpW18
set_option linter.unusedSimpArgs false
set_option linter.unusedVariables false
set_option maxRecDepth 100000
set_option maxHeartbeats 16000000
namespace Go.Ab
open Go.Proofs
structure CmpF (g : Nat) (c : AV) (K : Int → Int) (L : Int → Prop) : Prop where
 cmp : ∀ x y, L x → L y → SpecP Tryz.prog g [.int .i64 x, .int .i64 y, c] (fun r => r = .int .i64 (K y - K x))
 bnd : ∀ x, 0 ≤ K x ∧ K x ≤ 1000000
theorem row_at {l : List Int} {i : Nat} (h : i < l.length) : (l.map (AV.int .i64))[i]? = some (.int .i64 (getz l i)) := row_get (getz_some h)
theorem symMerge_spec {g : Nat} {c : AV} {K : Int → Int} {L : Int → Prop} (hC : CmpF g c K L) : ∀ (fuel : Nat) (row : List Int) (a m b N : Nat), b - a ≤ fuel → a < m → m < b → b ≤ row.length → N = row.length → row.length ≤ 1000000 → (∀ x ∈ row, L x) → srt K row a m → srt K row m b →
  SpecH Tryz.prog 290 [.hd 1000 0 N, .p (.int .i64 a), .p (.int .i64 m), .p (.int .i64 b), .p (.fn g [c])] (rowN row) (fun r H => r = .p (.tup []) ∧ ∃ row', H = rowN row' ∧ PermIn row row' a b ∧ srt K row' a b) := by
 intro fuel
 induction fuel with
 | zero => intro row a m b N h1 h2 h3; omega
 | succ fuel ih =>
   intro row a m b N hfu hab hmb hbl hN hl hL hA hB
   refine SpecH.body I_slices_symMergeCmpFunc_int_ tabOK Tryz.func290 rfl Tryz.call290 (by show 5 ≤ _; decide) ?_
   by_cases hm1 : m = a + 1
   ·conv => whnf
    repeat' (first | (refine Wr.i64 (by omega) (by omega) ?_; conv => whnf) | (refine Br.dec (fun _ => ?_) (fun _ => ?_) <;> first | (exfalso; omega) | conv => whnf))
    all_goals first
     | (exfalso; omega)
     | skip
    refine LoopK.inv tabOK (fun x : Nat × Nat => ⟨[(0, .hd 1000 0 N), (1, .p (.int .i64 a)), (4, .p (.fn g [c])), (10, .p (.int .i64 x.1)), (11, .p (.int .i64 x.2))], rowN row⟩)
     (fun x => (m ≤ x.1 ∧ x.1 ≤ x.2 ∧ x.2 ≤ b) ∧ (∀ k, m ≤ k → k < x.1 → K (getz row a) < K (getz row k)) ∧ ∀ k, x.2 ≤ k → k < b → K (getz row k) ≤ K (getz row a)) (fun x => x.2 - x.1) (m, b) (Le.of_eq rfl)
     ⟨⟨Nat.le_refl _, by simp only; omega, Nat.le_refl _⟩, fun k h1 h2 => by simp only at h2; omega, fun k h1 h2 => by simp only at h1; omega⟩ ?_
    rintro ⟨i, j⟩ ⟨⟨h1, h2, h3⟩, h4, h5⟩
    simp only at h1 h2 h3 h4 h5 ⊢
    rcases Nat.lt_or_ge i j with hij | hij
    ·have g1 := row_at (l := row) (i := (i + j) / 2) (by omega)
     have g2 := row_at (l := row) (i := a) (by omega)
     have hcm := hC.cmp (getz row ((i + j) / 2)) (getz row a) (hL _ (getz_mem (by omega))) (hL _ (getz_mem (by omega)))
     have hb1 := hC.bnd (getz row ((i + j) / 2))
     have hb2 := hC.bnd (getz row a)
     have hst := fun k (hk1 : m ≤ k) (hk2 : k ≤ (i + j) / 2) => hB.le (k := (i + j) / 2) hk1 hk2 (by omega)
     have hst2 := fun k (hk1 : (i + j) / 2 ≤ k) (hk2 : k < b) => hB.le (i := (i + j) / 2) (by omega) hk1 hk2
     generalize hh : (i + j) / 2 = h at g1 hcm hb1 hst hst2
     have hhe : (h : Int) = ((i : Int) + j) / 2 := by omega
     unfold rowN
     conv => whnf
     repeat' (first | ((first | (refine DrawK.auto tabOK mixed (by kernel_rfl) ?_) | (refine And.intro rfl ?_) | (refine Wr.i64 (by omega) (by omega) ?_) | (refine Wr.u64 (by omega) (by omega) ?_) | (refine ValO.half (m := (h : Int)) rfl (by omega) rfl rfl hhe ?_) | (refine IdxL.mk h (by omega) (by omega) ?_) | (refine IdxL.mk a (by omega) (by omega) ?_) | (refine LdOwn.mk h 0 _ (by omega) g1 ?_) | (refine LdOwn.mk a 0 _ (by omega) g2 ?_) | (refine CallK.pure hcm (.cons (Sub.refl _) (.cons (Sub.refl _) (.cons (Sub.refl _) .nil))) ?_; rintro _ rfl)); conv => whnf) | (refine Br.dec (fun _ => ?_) (fun _ => ?_) <;> first | (exfalso; omega) | conv => whnf))
     all_goals first
      | exact ⟨(h + 1, j), ⟨⟨by simp only; omega, by simp only; omega, h3⟩, fun k k1 k2 => by simp only at k2; (rcases Nat.lt_or_ge h k with hk | hk; · omega); have := hst k k1 hk; omega, h5⟩, by simp only; omega, Le.of_eq rfl⟩
      | exact ⟨(i, h), ⟨⟨h1, by simp only; omega, by simp only; omega⟩, h4, fun k k1 k2 => by simp only at k1; have := hst2 k k1 k2; omega⟩, by simp only; omega, Le.of_eq rfl⟩
      | skip
    ·have hje : j = i := by omega
     subst hje
     conv => whnf
     repeat' (refine Br.dec (fun _ => ?_) (fun _ => ?_) <;> first | (exfalso; omega) | conv => whnf)
     all_goals first
      | (exfalso; omega)
      | skip
     refine LoopK.inv tabOK (fun k : Nat => ⟨[(0, .hd 1000 0 N), (10, .p (.int .i64 j)), (13, .p (.int .i64 k))], rowN (mvR row a k)⟩) (fun k => a ≤ k ∧ k ≤ j - 1) (fun k => j - k) a (Le.of_eq (by rw [mvR_zero]; rfl)) ⟨Nat.le_refl _, by omega⟩ ?_
     rintro k ⟨k1, k2⟩
     simp only at k1 k2 ⊢
     have hml := mvR_len row a k
     rcases Nat.lt_or_ge k (j - 1) with hk | hk
     ·have hst := mvR_step (l := row) k1 (by omega)
      have g1 := row_at (l := mvR row a k) (i := k) (by omega)
      have g2 := row_at (l := mvR row a k) (i := k + 1) (by omega)
      generalize mvR row a k = rw' at hml hst g1 g2
      generalize getz rw' k = x at hst g1
      generalize getz rw' (k + 1) = y at hst g2
      have g3 : ((rw'.map (AV.int .i64)).set k (.int .i64 y))[k + 1]? = some (.int .i64 y) := by rw [List.getElem?_set_ne (by omega)]; exact g2
      unfold rowN
      conv => whnf
      repeat' (first | ((first | (refine DrawK.auto tabOK mixed (by kernel_rfl) ?_) | (refine And.intro rfl ?_) | (refine Wr.i64 (by omega) (by omega) ?_) | (refine IdxL.mk (k+1) (by omega) (by omega) ?_) | (refine IdxL.mk k (by omega) (by omega) ?_) | (refine LdOwn.mk (k+1) 0 _ (by omega) g2 ?_) | (refine LdOwn.mk k 0 _ (by omega) g1 ?_) | (refine StOwn.mk k 0 _ (.int .i64 y) (by omega) g1 (Nat.le_refl _) rfl ?_) | (refine StOwn.mk (k+1) 0 _ (.int .i64 x) (by omega) g3 (Nat.le_refl _) rfl ?_)); conv => whnf) | (refine Br.dec (fun _ => ?_) (fun _ => ?_) <;> first | (exfalso; omega) | conv => whnf))
      all_goals first
       | (exfalso; omega)
       | exact ⟨k + 1, by omega, by omega, Le.of_eq (by rw [← hst, List.map_set, List.map_set]; rfl)⟩
       | skip
     ·have hke : k = j - 1 := by omega
      subst hke
      unfold rowN
      conv => whnf
      repeat' (first | (refine Wr.i64 (by omega) (by omega) ?_; conv => whnf) | (refine Br.dec (fun _ => ?_) (fun _ => ?_) <;> first | (exfalso; omega) | conv => whnf))
      all_goals first
       | (exfalso; omega)
       | exact ⟨_, LSub.refl _, rfl, mvR row a (j - 1), rfl, (mvR_perm (by omega) (by omega)).wide (Nat.le_refl _) (by omega) hbl, ins_up (by omega) (by omega) hbl (by rw [← hm1]; exact hB) (fun k k1 k2 => h4 k (by omega) k2) h5⟩
       | skip
   by_cases hm2 : b = m + 1
   ·conv => whnf
    repeat' (first | (refine Wr.i64 (by omega) (by omega) ?_; conv => whnf) | (refine Br.dec (fun _ => ?_) (fun _ => ?_) <;> first | (exfalso; omega) | conv => whnf))
    all_goals first
     | (exfalso; omega)
     | skip
    refine LoopK.inv tabOK (fun x : Nat × Nat => ⟨[(0, .hd 1000 0 N), (2, .p (.int .i64 m)), (4, .p (.fn g [c])), (14, .p (.int .i64 x.1)), (15, .p (.int .i64 x.2))], rowN row⟩)
     (fun x => (a ≤ x.1 ∧ x.1 ≤ x.2 ∧ x.2 ≤ m) ∧ (∀ k, a ≤ k → k < x.1 → K (getz row m) ≤ K (getz row k)) ∧ ∀ k, x.2 ≤ k → k < m → K (getz row k) < K (getz row m)) (fun x => x.2 - x.1) (a, m) (Le.of_eq rfl)
     ⟨⟨Nat.le_refl _, by simp only; omega, Nat.le_refl _⟩, fun k h1 h2 => by simp only at h2; omega, fun k h1 h2 => by simp only at h1; omega⟩ ?_
    rintro ⟨i, j⟩ ⟨⟨h1, h2, h3⟩, h4, h5⟩
    simp only at h1 h2 h3 h4 h5 ⊢
    rcases Nat.lt_or_ge i j with hij | hij
    ·have g1 := row_at (l := row) (i := (i + j) / 2) (by omega)
     have g2 := row_at (l := row) (i := m) (by omega)
     have hcm := hC.cmp (getz row m) (getz row ((i + j) / 2)) (hL _ (getz_mem (by omega))) (hL _ (getz_mem (by omega)))
     have hb1 := hC.bnd (getz row ((i + j) / 2))
     have hb2 := hC.bnd (getz row m)
     have hst := fun k (hk1 : a ≤ k) (hk2 : k ≤ (i + j) / 2) => hA.le (k := (i + j) / 2) hk1 hk2 (by omega)
     have hst2 := fun k (hk1 : (i + j) / 2 ≤ k) (hk2 : k < m) => hA.le (i := (i + j) / 2) (by omega) hk1 hk2
     generalize hh : (i + j) / 2 = h at g1 hcm hb1 hst hst2
     have hhe : (h : Int) = ((i : Int) + j) / 2 := by omega
     unfold rowN
     conv => whnf
     repeat' (first | ((first | (refine DrawK.auto tabOK mixed (by kernel_rfl) ?_) | (refine And.intro rfl ?_) | (refine Wr.i64 (by omega) (by omega) ?_) | (refine Wr.u64 (by omega) (by omega) ?_) | (refine ValO.half (m := (h : Int)) rfl (by omega) rfl rfl hhe ?_) | (refine IdxL.mk h (by omega) (by omega) ?_) | (refine IdxL.mk m (by omega) (by omega) ?_) | (refine LdOwn.mk h 0 _ (by omega) g1 ?_) | (refine LdOwn.mk m 0 _ (by omega) g2 ?_) | (refine CallK.pure hcm (.cons (Sub.refl _) (.cons (Sub.refl _) (.cons (Sub.refl _) .nil))) ?_; rintro _ rfl)); conv => whnf) | (refine Br.dec (fun _ => ?_) (fun _ => ?_) <;> first | (exfalso; omega) | conv => whnf) | (refine Br.dec2 (fun _ => ?_) (fun _ => ?_) <;> first | (exfalso; omega) | conv => whnf))
     all_goals first
      | exact ⟨(h + 1, j), ⟨⟨by simp only; omega, by simp only; omega, h3⟩, fun k k1 k2 => by simp only at k2; (rcases Nat.lt_or_ge h k with hk | hk; · omega); have := hst k k1 hk; omega, h5⟩, by simp only; omega, Le.of_eq rfl⟩
      | exact ⟨(i, h), ⟨⟨h1, by simp only; omega, by simp only; omega⟩, h4, fun k k1 k2 => by simp only at k1; have := hst2 k k1 k2; omega⟩, by simp only; omega, Le.of_eq rfl⟩
      | skip
    ·have hje : j = i := by omega
     subst hje
     conv => whnf
     repeat' (refine Br.dec (fun _ => ?_) (fun _ => ?_) <;> first | (exfalso; omega) | conv => whnf)
     all_goals first
      | (exfalso; omega)
      | skip
     refine LoopK.inv tabOK (fun k : Nat => ⟨[(0, .hd 1000 0 N), (14, .p (.int .i64 j)), (17, .p (.int .i64 k))], rowN (mvL row m k)⟩) (fun k => j ≤ k ∧ k ≤ m) (fun k => k - j) m (Le.of_eq (by rw [mvL_zero]; rfl)) ⟨by omega, Nat.le_refl _⟩ ?_
     rintro k ⟨k1, k2⟩
     simp only at k1 k2 ⊢
     have hml := mvL_len row m k
     rcases Nat.lt_or_ge j k with hk | hk
     ·obtain ⟨q, rfl⟩ : ∃ q, k = q + 1 := ⟨k - 1, by omega⟩
      have hst := mvL_step (l := row) (k := q) k2 (by omega)
      have g1 := row_at (l := mvL row m (q + 1)) (i := q) (by omega)
      have g2 := row_at (l := mvL row m (q + 1)) (i := q + 1) (by omega)
      generalize mvL row m (q + 1) = rw' at hml hst g1 g2
      generalize getz rw' q = x at hst g1
      generalize getz rw' (q + 1) = y at hst g2
      have hst' : (rw'.set (q + 1) x).set q y = mvL row m q := by rw [← hst]; exact List.set_comm _ _ (by omega)
      have hq1 : ((q + 1 : Nat) : Int) - 1 = (q : Int) := by omega
      have g3 : ((rw'.map (AV.int .i64)).set (q + 1) (.int .i64 x))[q]? = some (.int .i64 x) := by rw [List.getElem?_set_ne (by omega)]; exact g1
      unfold rowN
      conv => whnf
      repeat' (first | ((first | (refine DrawK.auto tabOK mixed (by kernel_rfl) ?_) | (refine And.intro rfl ?_) | (refine Wr.i64 (by omega) (by omega) ?_) | (refine IdxL.mk (q+1) (by omega) (by omega) ?_) | (refine IdxL.mk q (by omega) (by omega) ?_) | (refine LdOwn.mk (q+1) 0 _ (by omega) g2 ?_) | (refine LdOwn.mk q 0 _ (by omega) g1 ?_) | (refine StOwn.mk (q+1) 0 _ (.int .i64 x) (by omega) g2 (Nat.le_refl _) rfl ?_) | (refine StOwn.mk q 0 _ (.int .i64 y) (by omega) g3 (Nat.le_refl _) rfl ?_)); conv => whnf) | (refine Br.dec (fun _ => ?_) (fun _ => ?_) <;> first | (exfalso; omega) | conv => whnf))
      all_goals first
       | (exfalso; omega)
       | exact ⟨q, by omega, by omega, Le.of_eq (by rw [← hst', List.map_set, List.map_set, hq1])⟩
       | skip
     ·have hke : k = j := by omega
      subst hke
      have hp := mvL_perm (l := row) (m := m) (by omega) (d := m - k) (by omega)
      rw [show m - (m - k) = k by omega] at hp
      unfold rowN
      conv => whnf
      repeat' (refine Br.dec (fun _ => ?_) (fun _ => ?_) <;> first | (exfalso; omega) | conv => whnf)
      all_goals first
       | (exfalso; omega)
       | exact ⟨_, LSub.refl _, rfl, mvL row m k, rfl, hp.wide (by omega) (by omega) hbl, by rw [hm2]; exact ins_down (by omega) (by omega) (by omega) hA h4 h5⟩
       | skip
   have hmid0 : ((a + b) / 2 : Nat) = ((a : Int) + b) / 2 := by omega
   have hlo1 : (a + b) / 2 < m → ((lo0 a m b : Nat) : Int) = ((a + b) / 2 : Nat) + (m : Int) - b := fun h => by unfold lo0; rw [if_pos h]; omega
   have hhi1 : (a + b) / 2 < m → hi0 a m b = (a + b) / 2 := fun h => by unfold hi0; rw [if_pos h]
   have hlo2 : ¬ (a + b) / 2 < m → lo0 a m b = a := fun h => by unfold lo0; rw [if_neg h]
   have hhi2 : ¬ (a + b) / 2 < m → hi0 a m b = m := fun h => by unfold hi0; rw [if_neg h]
   have hlh : a ≤ lo0 a m b ∧ lo0 a m b ≤ hi0 a m b ∧ hi0 a m b ≤ m ∧ hi0 a m b ≤ (a + b) / 2 ∧ (a + b) / 2 + m ≤ b + lo0 a m b := by unfold lo0 hi0; split <;> omega
   have hcut := fun s h1 h2 h3 h4 => cut_of (s := s) hab hmb hbl hA hB h1 h2 h3 h4
   have hma : a < (a + b) / 2 := by omega
   have hmb2 : (a + b) / 2 < b := by omega
   generalize hme : (a + b) / 2 = mid at *
   generalize lo0 a m b = lo at *
   generalize hi0 a m b = hi at *
   conv => whnf
   repeat' (first | ((first | (refine Wr.i64 (by omega) (by omega) ?_) | (refine Wr.u64 (by omega) (by omega) ?_) | (refine ValO.half (m := (mid : Int)) rfl (by omega) rfl rfl (by omega) ?_)); conv => whnf) | (refine Br.dec (fun _ => ?_) (fun _ => ?_) <;> first | (exfalso; omega) | conv => whnf))
   all_goals first
    | (exfalso; omega)
    | skip
   all_goals
    refine LoopK.inv tabOK (fun x : Nat × Nat => ⟨[(0, .hd 1000 0 N), (1, .p (.int .i64 a)), (2, .p (.int .i64 m)), (3, .p (.int .i64 b)), (4, .p (.fn g [c])), (18, .p (.int .i64 mid)), (19, .p (.int .i64 ((mid : Int) + m))), (20, .p (.int .i64 x.1)), (21, .p (.int .i64 x.2)), (22, .p (.int .i64 ((mid : Int) + m - 1)))], rowN row⟩)
     (fun x => (lo ≤ x.1 ∧ x.1 ≤ x.2 ∧ x.2 ≤ hi) ∧ (∀ k, lo ≤ k → k < x.1 → K (getz row (mid + m - 1 - k)) ≤ K (getz row k)) ∧ ∀ k, x.2 ≤ k → k < hi → K (getz row k) < K (getz row (mid + m - 1 - k))) (fun x => x.2 - x.1) (lo, hi)
     (Le.of_eq (by first | (rw [hlo1 (by omega), hhi1 (by omega)]; rfl) | (rw [hlo2 (by omega), hhi2 (by omega)]; rfl)))
     ⟨⟨Nat.le_refl _, by simp only; omega, Nat.le_refl _⟩, fun k h1 h2 => by simp only at h2; omega, fun k h1 h2 => by simp only at h1; omega⟩ ?_
    rintro ⟨s, r⟩ ⟨⟨h1, h2, h3⟩, h4, h5⟩
    simp only at h1 h2 h3 h4 h5 ⊢
    rcases Nat.lt_or_ge s r with hsr | hsr
    ·have g1 := row_at (l := row) (i := (s + r) / 2) (by omega)
     have g2 := row_at (l := row) (i := mid + m - 1 - (s + r) / 2) (by omega)
     have hcm := hC.cmp (getz row (mid + m - 1 - (s + r) / 2)) (getz row ((s + r) / 2)) (hL _ (getz_mem (by omega))) (hL _ (getz_mem (by omega)))
     have hb1 := hC.bnd (getz row ((s + r) / 2))
     have hb2 := hC.bnd (getz row (mid + m - 1 - (s + r) / 2))
     have hst := fun k (hk1 : lo ≤ k) (hk2 : k ≤ (s + r) / 2) => And.intro (hA.le (i := k) (k := (s + r) / 2) (by omega) hk2 (by omega)) (hB.le (i := mid + m - 1 - (s + r) / 2) (k := mid + m - 1 - k) (by omega) (by omega) (by omega))
     have hst2 := fun k (hk1 : (s + r) / 2 ≤ k) (hk2 : k < hi) => And.intro (hA.le (i := (s + r) / 2) (k := k) (by omega) hk1 (by omega)) (hB.le (i := mid + m - 1 - k) (k := mid + m - 1 - (s + r) / 2) (by omega) (by omega) (by omega))
     generalize hh : (s + r) / 2 = h at g1 g2 hcm hb1 hb2 hst hst2
     have hhe : (h : Int) = ((s : Int) + r) / 2 := by omega
     generalize hpe : mid + m - 1 - h = pc at g2 hcm hb2 hst hst2
     unfold rowN
     conv => whnf
     repeat' (first | ((first | (refine DrawK.auto tabOK mixed (by kernel_rfl) ?_) | (refine And.intro rfl ?_) | (refine Wr.i64 (by omega) (by omega) ?_) | (refine Wr.u64 (by omega) (by omega) ?_) | (refine ValO.half (m := (h : Int)) rfl (by omega) rfl rfl hhe ?_) | (refine IdxL.mk h rfl (by omega) ?_) | (refine IdxL.mk pc (by omega) (by omega) ?_) | (refine LdOwn.mk h 0 _ (by omega) g1 ?_) | (refine LdOwn.mk pc 0 _ (by omega) g2 ?_) | (refine CallK.pure hcm (.cons (Sub.refl _) (.cons (Sub.refl _) (.cons (Sub.refl _) .nil))) ?_; rintro _ rfl)); conv => whnf) | (refine Br.dec (fun _ => ?_) (fun _ => ?_) <;> first | (exfalso; omega) | conv => whnf) | (refine Br.dec2 (fun _ => ?_) (fun _ => ?_) <;> first | (exfalso; omega) | conv => whnf))
     all_goals first
      | exact ⟨(h + 1, r), ⟨⟨by simp only; omega, by simp only; omega, h3⟩, fun k k1 k2 => by simp only at k2; (rcases Nat.lt_or_ge h k with hk | hk; · omega); have := hst k k1 hk; omega, h5⟩, by simp only; omega, Le.of_eq rfl⟩
      | exact ⟨(s, h), ⟨⟨h1, by simp only; omega, by simp only; omega⟩, h4, fun k k1 k2 => by simp only at k1; have := hst2 k k1 k2; omega⟩, by simp only; omega, Le.of_eq rfl⟩
      | skip
    ·have hre : r = s := by omega
     subst hre
     have cf := hcut r h1 h3 h4 h5
     obtain ⟨⟨c1, c2, c3⟩, c4, cross, l1, l2, r1, r2⟩ := cf
     rw [hme] at c3 c4 cross l1 l2 r1 r2
     obtain ⟨e, hee⟩ : ∃ e, mid + m - r = e := ⟨_, rfl⟩
     rw [hee] at c4 cross l1 l2 r1 r2
     have hme2 : m ≤ e := by omega
     have hp2 : PermIn row (rotR row r m e) a b := (rotR_perm c2 hme2 (by omega)).wide c1 c4 hbl
     by_cases hrot : r < m ∧ m < e
     ·have hRot := slices_rotateCmpFunc_int_ (rotR row r m e) row r m e N (rotR_rot hrot.1 hrot.2 (by omega)) (by omega) (by omega) hN (.fn g [c]) hl
      generalize rotR row r m e = row2 at *
      have hln2 : row2.length = row.length := hp2.len.1
      have hL2 : ∀ x ∈ row2, L x := fun x hx => hL x (hp2.perm.mem_iff.1 hx)
      have p0 : PermIn row2 row2 a mid := .refl (by omega) (by omega)
      have hLe := fun (q1 : a < r) (q2 : r < mid) => ih row2 a r mid N (by omega) q1 q2 (by omega) (by omega) (by omega) hL2 l1 l2
      have hRi := fun row3 (p3 : PermIn row2 row3 a mid) (q1 : mid < e) (q2 : e < b) => ih row3 mid e b N (by omega) q1 q2 (by have := p3.len; omega) (by have := p3.len; omega) (by have := p3.len; omega) (fun x hx => hL2 x (p3.perm.mem_iff.1 hx))
       (fun u v u1 u2 u3 => by rw [p3.out (.inr (by omega)), p3.out (.inr (by omega))]; exact r1 u v u1 u2 u3) (fun u v u1 u2 u3 => by rw [p3.out (.inr (by omega)), p3.out (.inr (by omega))]; exact r2 u v u1 u2 u3)
      have sl : (r = a ∨ mid ≤ r) → srt K row2 a mid := fun h => by
       rcases h with h | h
       ·rw [h] at l2; exact l2
       ·rw [show r = mid by omega] at l1; exact l1
      have pr : ∀ row3, PermIn row2 row3 a mid → PermIn row3 row3 mid b := fun row3 p3 => .refl (by omega) (by have := p3.len; omega)
      have sr : (e ≤ mid ∨ e = b) → ∀ row3, PermIn row2 row3 a mid → srt K row3 mid b := fun h row3 p3 u v u1 u2 u3 => by
       rw [p3.out (.inr (by omega)), p3.out (.inr (by omega))]
       rcases h with h | h
       ·exact r2 u v (by omega) u2 u3
       ·exact r1 u v u1 u2 (by omega)
      have fin : ∀ row3 row4, PermIn row2 row3 a mid → srt K row3 a mid → PermIn row3 row4 mid b → srt K row4 mid b → PermIn row row4 a b ∧ srt K row4 a b := fun row3 row4 p3 s3 p4 s4 =>
       ⟨hp2.trans ((p3.wide (Nat.le_refl _) (by omega) (by omega)).trans (p4.wide (by omega) (Nat.le_refl _) (by have := p3.len; omega))), two_halves (by omega) (by omega) cross p3 s3 p4 s4⟩
      conv => whnf
      repeat' (first | ((first | (refine Wr.i64 (by omega) (by omega) ?_) | (refine CallK.heap [(1000, 1000)] 5 (ArgsH.cons (LSub.refl _) (ArgsH.cons (LSub.p (Sub.int (by omega))) (ArgsH.cons (LSub.p (Sub.int (by omega))) (ArgsH.cons (LSub.p (Sub.int (by omega))) (ArgsH.cons (LSub.refl _) ArgsH.nil))))) (by refine BlksH.cons (j := 1000) rfl rfl ?_ ?_; exact CSub.refl _; exact BlksH.nil) hRot rfl rfl ?_; rintro l' H' ⟨rfl, rfl⟩) | (refine CallK.heap [(1000, 1000)] 5 (ArgsH.cons (LSub.refl _) (ArgsH.cons (LSub.p (Sub.int (by omega))) (ArgsH.cons (LSub.p (Sub.int (by omega))) (ArgsH.cons (LSub.p (Sub.int (by omega))) (ArgsH.cons (LSub.refl _) ArgsH.nil))))) (by refine BlksH.cons (j := 1000) rfl rfl ?_ ?_; exact CSub.refl _; exact BlksH.nil) (hLe (by omega) (by omega)) rfl rfl ?_; rintro l' H' ⟨rfl, row3, rfl, p3, s3⟩) | (refine CallK.heap [(1000, 1000)] 5 (ArgsH.cons (LSub.refl _) (ArgsH.cons (LSub.p (Sub.int (by omega))) (ArgsH.cons (LSub.p (Sub.int (by omega))) (ArgsH.cons (LSub.p (Sub.int (by omega))) (ArgsH.cons (LSub.refl _) ArgsH.nil))))) (by refine BlksH.cons (j := 1000) rfl rfl ?_ ?_; exact CSub.refl _; exact BlksH.nil) (hRi _ p3 (by omega) (by omega)) rfl rfl ?_; rintro l' H' ⟨rfl, row4, rfl, p4, s4⟩) | (refine CallK.heap [(1000, 1000)] 5 (ArgsH.cons (LSub.refl _) (ArgsH.cons (LSub.p (Sub.int (by omega))) (ArgsH.cons (LSub.p (Sub.int (by omega))) (ArgsH.cons (LSub.p (Sub.int (by omega))) (ArgsH.cons (LSub.refl _) ArgsH.nil))))) (by refine BlksH.cons (j := 1000) rfl rfl ?_ ?_; exact CSub.refl _; exact BlksH.nil) (hRi _ p0 (by omega) (by omega)) rfl rfl ?_; rintro l' H' ⟨rfl, row4, rfl, p4, s4⟩)); conv => whnf) | (refine Br.dec (fun _ => ?_) (fun _ => ?_) <;> first | (exfalso; omega) | conv => whnf))
      all_goals first
       | (exfalso; omega)
       | exact ⟨_, LSub.refl _, rfl, _, rfl, fin _ _ p3 s3 p4 s4⟩
       | exact ⟨_, LSub.refl _, rfl, _, rfl, fin _ _ p3 s3 (pr _ p3) (sr (by omega) _ p3)⟩
       | exact ⟨_, LSub.refl _, rfl, _, rfl, fin _ _ p0 (sl (by omega)) p4 s4⟩
       | exact ⟨_, LSub.refl _, rfl, _, rfl, fin _ _ p0 (sl (by omega)) (pr _ p0) (sr (by omega) _ p0)⟩
       | skip
     ·have hno := rotR_none c2 hme2 (by omega) (l := row) (by omega)
      rw [hno] at hp2 cross l1 l2 r1 r2
      obtain ⟨row2, hrow2⟩ : ∃ row2, row = row2 := ⟨_, rfl⟩
      have hrow3 : rowN row = rowN row2 := by rw [hrow2]
      rw [hrow3]
      rw [hrow2] at cross l1 l2 r1 r2
      have hp2 : PermIn row row2 a b := by rw [← hrow2]; exact hp2
      have hln2 : row2.length = row.length := hp2.len.1
      have hL2 : ∀ x ∈ row2, L x := fun x hx => hL x (hp2.perm.mem_iff.1 hx)
      have p0 : PermIn row2 row2 a mid := .refl (by omega) (by omega)
      have hLe := fun (q1 : a < r) (q2 : r < mid) => ih row2 a r mid N (by omega) q1 q2 (by omega) (by omega) (by omega) hL2 l1 l2
      have hRi := fun row3 (p3 : PermIn row2 row3 a mid) (q1 : mid < e) (q2 : e < b) => ih row3 mid e b N (by omega) q1 q2 (by have := p3.len; omega) (by have := p3.len; omega) (by have := p3.len; omega) (fun x hx => hL2 x (p3.perm.mem_iff.1 hx))
       (fun u v u1 u2 u3 => by rw [p3.out (.inr (by omega)), p3.out (.inr (by omega))]; exact r1 u v u1 u2 u3) (fun u v u1 u2 u3 => by rw [p3.out (.inr (by omega)), p3.out (.inr (by omega))]; exact r2 u v u1 u2 u3)
      have sl : (r = a ∨ mid ≤ r) → srt K row2 a mid := fun h => by
       rcases h with h | h
       ·rw [h] at l2; exact l2
       ·rw [show r = mid by omega] at l1; exact l1
      have pr : ∀ row3, PermIn row2 row3 a mid → PermIn row3 row3 mid b := fun row3 p3 => .refl (by omega) (by have := p3.len; omega)
      have sr : (e ≤ mid ∨ e = b) → ∀ row3, PermIn row2 row3 a mid → srt K row3 mid b := fun h row3 p3 u v u1 u2 u3 => by
       rw [p3.out (.inr (by omega)), p3.out (.inr (by omega))]
       rcases h with h | h
       ·exact r2 u v (by omega) u2 u3
       ·exact r1 u v u1 u2 (by omega)
      have fin : ∀ row3 row4, PermIn row2 row3 a mid → srt K row3 a mid → PermIn row3 row4 mid b → srt K row4 mid b → PermIn row row4 a b ∧ srt K row4 a b := fun row3 row4 p3 s3 p4 s4 =>
       ⟨hp2.trans ((p3.wide (Nat.le_refl _) (by omega) (by omega)).trans (p4.wide (by omega) (Nat.le_refl _) (by have := p3.len; omega))), two_halves (by omega) (by omega) cross p3 s3 p4 s4⟩
      conv => whnf
      repeat' (first | ((first | (refine Wr.i64 (by omega) (by omega) ?_) | (refine CallK.heap [(1000, 1000)] 5 (ArgsH.cons (LSub.refl _) (ArgsH.cons (LSub.p (Sub.int (by omega))) (ArgsH.cons (LSub.p (Sub.int (by omega))) (ArgsH.cons (LSub.p (Sub.int (by omega))) (ArgsH.cons (LSub.refl _) ArgsH.nil))))) (by refine BlksH.cons (j := 1000) rfl rfl ?_ ?_; exact CSub.refl _; exact BlksH.nil) (hLe (by omega) (by omega)) rfl rfl ?_; rintro l' H' ⟨rfl, row3, rfl, p3, s3⟩) | (refine CallK.heap [(1000, 1000)] 5 (ArgsH.cons (LSub.refl _) (ArgsH.cons (LSub.p (Sub.int (by omega))) (ArgsH.cons (LSub.p (Sub.int (by omega))) (ArgsH.cons (LSub.p (Sub.int (by omega))) (ArgsH.cons (LSub.refl _) ArgsH.nil))))) (by refine BlksH.cons (j := 1000) rfl rfl ?_ ?_; exact CSub.refl _; exact BlksH.nil) (hRi _ p0 (by omega) (by omega)) rfl rfl ?_; rintro l' H' ⟨rfl, row4, rfl, p4, s4⟩)); conv => whnf) | (refine Br.dec (fun _ => ?_) (fun _ => ?_) <;> first | (exfalso; omega) | conv => whnf))
      all_goals first
       | (exfalso; omega)
       | exact ⟨_, LSub.refl _, rfl, _, rfl, fin _ _ p3 s3 p4 s4⟩
       | exact ⟨_, LSub.refl _, rfl, _, rfl, fin _ _ p3 s3 (pr _ p3) (sr (by omega) _ p3)⟩
       | exact ⟨_, LSub.refl _, rfl, _, rfl, fin _ _ p0 (sl (by omega)) p4 s4⟩
       | exact ⟨_, LSub.refl _, rfl, _, rfl, fin _ _ p0 (sl (by omega)) (pr _ p0) (sr (by omega) _ p0)⟩
       | skip
open Go.Proofs
theorem srt_one {K : Int → Int} {l : List Int} {a b : Nat} (h : b ≤ a + 1) : srt K l a b := fun i k h1 h2 h3 => by omega
theorem insSort_spec {g : Nat} {c : AV} {K : Int → Int} {L : Int → Prop} (hC : CmpF g c K L) (row : List Int) (a b N : Nat) (hab : a ≤ b) (hbl : b ≤ row.length) (hN : N = row.length) (hl : row.length ≤ 1000000) (hL : ∀ x ∈ row, L x) :
  SpecH Tryz.prog 289 [.hd 1000 0 N, .p (.int .i64 a), .p (.int .i64 b), .p (.fn g [c])] (rowN row) (fun r H => r = .p (.tup []) ∧ ∃ row', H = rowN row' ∧ PermIn row row' a b ∧ srt K row' a b) := by
 refine SpecH.body I_slices_insertionSortCmpFunc_int_ tabOK Tryz.func289 rfl Tryz.call289 (by show 4 ≤ _; decide) ?_
 conv => whnf
 repeat' (refine Wr.i64 (by omega) (by omega) ?_; conv => whnf)
 refine LoopK.inv tabOK (fun x : List Int × Nat => ⟨[(0, .hd 1000 0 N), (1, .p (.int .i64 a)), (2, .p (.int .i64 b)), (3, .p (.fn g [c])), (8, .p (.int .i64 x.2))], rowN x.1⟩)
  (fun x => a + 1 ≤ x.2 ∧ (x.2 ≤ b ∨ x.2 = a + 1) ∧ PermIn row x.1 a b ∧ srt K x.1 a x.2) (fun x => b - x.2) (row, a + 1) (Le.of_eq (by simp only; rw [show ((a + 1 : Nat) : Int) = (a : Int) + 1 by omega]; rfl)) ⟨Nat.le_refl _, .inr rfl, .refl hab hbl, srt_one (Nat.le_refl _)⟩ ?_
 rintro ⟨r0, i⟩ ⟨h1, h2, hp, hs⟩
 simp only at h1 h2 hp hs ⊢
 have hlen := hp.len.1
 rcases Nat.lt_or_ge i b with hib | hib
 rotate_left 1
 ·unfold rowN
  conv => whnf
  repeat' (refine Br.dec (fun _ => ?_) (fun _ => ?_) <;> first | (exfalso; omega) | conv => whnf)
  all_goals first
   | (exfalso; omega)
   | exact ⟨_, LSub.refl _, rfl, r0, rfl, hp, fun u v u1 u2 u3 => hs u v u1 u2 (by omega)⟩
   | skip
 conv => whnf
 repeat' (refine Br.dec (fun _ => ?_) (fun _ => ?_) <;> first | (exfalso; omega) | conv => whnf)
 all_goals first
  | (exfalso; omega)
  | skip
 refine LoopK.inv tabOK (fun j : Nat => ⟨[(0, .hd 1000 0 N), (1, .p (.int .i64 a)), (2, .p (.int .i64 b)), (3, .p (.fn g [c])), (8, .p (.int .i64 i)), (9, .p (.int .i64 j))], rowN (mvL r0 i j)⟩)
  (fun j => (a ≤ j ∧ j ≤ i) ∧ ∀ k, j ≤ k → k < i → K (getz r0 k) < K (getz r0 i)) (fun j => j) i (Le.of_eq (by rw [mvL_zero]; rfl)) ⟨⟨by omega, Nat.le_refl _⟩, fun k k1 k2 => by omega⟩ ?_
 rintro j ⟨⟨k1, k2⟩, k3⟩
 simp only at k1 k2 k3 ⊢
 have hml := mvL_len r0 i j
 have hfin : (j = a ∨ K (getz r0 i) ≤ K (getz r0 (j - 1))) → PermIn row (mvL r0 i j) a b ∧ srt K (mvL r0 i j) a (i + 1) := fun h => by
  have hp2 := mvL_perm (l := r0) (m := i) (by omega) (d := i - j) (by omega)
  rw [show i - (i - j) = j by omega] at hp2
  refine ⟨hp.trans (hp2.wide k1 (by omega) (by omega)), ins_down k1 k2 (by omega) hs (fun k q1 q2 => ?_) k3⟩
  rcases h with h | h
  ·omega
  ·have := hs.le (i := k) (k := j - 1) q1 (by omega) (by omega)
   omega
 by_cases hja : j = a
 ·have hf := hfin (.inl hja)
  unfold rowN
  conv => whnf
  repeat' (first | ((first | (refine DrawK.auto tabOK mixed (by kernel_rfl) ?_) | (refine Wr.i64 (by omega) (by omega) ?_)); conv => whnf) | (refine Br.dec (fun _ => ?_) (fun _ => ?_) <;> first | (exfalso; omega) | conv => whnf))
  all_goals first
   | (exfalso; omega)
   | exact ⟨(mvL r0 i j, i + 1), ⟨by simp only; omega, .inl (by simp only; omega), hf.1, hf.2⟩, by simp only; omega, Le.of_eq rfl⟩
   | skip
 obtain ⟨q, rfl⟩ : ∃ q, j = q + 1 := ⟨j - 1, by omega⟩
 have e1 : getz (mvL r0 i (q + 1)) (q + 1) = getz r0 i := by rw [mvL_get (by omega), if_neg (by omega), if_pos rfl]
 have e2 : getz (mvL r0 i (q + 1)) q = getz r0 q := by rw [mvL_get (by omega), if_pos (by omega)]
 have hst := mvL_step (l := r0) (m := i) (k := q) k2 (by omega)
 have g1 := row_at (l := mvL r0 i (q + 1)) (i := q) (by omega)
 have g2 := row_at (l := mvL r0 i (q + 1)) (i := q + 1) (by omega)
 rw [e1] at g2 hst
 rw [e2] at g1 hst
 have hcm := hC.cmp (getz r0 i) (getz r0 q) (hL _ (hp.perm.mem_iff.1 (getz_mem (by omega)))) (hL _ (hp.perm.mem_iff.1 (getz_mem (by omega))))
 have hb1 := hC.bnd (getz r0 i)
 have hb2 := hC.bnd (getz r0 q)
 rw [show q + 1 - 1 = q by omega] at hfin
 have hst' : ((mvL r0 i (q + 1)).set (q + 1) (getz r0 q)).set q (getz r0 i) = mvL r0 i q := by rw [← hst]; exact List.set_comm _ _ (by omega)
 have hq1 : ((q + 1 : Nat) : Int) - 1 = (q : Int) := by omega
 have hnext : K (getz r0 q) < K (getz r0 i) → ∀ k, q ≤ k → k < i → K (getz r0 k) < K (getz r0 i) := fun h k q1 q2 => by
  by_cases he : k = q
  ·rw [he]; exact h
  ·exact k3 k (by omega) q2
 generalize mvL r0 i (q + 1) = rw' at hml hst' g1 g2 hfin ⊢
 generalize getz r0 i = x at *
 generalize getz r0 q = y at *
 have g3 : ((rw'.map (AV.int .i64)).set (q + 1) (.int .i64 y))[q]? = some (.int .i64 y) := by rw [List.getElem?_set_ne (by omega)]; exact g1
 unfold rowN
 conv => whnf
 repeat' (first | ((first | (refine DrawK.auto tabOK mixed (by kernel_rfl) ?_) | (refine And.intro rfl ?_) | (refine Wr.i64 (by omega) (by omega) ?_) | (refine IdxL.mk (q+1) (by omega) (by omega) ?_) | (refine IdxL.mk q (by omega) (by omega) ?_) | (refine LdOwn.mk (q+1) 0 _ (by omega) g2 ?_) | (refine LdOwn.mk q 0 _ (by omega) g1 ?_) | (refine CallK.pure hcm (.cons (Sub.refl _) (.cons (Sub.refl _) (.cons (Sub.refl _) .nil))) ?_; rintro _ rfl) | (refine StOwn.mk (q+1) 0 _ (.int .i64 y) (by omega) g2 (Nat.le_refl _) rfl ?_) | (refine StOwn.mk q 0 _ (.int .i64 x) (by omega) g3 (Nat.le_refl _) rfl ?_)); conv => whnf) | (refine Br.dec (fun _ => ?_) (fun _ => ?_) <;> first | (exfalso; omega) | conv => whnf))
 all_goals first
  | (exfalso; omega)
  | exact ⟨q, ⟨⟨by omega, by omega⟩, hnext (by omega)⟩, by omega, Le.of_eq (by rw [← hst', List.map_set, List.map_set, hq1])⟩
  | (have hf := hfin (.inr (by omega)); exact ⟨(rw', i + 1), ⟨by simp only; omega, .inl (by simp only; omega), hf.1, hf.2⟩, by simp only; omega, Le.of_eq rfl⟩)
  | skip
open Go.Proofs
theorem srt.keep {K : Int → Int} {l l' : List Int} {a b u v : Nat} (h : srt K l u v) (hp : PermIn l l' a b) (ho : v ≤ a ∨ b ≤ u) : srt K l' u v := fun i k h1 h2 h3 => by
 rw [hp.out (by omega), hp.out (by omega)]
 exact h i k h1 h2 h3
theorem srt.sub {K : Int → Int} {l : List Int} {a b u v : Nat} (h : srt K l a b) (h1 : a ≤ u) (h2 : v ≤ b) : srt K l u v := fun i k q1 q2 q3 => h i k (by omega) q2 (by omega)
theorem mul_lt_blk {q q0 B : Nat} (h : q < q0) : q * B + B ≤ q0 * B := by
 have := Nat.mul_le_mul_right B (show q + 1 ≤ q0 from h)
 rwa [Nat.succ_mul] at this
def blk (K : Int → Int) (l : List Int) (bs n : Nat) : Prop := ∀ q, srt K l (q * bs) (min (q * bs + bs) n)
theorem stable_spec {g : Nat} {c : AV} {K : Int → Int} {L : Int → Prop} (hC : CmpF g c K L) (row : List Int) (n : Nat) (hN : n = row.length) (hl : row.length ≤ 1000000) (hL : ∀ x ∈ row, L x) :
  SpecH Tryz.prog 254 [.hd 1000 0 n, .p (.int .i64 n), .p (.fn g [c])] (rowN row) (fun r H => r = .p (.tup []) ∧ ∃ row', H = rowN row' ∧ PermIn row row' 0 n ∧ srt K row' 0 n) := by
 refine SpecH.body I_slices_stableCmpFunc_int_ tabOK Tryz.func254 rfl Tryz.call254 (by show 3 ≤ _; decide) ?_
 conv => whnf
 skip
 refine LoopK.inv tabOK (fun x : List Int × Nat => ⟨[(0, .hd 1000 0 n), (1, .p (.int .i64 n)), (2, .p (.fn g [c])), (6, .p (.int .i64 20)), (7, .p (.int .i64 (x.2 * 20 : Nat))), (8, .p (.int .i64 (x.2 * 20 + 20 : Nat)))], rowN x.1⟩)
  (fun x => x.2 * 20 ≤ n ∧ PermIn row x.1 0 n ∧ ∀ q, q < x.2 → srt K x.1 (q * 20) (q * 20 + 20)) (fun x => n - x.2 * 20) (row, 0) (Le.of_eq rfl) ⟨by simp, .refl (Nat.zero_le _) (by omega), fun q hq => by simp only at hq; omega⟩ ?_
 rintro ⟨r1, q0⟩ ⟨h1, hp, hs⟩
 simp only at h1 hp hs ⊢
 have hlen := hp.len.1
 have hL1 : ∀ x ∈ r1, L x := fun x hx => hL x (hp.perm.mem_iff.1 hx)
 rcases Nat.lt_or_ge n (q0 * 20 + 20) with hb | hb
 rotate_left 1
 ·have hI := insSort_spec hC r1 (q0 * 20) (q0 * 20 + 20) n (by omega) (by omega) (by omega) (by omega) hL1
  conv => whnf
  repeat' (first | ((first | (refine Wr.eq (m := ((q0+1)*20+20:Nat)) (by omega) (by omega) (by omega) ?_) | (refine CallK.heap [(1000, 1000)] 5 (ArgsH.cons (LSub.refl _) (ArgsH.cons (LSub.p (Sub.int (by omega))) (ArgsH.cons (LSub.p (Sub.int (by omega))) (ArgsH.cons (LSub.refl _) ArgsH.nil)))) (by refine BlksH.cons (j := 1000) rfl rfl ?_ ?_; exact CSub.refl _; exact BlksH.nil) hI rfl rfl ?_; rintro l' H' ⟨rfl, r2, rfl, p2, s2⟩)); conv => whnf) | (refine Br.dec (fun _ => ?_) (fun _ => ?_) <;> first | (exfalso; omega) | conv => whnf))
  all_goals first
   | (exfalso; omega)
   | exact ⟨(r2, q0 + 1), ⟨by simp only; omega, hp.trans (p2.wide (by omega) (by omega) (by omega)), fun q hq => by
      simp only at hq ⊢
      by_cases he : q = q0
      ·rw [he]; exact s2
      ·exact (hs q (by omega)).keep p2 (.inl (by omega))⟩, by simp only; omega, Le.of_eq (by simp only; rw [show (q0 + 1) * 20 = q0 * 20 + 20 by omega]; rfl)⟩
   | skip
 have hI := insSort_spec hC r1 (q0 * 20) n n (by omega) (by omega) (by omega) (by omega) hL1
 conv => whnf
 repeat' (first | (refine CallK.heap [(1000, 1000)] 5 (ArgsH.cons (LSub.refl _) (ArgsH.cons (LSub.p (Sub.int (by omega))) (ArgsH.cons (LSub.p (Sub.int (by omega))) (ArgsH.cons (LSub.refl _) ArgsH.nil)))) (by refine BlksH.cons (j := 1000) rfl rfl ?_ ?_; exact CSub.refl _; exact BlksH.nil) hI rfl rfl ?_; rintro l' H' ⟨rfl, r2, rfl, p2, s2⟩; conv => whnf) | (refine Br.dec (fun _ => ?_) (fun _ => ?_) <;> first | (exfalso; omega) | conv => whnf))
 all_goals first
  | (exfalso; omega)
  | skip
 have hp2 : PermIn row r2 0 n := hp.trans (p2.wide (by omega) (Nat.le_refl _) (by omega))
 have hblk : blk K r2 20 n := fun q => by
  rcases Nat.lt_trichotomy q q0 with hq | hq | hq
  ·exact ((hs q hq).keep p2 (.inl (by omega))).sub (Nat.le_refl _) (by omega)
  ·subst hq
   exact s2.sub (Nat.le_refl _) (by omega)
  ·exact srt_one (by omega)
 clear hI hs hL1 hlen hp p2 s2 hb h1
 refine LoopK.inv tabOK (fun x : List Int × Nat => ⟨[(0, .hd 1000 0 n), (1, .p (.int .i64 n)), (2, .p (.fn g [c])), (6, .p (.int .i64 x.2))], rowN x.1⟩)
  (fun x => (20 ≤ x.2 ∧ x.2 ≤ 2000000) ∧ PermIn row x.1 0 n ∧ blk K x.1 x.2 n) (fun x => n - x.2) (r2, 20) (Le.of_eq rfl) ⟨⟨Nat.le_refl _, by simp only; omega⟩, hp2, hblk⟩ ?_
 clear hp2 hblk r2
 rintro ⟨r1, bs⟩ ⟨⟨h1, h2⟩, hp, hs⟩
 simp only at h1 h2 hp hs ⊢
 have hlen := hp.len.1
 rcases Nat.lt_or_ge bs n with hb | hb
 rotate_left 1
 ·have h0 := hs 0
  rw [Nat.zero_mul] at h0
  unfold rowN
  conv => whnf
  repeat' (refine Br.dec (fun _ => ?_) (fun _ => ?_) <;> first | (exfalso; omega) | conv => whnf)
  all_goals first
   | (exfalso; omega)
   | exact ⟨_, LSub.refl _, rfl, r1, rfl, hp, h0.sub (Nat.le_refl _) (by omega)⟩
   | skip
 conv => whnf
 repeat' (first | (refine Wr.i64 (by omega) (by omega) ?_; conv => whnf) | (refine Br.dec (fun _ => ?_) (fun _ => ?_) <;> first | (exfalso; omega) | conv => whnf))
 all_goals first
  | (exfalso; omega)
  | skip
 refine LoopK.inv tabOK (fun x : List Int × Nat => ⟨[(0, .hd 1000 0 n), (1, .p (.int .i64 n)), (2, .p (.fn g [c])), (6, .p (.int .i64 bs)), (7, .p (.int .i64 (x.2 * (2 * bs) : Nat))), (8, .p (.int .i64 (x.2 * (2 * bs) + 2 * bs : Nat)))], rowN x.1⟩)
  (fun x => x.2 * (2 * bs) ≤ n ∧ PermIn row x.1 0 n ∧ (∀ q, q < x.2 → srt K x.1 (q * (2 * bs)) (q * (2 * bs) + 2 * bs)) ∧ ∀ q, 2 * x.2 ≤ q → srt K x.1 (q * bs) (min (q * bs + bs) n)) (fun x => n - x.2 * (2 * bs)) (r1, 0) (Le.of_eq (by simp only [Nat.zero_mul, Nat.zero_add]; rw [show ((2 * bs : Nat) : Int) = 2 * (bs : Int) by omega]; rfl)) ⟨by simp, hp, fun q hq => by simp only at hq; omega, fun q _ => hs q⟩ ?_
 clear hp hs hlen r1
 rintro ⟨r1, q0⟩ ⟨h3, hp, hs1, hs2⟩
 simp only at h3 hp hs1 hs2 ⊢
 have hlen := hp.len.1
 have hL1 : ∀ x ∈ r1, L x := fun x hx => hL x (hp.perm.mem_iff.1 hx)
 have e1 : 2 * q0 * bs = q0 * (2 * bs) := by rw [Nat.mul_comm 2 q0, Nat.mul_assoc]
 have e2 : (2 * q0 + 1) * bs = q0 * (2 * bs) + bs := by rw [Nat.add_mul, e1, Nat.one_mul]
 have e3 : (q0 + 1) * (2 * bs) = q0 * (2 * bs) + 2 * bs := Nat.succ_mul _ _
 have b1 := hs2 (2 * q0) (Nat.le_refl _)
 have b2 := hs2 (2 * q0 + 1) (by omega)
 rw [e1] at b1
 rw [e2] at b2
 have far : ∀ q, 2 * q0 + 2 ≤ q → q0 * (2 * bs) + 2 * bs ≤ q * bs := fun q hq => by
  have := Nat.mul_le_mul_right bs hq
  rw [show 2 * q0 + 2 = (2 * q0 + 1) + 1 from rfl, Nat.succ_mul, e2] at this
  omega
 have near : ∀ q, q < q0 → q * (2 * bs) + 2 * bs ≤ q0 * (2 * bs) := fun q hq => mul_lt_blk hq
 generalize hA : q0 * (2 * bs) = A at *
 rcases Nat.lt_or_ge n (A + 2 * bs) with hb2 | hb2
 rotate_left 1
 ·have hM := symMerge_spec hC (A + 2 * bs - A) r1 A (A + bs) (A + 2 * bs) n (Nat.le_refl _) (by omega) (by omega) (by omega) (by omega) (by omega) hL1 (b1.sub (Nat.le_refl _) (by omega)) (b2.sub (Nat.le_refl _) (by omega))
  conv => whnf
  repeat' (first | ((first | (refine Wr.i64 (by omega) (by omega) ?_) | (refine CallK.heap [(1000, 1000)] 5 (ArgsH.cons (LSub.refl _) (ArgsH.cons (LSub.p (Sub.int (by omega))) (ArgsH.cons (LSub.p (Sub.int (by omega))) (ArgsH.cons (LSub.p (Sub.int (by omega))) (ArgsH.cons (LSub.refl _) ArgsH.nil))))) (by refine BlksH.cons (j := 1000) rfl rfl ?_ ?_; exact CSub.refl _; exact BlksH.nil) hM rfl rfl ?_; rintro l' H' ⟨rfl, r2, rfl, p2, s2⟩)); conv => whnf) | (refine Br.dec (fun _ => ?_) (fun _ => ?_) <;> first | (exfalso; omega) | conv => whnf))
  all_goals first
   | (exfalso; omega)
   | exact ⟨(r2, q0 + 1), ⟨by simp only; omega, hp.trans (p2.wide (by omega) (by omega) (by omega)), fun q hq => by
      simp only at hq
      by_cases he : q = q0
      ·rw [he, hA]; exact s2
      ·have := near q (by omega)
       exact (hs1 q (by omega)).keep p2 (.inl (by omega)), fun q hq => by
      simp only at hq
      have := far q (by omega)
      exact (hs2 q (by omega)).keep p2 (.inr (by omega))⟩, by simp only; omega, Le.of_eq (by simp only; rw [e3, show ((A + 2 * bs + 2 * bs : Nat) : Int) = ((A + 2 * bs : Nat) : Int) + 2 * (bs : Int) by omega]; rfl)⟩
   | skip
 ·have hend : ∀ r2, PermIn r1 r2 A n → srt K r2 A n → PermIn row r2 0 n ∧ blk K r2 (2 * bs) n := fun r2 p2 s2 => by
   refine ⟨hp.trans (p2.wide (by omega) (Nat.le_refl _) (by omega)), fun q => ?_⟩
   rcases Nat.lt_trichotomy q q0 with hq | hq | hq
   ·have := near q hq
    exact ((hs1 q hq).keep p2 (.inl (by omega))).sub (Nat.le_refl _) (by omega)
   ·subst hq
    rw [hA]
    exact s2.sub (Nat.le_refl _) (by omega)
   ·have := mul_lt_blk (B := 2 * bs) hq
    rw [hA] at this
    exact srt_one (by omega)
  by_cases hm : A + bs < n
  ·have hM := symMerge_spec hC (n - A) r1 A (A + bs) n n (Nat.le_refl _) (by omega) (by omega) (by omega) (by omega) (by omega) hL1 (b1.sub (Nat.le_refl _) (by omega)) (b2.sub (Nat.le_refl _) (by omega))
   conv => whnf
   repeat' (first | ((first | (refine Wr.i64 (by omega) (by omega) ?_) | (refine CallK.heap [(1000, 1000)] 5 (ArgsH.cons (LSub.refl _) (ArgsH.cons (LSub.p (Sub.int (by omega))) (ArgsH.cons (LSub.p (Sub.int (by omega))) (ArgsH.cons (LSub.p (Sub.int (by omega))) (ArgsH.cons (LSub.refl _) ArgsH.nil))))) (by refine BlksH.cons (j := 1000) rfl rfl ?_ ?_; exact CSub.refl _; exact BlksH.nil) hM rfl rfl ?_; rintro l' H' ⟨rfl, r2, rfl, p2, s2⟩)); conv => whnf) | (refine Br.dec (fun _ => ?_) (fun _ => ?_) <;> first | (exfalso; omega) | conv => whnf))
   all_goals first
    | (exfalso; omega)
    | (have hf := hend r2 p2 s2; exact ⟨(r2, 2 * bs), ⟨⟨by simp only; omega, by simp only; omega⟩, hf.1, hf.2⟩, by simp only; omega, Le.of_eq (by simp only; rw [show ((2 * bs : Nat) : Int) = (bs : Int) * 2 by omega]; rfl)⟩)
    | skip
  ·have hf := hend r1 (.refl (by omega) (by omega)) (b1.sub (Nat.le_refl _) (by omega))
   unfold rowN
   conv => whnf
   repeat' (first | (refine Wr.i64 (by omega) (by omega) ?_; conv => whnf) | (refine Br.dec (fun _ => ?_) (fun _ => ?_) <;> first | (exfalso; omega) | conv => whnf))
   all_goals first
    | (exfalso; omega)
    | exact ⟨(r1, 2 * bs), ⟨⟨by simp only; omega, by simp only; omega⟩, hf.1, hf.2⟩, by simp only; omega, Le.of_eq (by simp only; rw [show ((2 * bs : Nat) : Int) = (bs : Int) * 2 by omega])⟩
    | skip
theorem sortStable_spec {g : Nat} {c : AV} {K : Int → Int} {L : Int → Prop} (hC : CmpF g c K L) (row : List Int) (n : Nat) (hN : n = row.length) (hl : row.length ≤ 1000000) (hL : ∀ x ∈ row, L x) :
  SpecH Tryz.prog 181 [.hd 1000 0 n, .p (.fn g [c])] (rowN row) (fun r H => r = .p (.tup []) ∧ ∃ row', H = rowN row' ∧ PermIn row row' 0 n ∧ srt K row' 0 n) := by
 refine SpecH.body I_slices_SortStableFunc_int_int_ tabOK Tryz.func181 rfl Tryz.call181 (by show 2 ≤ _; decide) ?_
 have hS := stable_spec hC row n hN hl hL
 conv => whnf
 repeat' ((first | (intro (_ : _ ≤ 9223372036854775807)) | (refine CallK.heap [(1000, 1000)] 5 (ArgsH.cons (LSub.refl _) (ArgsH.cons (LSub.refl _) (ArgsH.cons (LSub.refl _) ArgsH.nil))) (by refine BlksH.cons (j := 1000) rfl rfl ?_ ?_; exact CSub.refl _; exact BlksH.nil) hS rfl rfl ?_; rintro l' H' ⟨rfl, r2, rfl, p2, s2⟩)); conv => whnf)
 exact ⟨_, LSub.refl _, rfl, r2, rfl, p2, s2⟩
open Go.Proofs
open Go.Proofs
open Go.Proofs
theorem offN_le : ∀ (l : List Pr) (j : Nat), offN l j ≤ cntP l
 | _, 0 => by rw [offN]; omega
 | [], j + 1 => by rw [offN]; omega
 | g :: r, j + 1 => by rw [offN, cntP]; have := offN_le r j; omega
theorem free_traps {p : Pg} (h : chkB p = true) {j : Nat} {f : Pr} (hj : p.procs[j]? = some f) (hk : ∀ u ∈ flL f.body, u.kind < 7) : trapsW (newWay p j f) f = [] := by
 refine List.eq_nil_iff_forall_not_mem.2 fun l hl => ?_
 obtain ⟨r, hr⟩ := trap_spec h hj hl
 obtain ⟨t, ht, _, h10⟩ := trap_goto h hj hr.pl hr.cl hr.n0 hr.nx
 have := hk t ht
 omega
theorem free_virt {p : Pg} (h : chkB p = true) {j : Nat} {f : Pr} (hj : p.procs[j]? = some f) (hk : ∀ u ∈ flL f.body, u.kind < 7) : virtW (newWay p j f) f = [] := by
 unfold virtW
 rw [free_traps h hj hk]
 rfl
theorem free_data {p : Pg} (h : chkB p = true) {j : Nat} {f : Pr} (hj : p.procs[j]? = some f) (hk : ∀ u ∈ flL f.body, u.kind < 7) : dataW (newWay p j f) f = (newWay p j f).real := by
 have hok := data_ok h hj
 unfold dataW
 rw [free_virt h hj hk] at hok ⊢
 exact normS_eq hok (real_spec h hj).1 (fun s hs => hs) fun s hs => ⟨s, hs, rfl, rfl, Int.le_refl _⟩
def wantR (L : List Step) : List Step := match L with
 | [] => []
 | s :: r => if s.dst = -1 then s :: r else s :: ⟨0, -1, 2⟩ :: r
theorem free_aug {p : Pg} (h : chkB p = true) {j : Nat} {f : Pr} (hj : p.procs[j]? = some f) (hk : ∀ u ∈ flL f.body, u.kind < 7) : augW (newWay p j f) f = wantR (newWay p j f).real := by
 have hok := aug_ok h hj
 have hfo : (itsOf p j f).flatMap fOf = [] := by
  rw [List.flatMap_eq_nil_iff]
  intro it hi
  unfold fOf
  have := hk it.s (its_s hi)
  rw [if_neg (by omega)]
 have hraw : augRaw (newWay p j f) f = (newWay p j f).real ++ [⟨0, -1, 2⟩] := by
  unfold augRaw
  rw [free_virt h hj hk, show itsOf (newWay p j f).p (newWay p j f).j f = itsOf p j f from rfl, hfo]
  simp
 unfold augW
 rw [hraw] at hok ⊢
 obtain ⟨hP, hM⟩ := real_spec h hj
 obtain ⟨r, hr, hr0⟩ := real_head h hj
 have hokr : ∀ s ∈ (newWay p j f).real, okSt s := fun s hs => hok s (List.mem_append.2 (.inl hs))
 rw [hr] at hP hok hokr ⊢
 unfold wantR
 simp only
 by_cases hd : fstI p j f = -1
 ·rw [if_pos hd]
  refine normS_eq hok hP (fun s hs => List.mem_append.2 (.inl hs)) fun s hs => ?_
  rcases List.mem_append.1 hs with hs | hs
  ·exact ⟨s, hs, rfl, rfl, Int.le_refl _⟩
  ·rcases List.mem_singleton.1 hs with rfl
   exact ⟨_, List.mem_cons_self, rfl, hd, by show (1 : Int) ≤ 2; decide⟩
 ·rw [if_neg hd]
  rw [List.pairwise_cons] at hP
  refine normS_eq hok ?_ (fun s hs => ?_) fun s hs => ?_
  ·refine List.pairwise_cons.2 ⟨fun s hs => ?_, List.pairwise_cons.2 ⟨fun s hs => ?_, hP.2⟩⟩
   ·rcases List.mem_cons.1 hs with rfl | hs
    ·right
     refine ⟨rfl, ?_⟩
     have h1 := (real_places h hj ⟨0, fstI p j f, 1⟩ (by rw [hr]; exact List.mem_cons_self)).2
     have h2 := offN_le p.procs j
     have h3 := (chk_cnt h).2.2
     have h4 := cntP_mem _ _ (List.mem_of_getElem? hj)
     unfold plP at h1
     unfold rankI
     simp only at h1 ⊢
     split
     ·omega
     ·rw [if_pos True.intro]
      omega
    ·exact hP.1 s hs
   ·left
    have h1 := hP.1 s hs
    have h2 := hr0 s hs
    unfold ltSt at h1
    simp only at h1
    have e0 : rankI 0 = 0 := rfl
    rw [e0] at h1 ⊢
    rcases h1 with h1 | ⟨h1, _⟩
    ·exact h1
    ·unfold rankI at h1
     split at h1 <;> omega
  ·rcases List.mem_cons.1 hs with rfl | hs
   ·exact List.mem_append.2 (.inl List.mem_cons_self)
   ·rcases List.mem_cons.1 hs with rfl | hs
    ·exact List.mem_append.2 (.inr List.mem_cons_self)
    ·exact List.mem_append.2 (.inl (List.mem_cons_of_mem _ hs))
  ·refine ⟨s, ?_, rfl, rfl, Int.le_refl _⟩
   rcases List.mem_append.1 hs with hs | hs
   ·rcases List.mem_cons.1 hs with rfl | hs
    ·exact List.mem_cons_self
    ·exact List.mem_cons_of_mem _ (List.mem_cons_of_mem _ hs)
   ·rcases List.mem_singleton.1 hs with rfl
    exact List.mem_cons_of_mem _ List.mem_cons_self
open Go.Proofs
structure CopyF (p : Pg) : Prop where
 procs : p.procs.length ≤ 1000
 globals : p.globals.length ≤ 1000000
 pr : ∀ f ∈ p.procs, f.vars.length ≤ 1000000 ∧ f.fin.length ≤ 1000000 ∧ f.params.length ≤ 1000000 ∧ cntL f.body ≤ 100000 ∧ ∀ t ∈ flL f.body, okC t ∧ t.id ≠ -1
open Go.Proofs
theorem getS_kill {k : Nat} : ∀ {sl : List (Nat × LV)}, (∀ x ∈ sl, x.2.kill k = x.2) → ∀ j, (getS sl j).kill k = getS sl j
 | [], _, _ => rfl
 | (i, l) :: r, h, j => by
   simp only [getS]
   cases i == j with
   | true => exact h _ List.mem_cons_self
   | false => exact getS_kill (fun x hx => h x (List.mem_cons_of_mem _ hx)) j
theorem Le.rowObj {N : Nat} {sl : List (Nat × LV)} {H H' : Heap} {k q : Nat} {e e' : TypeId} {sz : Nat} {es : List AV} {ls : List LV} {cs : List AV} (hg : getH H k = some (.own e sz es)) (hq : getH H q = some (.obj e' ls)) (hln : ls.length = cs.length)
  (hcs : ∀ (j : Nat) (l : LV) (c : AV), ls[j]? = some l → cs[j]? = some c → (∃ a, l = .p a ∧ Sub a c) ∨ (∃ n, l = .hd k 0 n ∧ n = es.length ∧ c = .sl es)) (hsl : ∀ j, (getS sl j).kill k = getS sl j)
  (hsub : (H'.map (·.1)).Sublist (H.map (·.1))) (hH : ∀ j c', (j, c') ∈ H' → j ≠ k ∧ ((j = q ∧ c' = .obj e' (cs.map .p)) ∨ ((j, c') ∈ H ∧ c'.kill k = c'))) : Le N ⟨sl, H⟩ ⟨sl, H'⟩ := fun σ β a w hr => by
 have obj : ∀ {τ : Mem}, σ.le τ → (∀ v, RepL σ β (.hd k 0 es.length) v → Rep τ (.sl es) v) → (Chunk.obj e' ls).holds σ β w q → (Chunk.obj e' (cs.map .p)).holds τ β w q := fun {τ} hle hrow hold => by
  obtain ⟨i', vs', hi', hh', hn', hc'⟩ := hold
  refine ⟨i', vs', hi', hh', by simpa [hln] using hn', fun j l hj => ?_⟩
  rw [List.getElem?_map] at hj
  cases hc : cs[j]? with
  | none => rw [hc] at hj; cases hj
  | some c =>
    rw [hc] at hj; cases hj
    have hlt : j < ls.length := by rw [hln]; exact (List.getElem?_eq_some_iff.1 hc).1
    obtain ⟨u, h3, h4⟩ := hc' j _ (List.getElem?_eq_getElem hlt)
    refine ⟨u, h3, ?_⟩
    rcases hcs j _ c (List.getElem?_eq_getElem hlt) hc with ⟨a', h5, h6⟩ | ⟨n, h5, rfl, rfl⟩
    ·rw [h5] at h4
     cases h4 with
     | p hp => exact .p (h6 _ _ (hp.mono hle))
    ·rw [h5] at h4
     exact .p (hrow _ h4)
 have hc0 := hr.heap.chunks q _ (getH_mem hq)
 rcases own_holds.1 (hr.heap.chunks k _ (getH_mem hg)) with ⟨hb0, rfl⟩ | ⟨i, vs, hi, hisz, hh, hn, hle', hmax, hE⟩
 ·refine ⟨σ, β, ⟨hr.size, hr.defers, hr.slots, ⟨hr.heap.mem, fun j c' hj => ?_, hsub.nodup hr.heap.nodup, fun j hj => hr.heap.apart j (hsub.subset hj), fun j hj j' hj' => hr.heap.inj j (hsub.subset hj) j' (hsub.subset hj')⟩⟩, Mem.le_refl σ, Frm.refl _ _, fun _ h0 h1 => absurd h0 h1, fun b ⟨j, hj, r⟩ => .inl ⟨j, hsub.subset hj, r⟩, fun _ _ _ => rfl⟩
  rcases (hH j c' hj).2 with ⟨rfl, rfl⟩ | ⟨h1, _⟩
  ·refine obj (Mem.le_refl σ) (fun v hv => ?_) hc0
   rcases hv.hdI with ⟨_, _, _, he⟩ | ⟨i, _, hk, _⟩
   ·rw [he]; exact .nilsl
   ·rw [hb0] at hk; cases hk
  ·exact hr.heap.chunks j _ h1
 ·refine hr.lay hi (getH_label hg) hh (fun τ hle hτ j v hv => ?_) (fun τ hle hτ j c' hj => ?_) (hsub.nodup hr.heap.nodup)
  ·show RepL τ β (getS sl j) v
   rw [← hsl j]
   exact (hv.kill k).mono hle
  ·obtain ⟨h1, h2⟩ := hH j c' hj
   rcases h2 with ⟨rfl, rfl⟩ | ⟨h2, h3⟩
   ·refine ⟨h1, _, getH_mem hq, obj hle fun v hv => ?_⟩
    rcases hv.hdI with ⟨hk, _⟩ | ⟨i', oo, hk, hl, ho, rfl⟩
    ·rw [hi] at hk; cases hk
    ·rw [hi] at hk; cases hk
     have hoo : oo = 0 := by
      rcases ho with ho | ho
      ·simpa using ho
      ·omega
     subst hoo
     obtain ⟨u, hu⟩ : ∃ u : Nat → Nat → Value, ∀ (m : Nat) (x : AV) (j : Nat) (c : AV), es[m]? = some x → x.cells[j]? = some c → vs[m * sz + j]? = some (u m j) ∧ Rep σ c (u m j) := by
      refine ⟨fun m j => (vs[m * sz + j]?).getD undef, fun m x j c hx hj => ?_⟩
      obtain ⟨v, h1, h2⟩ := hE.rep m x j c hx hj
      rw [List.getElem?_take] at h1
      split at h1
      ·have h1' : vs[m * sz + j]? = some v := by simpa using h1
       exact ⟨by simp [h1'], by simpa [h1'] using h2⟩
      ·cases h1
     exact .sl es i.blk 0 _ sz vs u hτ (by omega) (by omega) hE.size (fun m x j c hx hj => by simpa using (hu m x j c hx hj).1) fun m x j c hx hj => (hu m x j c hx hj).2.mono hle
   ·refine ⟨h1, c', h2, fun hold => ?_⟩
    have := (hold.kill k).mono hle fun _ _ _ _ => rfl
    rwa [h3] at this
open Go.Proofs
open Go.Proofs
theorem cnt_take {l : List Bool} {j : Nat} (hj : j < l.length) : (l.take (j + 1)).count true = (l.take j).count true + (if l[j] then 1 else 0) := by
 rw [List.take_succ_eq_append_getElem hj, List.count_append]
 cases l[j] <;> rfl
theorem way_size (l : List Bool) (hl : l.length ≤ 1000000) : SpecP Tryz.prog 180 [eBs l] (fun r => r = .int .i64 (l.count true)) := by
 refine SpecP.body I_way_size tabOK Tryz.func180 rfl Tryz.call180 (by show 1 ≤ _; decide) ?_
 conv => whnf
 have hll : (l.map bv).length = l.length := List.length_map _
 repeat' (intro (_ : _ ≤ 9223372036854775807); conv => whnf)
 refine LoopK.inv tabOK (fun j : Nat => ⟨[(3, .p (.int .i64 ((l.take j).count true))), (6, .p (eBs l)), (7, .p (.int .i64 (l.map bv).length)), (8, .p (.int .i64 j))], []⟩) (fun j => j ≤ l.length) (fun j => l.length - j) 0 (Le.of_eq rfl) (Nat.zero_le _) ?_
 intro j h2
 rcases Nat.lt_or_ge j l.length with hj | hj
 ·have e1 : (l.map bv)[j]? = some (bv l[j]) := by rw [List.getElem?_map, List.getElem?_eq_getElem hj]; rfl
  have hc := cnt_take hj
  have hcl : (l.take j).count true ≤ j := Nat.le_trans List.count_le_length (by rw [List.length_take]; omega)
  generalize l[j] = x at e1 hc
  generalize (l.take j).count true = m at hc hcl ⊢
  cases x <;>
  conv => whnf
  repeat' (first | ((first | (refine Wr.i64 (by omega) (by omega) ?_) | (refine IdxK.at (k := j) rfl e1 rfl ?_)); conv => whnf) | (refine Br.dec (fun _ => ?_) (fun _ => ?_) <;> first | (exfalso; omega) | conv => whnf))
  all_goals first
   | exact ⟨j + 1, by omega, by omega, Le.of_eq (by rw [hc]; rfl)⟩
   | (exfalso; simp_all; done)
   | skip
 ·rw [List.take_of_length_le hj]
  conv => whnf
  repeat' (refine Br.dec (fun _ => ?_) (fun _ => ?_) <;> first | (exfalso; omega) | conv => whnf)
  exact RetK.int rfl
def keyM (M : List Int) (x : Int) : Int := getz M x.toNat
theorem row1_cmp {M : List Int} (hM : ∀ x ∈ M, 0 ≤ x ∧ x ≤ 1000000) : CmpF 182 (.ip [eInts M]) (keyM M) (fun x => 0 ≤ x ∧ x < M.length) := by
 refine ⟨fun x y hx hy => ?_, fun x => ?_⟩
 ·obtain ⟨k, rfl⟩ : ∃ k : Nat, x = k := ⟨x.toNat, by omega⟩
  obtain ⟨q, rfl⟩ : ∃ q : Nat, y = q := ⟨y.toNat, by omega⟩
  have g1 := row_at (l := M) (i := k) (by omega)
  have g2 := row_at (l := M) (i := q) (by omega)
  have b1 := hM _ (getz_mem (l := M) (i := k) (by omega))
  have b2 := hM _ (getz_mem (l := M) (i := q) (by omega))
  have e1 : keyM M k = getz M k := by unfold keyM; rw [Int.toNat_natCast]
  have e2 : keyM M q = getz M q := by unfold keyM; rw [Int.toNat_natCast]
  rw [e1, e2]
  generalize getz M k = u at g1 b1
  generalize getz M q = v at g2 b2
  refine SpecP.body I_way_Way_Row_1 tabOK Tryz.func182 rfl Tryz.call182 (by show 3 ≤ _; decide) ?_
  conv => whnf
  repeat' ((first | (refine DrawK.auto tabOK mixed (by kernel_rfl) ?_) | (refine Wr.i64 (by omega) (by omega) ?_) | (refine IdxK.at (k := q) rfl g2 rfl ?_) | (refine IdxK.at (k := k) rfl g1 rfl ?_)); conv => whnf)
  exact RetK.int rfl
 ·unfold keyM
  rcases Nat.lt_or_ge x.toNat M.length with h | h
  ·exact hM _ (getz_mem h)
  ·unfold getz
   rw [List.getD_eq_getElem?_getD, List.getElem?_eq_none h]
   exact ⟨Int.le_refl _, by decide⟩
def folL (fm : List (List Bool)) (a j : Nat) : List Int := ((List.range j).filter fun b => bitF fm a b).map fun (b : Nat) => (b : Int)
theorem folL_succ (fm : List (List Bool)) (a j : Nat) : folL fm a (j + 1) = folL fm a j ++ (if bitF fm a j then [(j : Int)] else []) := by
 unfold folL
 rw [List.range_succ, List.filter_append, List.map_append]
 congr 1
 cases h : bitF fm a j <;> simp [h]
theorem folL_len (fm : List (List Bool)) (a j : Nat) : (folL fm a j).length ≤ j := by
 unfold folL
 rw [List.length_map]
 exact Nat.le_trans (List.length_filter_le _ _) (by simp)
def mnyL (fm : List (List Bool)) (a n j : Nat) : List Int := (List.range n).map fun b => if b < j ∧ bitF fm a b = true then (((fm.getD b []).count true : Nat) : Int) else 0
theorem mnyL_len (fm : List (List Bool)) (a n j : Nat) : (mnyL fm a n j).length = n := by unfold mnyL; simp
theorem mnyL_get {fm : List (List Bool)} {a n j b : Nat} (hb : b < n) : (mnyL fm a n j)[b]? = some (if b < j ∧ bitF fm a b = true then (((fm.getD b []).count true : Nat) : Int) else 0) := by
 unfold mnyL
 rw [List.getElem?_map, List.getElem?_range hb]
 rfl
theorem mnyL_no {fm : List (List Bool)} {a n j : Nat} (h : bitF fm a j = false) : mnyL fm a n (j + 1) = mnyL fm a n j := by
 unfold mnyL
 refine List.map_congr_left fun b _ => ?_
 by_cases he : b = j
 ·subst he
  rw [if_neg (fun hh => by rw [h] at hh; cases hh.2), if_neg (fun hh => by rw [h] at hh; cases hh.2)]
 ·have : (b < j + 1 ∧ bitF fm a b = true) ↔ (b < j ∧ bitF fm a b = true) := by
   constructor
   ·exact fun hh => ⟨by omega, hh.2⟩
   ·exact fun hh => ⟨by omega, hh.2⟩
  by_cases hc : b < j ∧ bitF fm a b = true
  ·rw [if_pos hc, if_pos (this.2 hc)]
  ·rw [if_neg hc, if_neg (fun hh => hc (this.1 hh))]
theorem mnyL_yes {fm : List (List Bool)} {a n j : Nat} (hj : j < n) (h : bitF fm a j = true) : (mnyL fm a n j).set j (((fm.getD j []).count true : Nat) : Int) = mnyL fm a n (j + 1) := by
 refine List.ext_getElem? fun b => ?_
 rw [List.getElem?_set]
 by_cases he : j = b
 ·subst he
  rw [if_pos rfl, if_pos (by rw [mnyL_len]; exact hj), mnyL_get hj, if_pos ⟨by omega, h⟩]
 ·rw [if_neg he]
  rcases Nat.lt_or_ge b n with hb | hb
  ·rw [mnyL_get hb, mnyL_get hb]
   have : (b < j + 1 ∧ bitF fm a b = true) ↔ (b < j ∧ bitF fm a b = true) := by
    constructor
    ·exact fun hh => ⟨by omega, hh.2⟩
    ·exact fun hh => ⟨by omega, hh.2⟩
   by_cases hc : b < j ∧ bitF fm a b = true
   ·rw [if_pos hc, if_pos (this.2 hc)]
   ·rw [if_neg hc, if_neg (fun hh => hc (this.1 hh))]
  ·rw [List.getElem?_eq_none (by rw [mnyL_len]; exact hb), List.getElem?_eq_none (by rw [mnyL_len]; exact hb)]
theorem mnyL_zero (fm : List (List Bool)) (a n : Nat) : mnyL fm a n 0 = List.replicate n 0 := by
 refine List.ext_getElem? fun b => ?_
 rcases Nat.lt_or_ge b n with hb | hb
 ·rw [mnyL_get hb, if_neg (by omega), List.getElem?_replicate, if_pos hb]
 ·rw [List.getElem?_eq_none (by rw [mnyL_len]; exact hb), List.getElem?_eq_none (by simpa using hb)]
def rwSt (w : Way) (fm : List (List Bool)) (a n j : Nat) : St := ⟨[(0, .p (.ip w.cells)), (1, .p (.sl ((bmI fm).map .sl))), (7, .hd 2 0 (folL fm a j).length), (8, .ptr 1 0), (21, .p (.sl ((fm.getD a []).map bv))), (22, .p (.int .i64 ((fm.getD a []).map bv).length)), (23, .p (.int .i64 j))], [(1, .obj 36 [.hd 0 0 n]), (0, .own 3 1 ((mnyL fm a n j).map (.int .i64))), (2, .own 3 1 ((folL fm a j).map (.int .i64)))]⟩
def rwFz (w : Way) (fm : List (List Bool)) (a n j : Nat) : St := ⟨[(0, .p (.ip w.cells)), (1, .p (.sl ((bmI fm).map .sl))), (7, .hd 2 0 (folL fm a j).length), (8, .p (.ip [eInts (mnyL fm a n j)])), (21, .p (.sl ((fm.getD a []).map bv))), (22, .p (.int .i64 ((fm.getD a []).map bv).length)), (23, .p (.int .i64 j))], [(2, .own 3 1 ((folL fm a j).map (.int .i64)))]⟩
theorem rw_fz {N : Nat} (w : Way) (fm : List (List Bool)) (a n j : Nat) : Le N (rwSt w fm a n j) (rwFz w fm a n j) := by
 have hm := mnyL_len fm a n j
 have h1 : Le N (rwSt w fm a n j) ⟨(rwSt w fm a n j).sl, [(1, .obj 36 ([eInts (mnyL fm a n j)].map .p)), (2, .own 3 1 ((folL fm a j).map (.int .i64)))]⟩ := by
  refine Le.rowObj (k := 0) (q := 1) (cs := [eInts (mnyL fm a n j)]) rfl rfl rfl (fun i l c h1 h2 => ?_) (fun i => ?_) ?_ fun i c' hm => ?_
  ·match i, h1, h2 with
   | 0, h1, h2 => cases h1; cases h2; exact .inr ⟨_, rfl, by rw [List.length_map, hm], rfl⟩
   | i + 1, h1, h2 => simp at h1
  ·refine getS_kill (fun x hx => ?_) i
   simp only [rwSt, List.mem_cons, List.not_mem_nil, or_false] at hx
   rcases hx with rfl | rfl | rfl | rfl | rfl | rfl | rfl <;> rfl
  ·show [1, 2].Sublist [1, 0, 2]
   decide
  ·simp only [List.mem_cons, List.not_mem_nil, or_false, Prod.mk.injEq] at hm
   rcases hm with ⟨rfl, rfl⟩ | ⟨rfl, rfl⟩
   ·exact ⟨by decide, .inl ⟨rfl, rfl⟩⟩
   ·exact ⟨by decide, .inr ⟨List.mem_cons_of_mem _ (List.mem_cons_of_mem _ List.mem_cons_self), rfl⟩⟩
 obtain ⟨s', hs', h2⟩ := Le.fz (N := N) (s := ⟨(rwSt w fm a n j).sl, [(1, .obj 36 ([eInts (mnyL fm a n j)].map .p)), (2, .own 3 1 ((folL fm a j).map (.int .i64)))]⟩) (k := 1) (e := 36) (cs := [eInts (mnyL fm a n j)]) rfl (K := fun s' => s' = rwFz w fm a n j) rfl
 rw [hs'] at h2
 exact h1.trans h2
theorem way_Way_Row (w : Way) (f : Pr) (hj : w.p.procs[w.j]? = some f) (hc : cntP w.p.procs ≤ 1000) (n : Nat) (hw : w.n = n) (hn : 2 ≤ n) (hn5 : n ≤ 5000) (fm : List (List Bool)) (hF : DimB n fm) (a : Nat) (ha : a < n) : SpecP Tryz.prog 125 [.ip w.cells, .sl ((bmI fm).map .sl), .int .i64 a] (fun r => ∃ es : List Int, r = eInts (es.map (placeI w.p w.j w.n)) ∧ es.Perm (folL fm a n) ∧ srt (keyM (mnyL fm a n n)) es 0 es.length) := by
 refine SpecP.body I_way_Way_Row tabOK Tryz.func125 rfl Tryz.call125 (by show 3 ≤ _; decide) ?_
 conv => whnf
 obtain ⟨s1, s2⟩ := hF.row ha
 have hr1 : ((bmI fm).map AV.sl)[a]? = some (.sl ((fm.getD a []).map bv)) := by rw [List.getElem?_map, s1]; rfl
 repeat' ((first | (intro (_ : _ ≤ 9223372036854775807)) | (refine And.intro rfl ?_) | (refine And.intro ⟨rfl, rfl, by decide⟩ ?_) | (refine MkK.mk n (by omega) (by show 8 * _ ≤ 140737488355328; omega) (by unfold maxLen; omega) ?_) | (refine IdxK.at (k := a) rfl hr1 rfl ?_)); conv => whnf)
 refine LoopK.inv tabOK (fun x : Nat × Bool => if x.2 then rwFz w fm a n x.1 else rwSt w fm a n x.1) (fun x => x.1 ≤ n ∧ (x.2 = false → x.1 < n) ∧ (x.2 = true → x.1 = n)) (fun x => n - x.1) (0, false)
  (Le.mk [(2, .own 3 1 [])] (by simp [Chunk.new0]; rfl) (by simp) (by simp) (.cons (.refl _) (.cons (.refl _) (.cons (.nil List.mem_cons_self) (.cons (.refl _) (.cons (.refl _) (.cons (.refl _) (.cons (.of_eq rfl) .nil))))))) (.cons rfl (.obj (.cons (.refl _) .nil)) (.cons rfl (.of_eq (by rw [mnyL_zero, List.map_replicate]; rfl)) (.new List.mem_cons_self .nil))))
  ⟨Nat.zero_le _, fun _ => by simp only; omega, fun h => by cases h⟩ ?_
 rintro ⟨j, m⟩ ⟨h2, h3, h4⟩
 simp only at h2 h3 h4
 cases m with
 | false =>
   have hj1 := h3 rfl
   have e1 := hF.bit ha hj1
   obtain ⟨u1, u2⟩ := hF.row hj1
   have hr2 : ((bmI fm).map AV.sl)[j]? = some (.sl ((fm.getD j []).map bv)) := by rw [List.getElem?_map, u1]; rfl
   have fin : ∃ x : Nat × Bool, (x.1 ≤ n ∧ (x.2 = false → x.1 < n) ∧ (x.2 = true → x.1 = n)) ∧ n - x.1 < n - j ∧ Le Tryz.f125.ntmps (rwSt w fm a n (j + 1)) (if x.2 then rwFz w fm a n x.1 else rwSt w fm a n x.1) := by
    rcases Nat.lt_or_ge (j + 1) n with hj2 | hj2
    ·exact ⟨(j + 1, false), ⟨by simp only; omega, fun _ => hj2, fun h => by cases h⟩, by simp only; omega, Le.of_eq rfl⟩
    ·exact ⟨(j + 1, true), ⟨by simp only; omega, (fun h => by cases h), fun _ => by simp only; omega⟩, by simp only; omega, rw_fz w fm a n (j + 1)⟩
   obtain ⟨x, hx1, hx2, hx3⟩ := fin
   have hsucc := folL_succ fm a j
   have hfl := folL_len fm a j
   have hyes := fun h => mnyL_yes (fm := fm) (a := a) hj1 h
   have hno := fun h => mnyL_no (fm := fm) (a := a) (n := n) (j := j) h
   have hml := mnyL_len fm a n j
   have hmg := mnyL_get (fm := fm) (a := a) (j := j) hj1
   rw [if_neg (fun h => by omega)] at hmg
   have hSz := way_size (fm.getD j []) (by rw [List.length_map] at u2; omega)
   unfold rwSt at hx3 ⊢
   rw [hsucc] at hx3
   generalize mnyL fm a n (j + 1) = mn2 at hx3 hyes hno
   generalize mnyL fm a n j = mn at hyes hno hml hmg ⊢
   generalize folL fm a j = fl at hx3 hfl ⊢
   generalize (fm.getD j []).count true = cn at hyes hSz
   have hmg2 := row_get hmg
   cases hv : bitF fm a j with
   | true =>
     have hyes := hyes hv
     rw [hv] at e1
     rw [hv, if_pos rfl] at hx3
     simp only [Bool.false_eq_true, if_false]
     conv => whnf
     repeat' (first | ((first | (refine And.intro rfl ?_) | (refine And.intro ⟨by decide, by decide⟩ ?_) | (refine BsK.pure (fun x hx => by rcases List.mem_singleton.1 hx with rfl; rfl) rfl ?_) | (refine Wr.i64 (by omega) (by omega) ?_) | (refine DrawK.of tabOK mixed (.cons 1 false (.cons 2 false (.cons 3 false (.cons 4 false (.cons 5 false (.fork 0 (.cons 6 true (.cons 7 true (.cons 8 true .nil))) 6 (.cons 0 true (.cons 7 true (.cons 8 true .nil))))))))) (by kernel_rfl) ?_) | (refine IdxK.at (k := j) rfl e1 rfl ?_) | (refine IdxK.at (k := j) rfl hr2 rfl ?_) | (refine AppK.int1 (by simp) (by simp; omega) ?_) | (refine IdxL.mk j rfl (by omega) ?_) | (refine CallK.pure hSz (.cons (Sub.refl _) .nil) ?_; rintro _ rfl) | (refine StOwn.mk j 0 _ (.int .i64 cn) (by omega) hmg2 (Nat.le_refl _) rfl ?_)); conv => whnf) | (refine Br.dec (fun _ => ?_) (fun _ => ?_) <;> first | (exfalso; omega) | conv => whnf) | (refine And.intro ?_ ?_ <;> conv => whnf))
     all_goals first
      | exact ⟨x, hx1, hx2, Le.trans (Le.of_eq (by rw [← hyes, List.map_set]; simp only [List.length_append, List.map_append, List.length_map]; rfl)) hx3⟩
      | skip
   | false =>
     have hno := hno hv
     rw [hv] at e1
     rw [hv, if_neg (by decide), List.append_nil, hno] at hx3
     simp only [Bool.false_eq_true, if_false]
     conv => whnf
     repeat' (first | ((first | (refine Wr.i64 (by omega) (by omega) ?_) | (refine IdxK.at (k := j) rfl e1 rfl ?_)); conv => whnf) | (refine Br.dec (fun _ => ?_) (fun _ => ?_) <;> first | (exfalso; omega) | conv => whnf))
     all_goals first
      | exact ⟨x, hx1, hx2, hx3⟩
      | (exfalso; simp_all; done)
      | skip
 | true =>
   have hje := h4 rfl
   subst hje
   simp only [if_true]
   unfold rwFz
   have hml := mnyL_len fm a j j
   have hmr : ∀ x ∈ mnyL fm a j j, 0 ≤ x ∧ x ≤ 1000000 := fun x hx => by
    obtain ⟨b, hb, rfl⟩ := List.mem_map.1 hx
    rw [List.mem_range] at hb
    obtain ⟨_, u2⟩ := hF.row hb
    rw [List.length_map] at u2
    have := List.count_le_length (a := true) (l := fm.getD b [])
    split <;> omega
   have hfl := folL_len fm a j
   have hfm : ∀ x ∈ folL fm a j, 0 ≤ x ∧ x < ((mnyL fm a j j).length : Int) := fun x hx => by
    obtain ⟨b, hb, rfl⟩ := List.mem_map.1 hx
    have := List.mem_range.1 (List.mem_filter.1 hb).1
    omega
   have hS := sortStable_spec (row1_cmp hmr) (folL fm a j) (folL fm a j).length rfl (by omega) hfm
   conv => whnf
   repeat' (first | ((first | (intro (_ : _ ≤ 9223372036854775807)) | (refine CallK.heap [(1000, 2)] 5 (ArgsH.cons (LSub.refl _) (ArgsH.cons (LSub.refl _) ArgsH.nil)) (by refine BlksH.cons (j := 2) rfl rfl ?_ ?_; exact CSub.refl _; exact BlksH.nil) hS rfl rfl ?_; rintro l' H' ⟨rfl, es, rfl, p1, s1⟩)); conv => whnf) | (refine Br.dec (fun _ => ?_) (fun _ => ?_) <;> first | (exfalso; omega) | conv => whnf))
   have hel := p1.len.1
   have hpm := p1.perm
   have hin : ∀ x ∈ es, 0 ≤ x ∧ x < (j : Int) := fun x hx => by
    have := hfm x (hpm.mem_iff.1 hx)
    omega
   generalize folL fm a j = fl at hel hfl hpm s1 ⊢
   generalize hplc : placeI w.p w.j w.n = plc
   refine LoopK.inv tabOK (fun i : Nat => ⟨[(0, .p (.ip w.cells)), (7, .hd 2 0 fl.length), (45, .hd 2 0 fl.length), (46, .p (.int .i64 fl.length)), (47, .p (.int .i64 i))], [(2, .own 3 1 (((es.take i).map plc ++ es.drop i).map (.int .i64)))]⟩) (fun i => i ≤ es.length) (fun i => es.length - i) 0 (Le.of_eq rfl) (Nat.zero_le _) ?_
   intro i hi
   rcases Nat.lt_or_ge i es.length with hi2 | hi2
   ·have tl : ((es.take i).map plc).length = i := by rw [List.length_map, List.length_take]; omega
    have hd : es.drop i = es[i] :: es.drop (i + 1) := List.drop_eq_getElem_cons hi2
    have hrow : (es.take i).map plc ++ es.drop i = (es.take i).map plc ++ es[i] :: es.drop (i + 1) := by rw [hd]
    have g1 : (((es.take i).map plc ++ es.drop i).map (AV.int .i64))[i]? = some (.int .i64 es[i]) := by
     rw [List.getElem?_map, List.getElem?_append_right (by omega), tl, Nat.sub_self, hd]
     rfl
    have hst : ((es.take i).map plc ++ es.drop i).set i (plc es[i]) = (es.take (i + 1)).map plc ++ es.drop (i + 1) := by
     rw [hrow, set_mid _ _ _ _ tl.symm, List.take_succ_eq_append_getElem hi2, List.map_append, List.append_assoc]
     rfl
    have hr := hin _ (List.getElem_mem hi2)
    have hP := way_Way_Place w f hj hc (by omega) es[i] (by omega)
    rw [hplc] at hP
    generalize (es.take i).map plc ++ es.drop i = row at g1 hst ⊢
    generalize es[i] = x at g1 hst hP
    conv => whnf
    repeat' (first | ((first | (refine And.intro rfl ?_) | (refine Wr.i64 (by omega) (by omega) ?_) | (refine IdxL.mk i rfl (by omega) ?_) | (refine LdOwn.mk i 0 _ (by omega) g1 ?_) | (refine CallK.pure hP (.cons (Sub.refl _) (.cons (Sub.refl _) .nil)) ?_; rintro _ rfl) | (refine StOwn.mk i 0 _ (.int .i64 (plc x)) (by omega) g1 (Nat.le_refl _) rfl ?_)); conv => whnf) | (refine Br.dec (fun _ => ?_) (fun _ => ?_) <;> first | (exfalso; omega) | conv => whnf))
    all_goals first
     | (exfalso; omega)
     | exact ⟨i + 1, by omega, by omega, Le.of_eq (by rw [← hst, List.map_set]; rfl)⟩
     | skip
   ·rw [List.take_of_length_le hi2, List.drop_of_length_le hi2, List.append_nil]
    conv => whnf
    repeat' (refine Br.dec (fun _ => ?_) (fun _ => ?_) <;> first | (exfalso; omega) | conv => whnf)
    all_goals first
     | (exfalso; omega)
     | exact ⟨_, .hd rfl (by simp [hel]), es, rfl, hpm, by rw [hel]; exact s1⟩
     | skip
open Go.Proofs
theorem perm_chain {R : Int → Int → Prop} (anti : ∀ a b, R a b → R b a → a = b) : ∀ {l m : List Int}, l.Perm m → l.Nodup → l.Pairwise R → m.Pairwise R → l = m
 | [], m, h, _, _, _ => (List.nil_perm.1 h).symm
 | a :: l, [], h, _, _, _ => absurd h.length_eq (by simp)
 | a :: l, b :: m, h, hn, hl, hm => by
   rw [List.pairwise_cons] at hl hm
   have hab : a = b := by
    rcases List.mem_cons.1 (h.mem_iff.1 List.mem_cons_self) with h1 | h1
    ·exact h1
    rcases List.mem_cons.1 (h.mem_iff.2 List.mem_cons_self) with h2 | h2
    ·exact h2.symm
    exact anti a b (hl.1 b h2) (hm.1 a h1)
   subst hab
   rw [perm_chain anti (List.Perm.cons_inv h) (List.nodup_cons.1 hn).2 hl.2 hm.2]
theorem avd_mid {R : Int → Int → Prop} {b c a : Int} (h : AvdP R c a) : AvdP R b a ∨ AvdP R c b := by
 induction h with
 | exit h =>
   by_cases hb : b = -1
   ·rw [hb]; exact .inr (.exit h)
   ·exact .inl (.exit hb)
 | @step a t hac hs h ih =>
   by_cases hab : a = b
   ·subst hab
    exact .inr (.step hac hs h)
   ·rcases ih with ih | ih
    ·exact .inl (.step hab hs ih)
    ·exact .inr ih
inductive ToX (R : Int → Int → Prop) : Int → Prop
 | exit : ToX R (-1)
 | step {a t : Int} (hs : R a t) (h : ToX R t) : ToX R a
theorem toX_of {R : Int → Int → Prop} {a : Int} (h : Rch R a (-1)) : ToX R a := by
 have key : ∀ {x y : Int}, Rch R x y → ToX R y → ToX R x := fun {x y} hr => by
  induction hr with
  | refl => exact fun h => h
  | tail _ h2 ih => exact fun h => ih (.step h2 h)
 exact key h .exit
theorem fol_total {R : Int → Int → Prop} {b c : Int} (hne : b ≠ c) (hb : AvdP R c b) (hc : AvdP R b c) {x : Int} (h : ToX R x) : AvdP R b x ∨ AvdP R c x := by
 induction h with
 | exit =>
   by_cases he : b = -1
   ·exact .inr (.exit fun e => hne (by rw [he, e]))
   ·exact .inl (.exit he)
 | @step a t hs _ ih =>
   by_cases h1 : a = b
   ·subst h1; exact .inr hb
   ·by_cases h2 : a = c
    ·subst h2; exact .inl hc
    ·rcases ih with ih | ih
     ·exact .inl (.step h1 hs ih)
     ·exact .inr (.step h2 hs ih)
theorem avd_both {R : Int → Int → Prop} {b c : Int} (hc : ¬ AvdP R b c) (hcx : c ≠ -1) {x : Int} (h : AvdP R b x) : AvdP R c x := by
 induction h with
 | exit h => exact .exit hcx
 | @step a t hab hs h ih => exact .step (fun e => hc (by subst e; exact .step hab hs h)) hs ih
theorem fol_anti {R : Int → Int → Prop} {b c : Int} (hb : ¬ AvdP R c b) (hc : ¬ AvdP R b c) (hx : ToX R b) : b = c := by
 refine Classical.byContradiction fun hne => ?_
 by_cases hcx : c = -1
 ·subst hcx
  exact hc (.exit hne)
 by_cases hbx : b = -1
 ·subst hbx
  exact hb (.exit hcx)
 have key : ∀ {x : Int}, ToX R x → AvdP R c x := fun {x} h => by
  induction h with
  | exit => exact .exit hcx
  | @step a t hs _ ih =>
    by_cases h2 : a = c
    ·subst h2
     have ih2 := avd_both hb hbx ih
     exact absurd (.step (fun e => hne e.symm) hs ih2) hc
    ·exact .step h2 hs ih
 exact hb (key hx)
section
variable {p : Pg} {j : Nat} {f : Pr}
theorem aug_exit (h : chkB p = true) (hj : p.procs[j]? = some f) {x : Int} (hx : plP p j f x) : ToX (aR p j f) x := by
 refine toX_of ((data_exit h hj hx).mono fun a b ⟨s, hs, h1, h2⟩ => ?_)
 rcases List.mem_append.1 ((normS_gen (data_ok h hj)).2.1 s hs) with h3 | h3
 ·obtain ⟨l, hl, t, ht, hid, hk, rfl⟩ := (virt_mem h hj).1 h3
  exact (aR_iff h hj).2 (.inr (.inr (.inl ⟨l, hl, t, ht, hid, hk, h1.symm, h2.symm⟩)))
 ·exact (aR_iff h hj).2 (.inl ⟨s, h3, h1, h2⟩)
theorem folP.self (b : Int) : folP p j f b b := avd_no_self
theorem folP.exit (a : Int) (h : ToX (aR p j f) a) : folP p j f a (-1) := fun ha => by
 clear h
 have key : ∀ {b x : Int}, b = -1 → ¬ AvdP (aR p j f) b x := fun {b x} hb ha => by
  induction ha with
  | exit h => exact h hb
  | step _ _ _ ih => exact ih
 exact key rfl ha
theorem folP.trans {a b c : Int} (h1 : folP p j f a b) (h2 : folP p j f b c) : folP p j f a c := fun h => by
 rcases avd_mid (b := b) h with h3 | h3
 ·exact h1 h3
 ·exact h2 h3
theorem folP.anti (h : chkB p = true) (hj : p.procs[j]? = some f) {b c : Int} (hb : plP p j f b) (h1 : folP p j f b c) (h2 : folP p j f c b) : b = c := fol_anti h1 h2 (aug_exit h hj hb)
theorem folP.total (h : chkB p = true) (hj : p.procs[j]? = some f) {a b c : Int} (ha : plP p j f a) (h1 : folP p j f a b) (h2 : folP p j f a c) : folP p j f b c ∨ folP p j f c b := by
 refine Classical.byContradiction fun hno => ?_
 rw [not_or] at hno
 have hb := Classical.not_not.1 hno.1
 have hc := Classical.not_not.1 hno.2
 have hne : b ≠ c := fun e => hno.1 (by rw [e]; exact folP.self c)
 rcases fol_total hne hb hc (aug_exit h hj ha) with h3 | h3
 ·exact h1 h3
 ·exact h2 h3
structure RowP (p : Pg) (j : Nat) (f : Pr) (a : Int) (l : List Int) : Prop where
 mem : ∀ y, y ∈ l ↔ plP p j f y ∧ folP p j f a y
 nd : l.Nodup
 chain : l.Pairwise (folP p j f)
theorem RowP.uniq (h : chkB p = true) (hj : p.procs[j]? = some f) {a : Int} {l m : List Int} (hl : RowP p j f a l) (hm : RowP p j f a m) : l = m := by
 have hp : l.Perm m := (List.perm_iff_count.2 fun x => by
  by_cases hx : x ∈ l
  ·rw [List.Nodup.count hl.nd, if_pos hx, List.Nodup.count hm.nd, if_pos ((hm.mem x).2 ((hl.mem x).1 hx))]
  ·rw [List.Nodup.count hl.nd, if_neg hx, List.Nodup.count hm.nd, if_neg (fun h => hx ((hl.mem x).2 ((hm.mem x).1 h)))])
 have := perm_chain (R := fun x y => plP p j f x ∧ plP p j f y ∧ folP p j f x y) (fun x y h1 h2 => folP.anti h hj h1.1 h1.2.2 h2.2.2) hp hl.nd
  (hl.chain.imp_of_mem fun {x y} hx hy hxy => ⟨((hl.mem x).1 hx).1, ((hl.mem y).1 hy).1, hxy⟩) (hm.chain.imp_of_mem fun {x y} hx hy hxy => ⟨((hm.mem x).1 hx).1, ((hm.mem y).1 hy).1, hxy⟩)
 exact this
theorem srt_pair {K : Int → Int} : ∀ {l : List Int}, srt K l 0 l.length → l.Pairwise fun x y => K y ≤ K x
 | [], _ => .nil
 | a :: l, h => by
   refine List.pairwise_cons.2 ⟨fun b hb => ?_, srt_pair fun i k h1 h2 h3 => ?_⟩
   ·obtain ⟨i, hi, rfl⟩ := List.mem_iff_getElem.1 hb
    have := h 0 (i + 1) (Nat.le_refl _) (by omega) (by simpa using hi)
    have e : getz (a :: l) (i + 1) = l[i] := by
     unfold getz
     rw [List.getD_cons_succ, List.getD_eq_getElem?_getD, List.getElem?_eq_getElem hi]
     rfl
    rw [e] at this
    exact this
   ·exact h (i + 1) (k + 1) (Nat.zero_le _) (by omega) (by simpa using h3)
theorem row_of (h : chkB p = true) (hj : p.procs[j]? = some f) {fm : List (List Bool)} (hF : FollowP (cntL f.body + 2) (nextR (cntL f.body + 2) (prsA (newWay p j f) f)) fm) {a : Int} (ha : plP p j f a) {es : List Int}
  (hp : es.Perm (folL fm (ixI p j f a).toNat (cntL f.body + 2))) (hs : srt (keyM (mnyL fm (ixI p j f a).toNat (cntL f.body + 2) (cntL f.body + 2))) es 0 es.length) : RowP p j f a (es.map (placeI p j (cntL f.body + 2 : Nat))) := by
 have hra := ix_rng ha
 have hmem : ∀ x : Int, x ∈ es ↔ ∃ b : Nat, b < cntL f.body + 2 ∧ bitF fm (ixI p j f a).toNat b = true ∧ x = b := fun x => by
  rw [hp.mem_iff]
  unfold folL
  rw [List.mem_map]
  constructor
  ·rintro ⟨b, hb, rfl⟩
   obtain ⟨h1, h2⟩ := List.mem_filter.1 hb
   exact ⟨b, List.mem_range.1 h1, h2, rfl⟩
  ·rintro ⟨b, h1, h2, rfl⟩
   exact ⟨b, List.mem_filter.2 ⟨List.mem_range.2 h1, h2⟩, rfl⟩
 have hplc : ∀ x ∈ es, plP p j f (placeI p j (cntL f.body + 2 : Nat) x) ∧ ixI p j f (placeI p j (cntL f.body + 2 : Nat) x) = x ∧ 0 ≤ x ∧ x < (cntL f.body + 2 : Nat) := fun x hx => by
  obtain ⟨b, h1, _, rfl⟩ := (hmem x).1 hx
  obtain ⟨q1, q2⟩ := ix_place (p := p) (j := j) (f := f) (i := (b : Int)) (by omega)
  exact ⟨q1, q2, by omega, by omega⟩
 have hfol : ∀ x ∈ es, folP p j f a (placeI p j (cntL f.body + 2 : Nat) x) := fun x hx => by
  obtain ⟨b, h1, h2, rfl⟩ := (hmem x).1 hx
  obtain ⟨q1, q2, _⟩ := hplc _ hx
  refine (fol_bit h hj hF ha q1).1 ?_
  rw [q2, Int.toNat_natCast]
  exact h2
 have hnd : es.Nodup := by
  rw [hp.nodup_iff]
  unfold folL
  show List.Pairwise _ _
  rw [List.pairwise_map]
  exact (List.Pairwise.filter _ List.nodup_range).imp fun hne he => hne (by omega)
 have hndm : (es.map (placeI p j (cntL f.body + 2 : Nat))).Nodup := by
  show List.Pairwise _ _
  rw [List.pairwise_map]
  refine hnd.imp_of_mem fun {x y} hx hy hne he => hne ?_
  rw [← (hplc x hx).2.1, ← (hplc y hy).2.1, he]
 have hkey : ∀ x ∈ es, keyM (mnyL fm (ixI p j f a).toNat (cntL f.body + 2) (cntL f.body + 2)) x = (((fm.getD x.toNat []).count true : Nat) : Int) := fun x hx => by
  obtain ⟨b, h1, h2, rfl⟩ := (hmem x).1 hx
  unfold keyM getz
  rw [Int.toNat_natCast, List.getD_eq_getElem?_getD, mnyL_get h1, if_pos ⟨h1, h2⟩]
  rfl
 refine ⟨fun y => ?_, hndm, ?_⟩
 ·rw [List.mem_map]
  constructor
  ·rintro ⟨x, hx, rfl⟩
   exact ⟨(hplc x hx).1, hfol x hx⟩
  ·rintro ⟨h1, h2⟩
   have hr := ix_rng h1
   have hb := (fol_bit h hj hF ha h1).2 h2
   refine ⟨ixI p j f y, (hmem _).2 ⟨(ixI p j f y).toNat, by omega, hb, by omega⟩, place_ix h1⟩
 ·rw [List.pairwise_map]
  refine (List.pairwise_and_iff.2 ⟨srt_pair hs, hnd⟩).imp_of_mem fun {x y} hx hy hxy => ?_
  obtain ⟨hk, hne⟩ := hxy
  rw [hkey x hx, hkey y hy] at hk
  obtain ⟨px, ix, x0, x1⟩ := hplc x hx
  obtain ⟨py, iy, y0, y1⟩ := hplc y hy
  rcases folP.total h hj ha (hfol x hx) (hfol y hy) with h1 | h1
  ·exact h1
  ·exfalso
   have hrow : ∀ z : Int, 0 ≤ z → z < (cntL f.body + 2 : Nat) → (fm.getD z.toNat []).length = cntL f.body + 2 := fun z z0 z1 => by
    have hl := hF.inv.len
    rw [List.getD_eq_getElem?_getD, List.getElem?_eq_getElem (by omega)]
    exact hF.inv.rows _ (List.getElem_mem _)
   have hlt := count_lt (r := fm.getD x.toNat []) (s := fm.getD y.toNat []) (by rw [hrow x x0 x1, hrow y y0 y1]) (fun b hb => by
    rcases Nat.lt_or_ge b (cntL f.body + 2) with hbn | hbn
    ·obtain ⟨q1, q2⟩ := ix_place (p := p) (j := j) (f := f) (i := (b : Int)) (by omega)
     have h3 : folP p j f (placeI p j (cntL f.body + 2 : Nat) x) (placeI p j (cntL f.body + 2 : Nat) b) := (fol_bit h hj hF px q1).1 (by rw [ix, q2, Int.toNat_natCast]; exact hb)
     have h4 := (fol_bit h hj hF py q1).2 (h1.trans h3)
     rw [iy, q2, Int.toNat_natCast] at h4
     exact h4
    ·rw [List.getD_eq_getElem?_getD, List.getElem?_eq_none (by rw [hrow x x0 x1]; exact hbn)] at hb
     cases hb) (fun he => by
    have h3 := (fol_bit h hj hF py py).2 (folP.self _)
    have h4 : bitF fm (ixI p j f (placeI p j (cntL f.body + 2 : Nat) x)).toNat (ixI p j f (placeI p j (cntL f.body + 2 : Nat) y)).toNat = true := by
     rw [ix, iy] at *
     unfold bitF at h3 ⊢
     rw [he]
     exact h3
    have h5 := (fol_bit h hj hF px py).1 h4
    have h6 := folP.anti h hj px h5 h1
    rw [← ix, ← iy, h6] at hne
    exact hne rfl)
   omega
noncomputable def folR (p : Pg) (j : Nat) (f : Pr) (a : Int) : List Int := @Classical.epsilon _ ⟨[]⟩ (RowP p j f a)
theorem RowP.eq (h : chkB p = true) (hj : p.procs[j]? = some f) {a : Int} {l : List Int} (hl : RowP p j f a l) : l = folR p j f a := hl.uniq h hj (Classical.epsilon_spec (p := RowP p j f a) ⟨l, hl⟩)
end
open Go.Proofs
theorem ix_neg {p : Pg} {j : Nat} {f : Pr} {x : Int} : 0 ≤ ixI p j f x ↔ plP p j f x := by
 constructor
 ·intro h
  unfold ixI indexI loI hiI at h
  unfold plP
  (repeat' split at h) <;> omega
 ·exact fun h => (ix_rng h).1
section
variable {p : Pg} {j : Nat} {f : Pr}
theorem folR_row (h : chkB p = true) (hj : p.procs[j]? = some f) {a : Int} (ha : plP p j f a) : RowP p j f a (folR p j f a) := by
 obtain ⟨fm, hF⟩ := follow_ex (n := cntL f.body + 2) (nextR_get (prsA_in h hj))
 have hra := ix_rng ha
 have hex : ∃ l, RowP p j f a l := by
  refine Classical.byContradiction fun hno => ?_
  have : ∀ (m : List Int), m.Nodup → (∀ y ∈ m, plP p j f y ∧ folP p j f a y) → ∃ l : List Int, l.Perm m ∧ l.Pairwise (folP p j f) := fun m => by
   induction m with
   | nil => exact fun _ _ => ⟨[], .refl _, .nil⟩
   | cons x m ih =>
     intro hn hm
     obtain ⟨l, hl, hc⟩ := ih (List.nodup_cons.1 hn).2 fun y hy => hm y (List.mem_cons_of_mem _ hy)
     have ins : ∀ (l : List Int), (∀ y ∈ l, plP p j f y ∧ folP p j f a y) → l.Pairwise (folP p j f) → ∃ l' : List Int, l'.Perm (x :: l) ∧ l'.Pairwise (folP p j f) := fun l => by
      induction l with
      | nil => exact fun _ _ => ⟨[x], .refl _, List.pairwise_singleton _ _⟩
      | cons y l ih2 =>
        intro hl hc
        rw [List.pairwise_cons] at hc
        have hx := hm x List.mem_cons_self
        have hy := hl y List.mem_cons_self
        rcases folP.total h hj ha hx.2 hy.2 with h1 | h1
        ·refine ⟨x :: y :: l, .refl _, List.pairwise_cons.2 ⟨fun z hz => ?_, List.pairwise_cons.2 hc⟩⟩
         rcases List.mem_cons.1 hz with rfl | hz
         ·exact h1
         ·exact h1.trans (hc.1 z hz)
        ·obtain ⟨l', hp, hc'⟩ := ih2 (fun z hz => hl z (List.mem_cons_of_mem _ hz)) hc.2
         refine ⟨y :: l', (hp.cons y).trans (.swap x y l), List.pairwise_cons.2 ⟨fun z hz => ?_, hc'⟩⟩
         rcases List.mem_cons.1 (hp.mem_iff.1 hz) with rfl | hz
         ·exact h1
         ·exact hc.1 z hz
     obtain ⟨l', hp, hc'⟩ := ins l (fun y hy => hm y (List.mem_cons_of_mem _ (hl.mem_iff.1 hy))) hc
     exact ⟨l', hp.trans (hl.cons x), hc'⟩
  obtain ⟨l, hl, hc⟩ := this ((plL p j f).filter fun y => @decide (folP p j f a y) (Classical.propDecidable _)) (by
   refine List.Pairwise.filter _ ?_
   unfold plL
   refine List.pairwise_cons.2 ⟨fun y hy => ?_, List.pairwise_cons.2 ⟨fun y hy => ?_, idsN_nodup _ _⟩⟩
   ·rcases List.mem_cons.1 hy with rfl | hy
    ·decide
    ·have := idsN_mem hy
     omega
   ·have := idsN_mem hy
    omega) (fun y hy => by
   obtain ⟨h1, h2⟩ := List.mem_filter.1 hy
   exact ⟨plL_mem.1 h1, (@decide_eq_true_iff _ (Classical.propDecidable _)).1 h2⟩)
  refine hno ⟨l, fun y => ?_, ?_, hc⟩
  ·rw [hl.mem_iff, List.mem_filter, plL_mem]
   exact and_congr_right fun _ => @decide_eq_true_iff _ (Classical.propDecidable _)
  ·rw [hl.nodup_iff]
   refine List.Pairwise.filter _ ?_
   unfold plL
   refine List.pairwise_cons.2 ⟨fun y hy => ?_, List.pairwise_cons.2 ⟨fun y hy => ?_, idsN_nodup _ _⟩⟩
   ·rcases List.mem_cons.1 hy with rfl | hy
    ·decide
    ·have := idsN_mem hy
     omega
   ·have := idsN_mem hy
    omega
 exact Classical.epsilon_spec (p := RowP p j f a) hex
end
theorem row_spec {p : Pg} {j : Nat} {f : Pr} (h : chkB p = true) (hj : p.procs[j]? = some f) {fm : List (List Bool)} (hF : FollowP (cntL f.body + 2) (nextR (cntL f.body + 2) (prsA (newWay p j f) f)) fm) {x : Int} (hx : plP p j f x) :
  SpecP Tryz.prog 125 [.ip (newWay p j f).cells, .sl ((bmI fm).map .sl), .int .i64 (ixI p j f x)] (fun r => r = eInts (folR p j f x)) := by
 have hT := wayT h hj
 have hr := ix_rng hx
 have := way_Way_Row (newWay p j f) f hT.hj hT.hc (cntL f.body + 2) hT.hw hT.hn2 hT.hn fm ⟨hF.inv.len, hF.inv.rows⟩ (ixI p j f x).toNat (by omega)
 rw [Int.toNat_of_nonneg hr.1] at this
 refine this.mono fun r hr => ?_
 obtain ⟨es, rfl, hp, hs⟩ := hr
 rw [← (row_of h hj hF hx hp hs).eq h hj]
 rfl
noncomputable def domO (p : Pg) (n : Str) (x : Int) : List Int := match wayO p n with
 | some w => (match w.p.procs[w.j]? with
   | some f => if 0 ≤ ixI w.p w.j f x then folR w.p w.j f x else []
   | none => [])
 | none => []
theorem domO_some {p : Pg} {n : Str} {k : Nat} {f : Pr} (hw : wayO p n = some (newWay p k f)) (hk : p.procs[k]? = some f) (x : Int) : domO p n x = if 0 ≤ ixI p k f x then folR p k f x else [] := by
 have h : (newWay p k f).p.procs[(newWay p k f).j]? = some f := hk
 unfold domO
 rw [hw]
 simp only
 rw [h]
 rfl
theorem domO_none {p : Pg} {n : Str} (hw : wayO p n = none) (x : Int) : domO p n x = [] := by
 unfold domO
 rw [hw]
theorem dom_Of (p : Pg) (hf : Fit p) (n : Str) (x : Int) : SpecP Tryz.prog 65 [.agg p.cells, .str n, .int .i64 x] (fun r => r = eInts (domO p n x)) := by
 refine SpecP.body I_dom_Of tabOK Tryz.func65 rfl Tryz.call65 (by show 3 ≤ _; decide) ?_
 conv => whnf
 have hW := way_Of p hf n
 cases hw : wayO p n with
 | none =>
   rw [domO_none hw]
   rw [hw] at hW
   repeat' (refine CallK.pure hW (.cons (Sub.refl _) (.cons (Sub.refl _) .nil)) ?_; rintro _ rfl; conv => whnf)
   exact ⟨_, .p Sub.nils, rfl⟩
 | some w =>
   obtain ⟨k, f, hkj, rfl, hc, _⟩ := wayO_some hw
   have hT := wayT hc hkj
   have hn2 := hT.hn2
   have hn5 := hT.hn
   have hwn := hT.hw
   have hI := way_Way_Index (newWay p k f) f hT.hj hT.hc (by omega) x
   have he : indexI (loI (newWay p k f).p (newWay p k f).j) (hiI (newWay p k f).p (newWay p k f).j f) (newWay p k f).n x = ixI p k f x := rfl
   rw [he] at hI
   rw [domO_some hw hkj]
   rw [hw] at hW
   have hFo := way_Way_Follow (newWay p k f) f (cntL f.body + 2) hT (prsA_in hc hkj) (Nat.le_trans (aug_len hc hkj) (by decide))
   have hR := fun fm hF (hx : 0 ≤ ixI p k f x) => row_spec hc hkj (fm := fm) hF (ix_neg.1 hx)
   generalize folR p k f x = L at hR ⊢
   generalize ixI p k f x = ix at hI hR ⊢
   by_cases hx : 0 ≤ ix
   ·rw [if_pos hx]
    repeat' (first | ((first | (refine CallK.pure hW (.cons (Sub.refl _) (.cons (Sub.refl _) .nil)) ?_; rintro _ rfl) | (refine CallK.pure hI (.cons (Sub.refl _) (.cons (Sub.refl _) .nil)) ?_; rintro _ rfl) | (refine CallK.pure hFo (.cons (Sub.refl _) .nil) ?_; rintro _ ⟨fm, hF, rfl⟩) | (refine CallK.pure (hR fm hF hx) (.cons (Sub.refl _) (.cons (Sub.refl _) (.cons (Sub.refl _) .nil))) ?_; rintro _ rfl)); conv => whnf) | (refine Br.dec (fun _ => ?_) (fun _ => ?_) <;> first | (exfalso; omega) | conv => whnf))
    all_goals first
     | (exfalso; omega)
     | exact RetK.p rfl
     | skip
   ·rw [if_neg hx]
    repeat' (first | ((first | (refine CallK.pure hW (.cons (Sub.refl _) (.cons (Sub.refl _) .nil)) ?_; rintro _ rfl) | (refine CallK.pure hI (.cons (Sub.refl _) (.cons (Sub.refl _) .nil)) ?_; rintro _ rfl)); conv => whnf) | (refine Br.dec (fun _ => ?_) (fun _ => ?_) <;> first | (exfalso; omega) | conv => whnf))
    all_goals first
     | (exfalso; omega)
     | exact ⟨_, .p Sub.nils, rfl⟩
     | skip
end Go.Ab
