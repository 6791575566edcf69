/- LAW: what follows what is one; by places: whoever is off a way to the exit. -/
import Derived.Test.YtneccajakpeodaaGreatCdpW16
import Derived.Test.YtneccajakpeodaaGreatCdpW17
set_option linter.unusedSimpArgs false
set_option linter.unusedVariables false
set_option maxRecDepth 100000
set_option maxHeartbeats 16000000
namespace Go.Ab
open Go.Proofs
theorem FollowP.no {n : Nat} {nx : List (List Int)} {fm : List (List Bool)} (h : FollowP n nx fm) {a b : Nat} (hb : b < n) (ha : Avd nx n b a) : bitF fm a b = false := by
 have big : ∀ c, n ≤ c → bitF fm c b = false := fun c hc => by
  unfold bitF
  rw [List.getD_eq_getElem?_getD (l := fm), List.getElem?_eq_none (by rw [h.inv.len]; exact hc)]
  rfl
 have last : n - 1 ≠ b → bitF fm (n - 1) b = false := fun hne => by
  unfold bitF
  rw [h.inv.last, filRow_get hb, decide_eq_false hne, decide_eq_false (by omega)]
  rfl
 induction ha with
 | exit he => exact last (Ne.symm he)
 | @step a t hab ht _ ih =>
   rcases Nat.lt_trichotomy a (n - 1) with hlt | heq | hgt
   ·have hbit : bitF fm a b = (rowF n nx fm a).getD b false := by
     unfold bitF
     rw [h.fix a hlt]
    rw [hbit, rowF_get hb, decide_eq_false hab]
    cases hs : sharedB fm (nx.getD a []) b with
    | false => rfl
    | true =>
      have := shared_iff.1 hs _ ht
      rw [Int.toNat_natCast, ih] at this
      cases this
   ·subst heq
    exact last hab
   ·exact big a (by omega)
theorem FollowP.iff {n : Nat} {nx : List (List Int)} {fm : List (List Bool)} (h : FollowP n nx fm) {a b : Nat} (ha : a < n) (hb : b < n) : bitF fm a b = true ↔ ¬ Avd nx n b a := by
 constructor
 ·intro h1 h2
  rw [h.no hb h2] at h1
  cases h1
 ·intro h1
  cases hq : bitF fm a b with
  | true => rfl
  | false => exact absurd (h.inv.min a b ha hb hq) h1
theorem bits_ext {n : Nat} {f g : List (List Bool)} (h1 : f.length = n) (h2 : g.length = n) (h3 : ∀ r ∈ f, r.length = n) (h4 : ∀ r ∈ g, r.length = n) (h : ∀ a b, a < n → b < n → bitF f a b = bitF g a b) : f = g := by
 refine List.ext_getElem (by omega) fun a ha hb => ?_
 have e1 := h3 _ (List.getElem_mem ha)
 have e2 := h4 _ (List.getElem_mem hb)
 refine List.ext_getElem (by omega) fun b hc hd => ?_
 have := h a b (by omega) (by omega)
 unfold bitF at this
 rw [List.getD_eq_getElem?_getD (l := f), List.getD_eq_getElem?_getD (l := g), List.getElem?_eq_getElem ha, List.getElem?_eq_getElem hb] at this
 simp only [Option.getD_some] at this
 rw [List.getD_eq_getElem?_getD, List.getD_eq_getElem?_getD, List.getElem?_eq_getElem hc, List.getElem?_eq_getElem hd] at this
 exact this
theorem FollowP.uniq {n : Nat} {nx : List (List Int)} {f g : List (List Bool)} (hf : FollowP n nx f) (hg : FollowP n nx g) : f = g := by
 refine bits_ext hf.inv.len hg.inv.len hf.inv.rows hg.inv.rows fun a b ha hb => ?_
 rw [Bool.eq_iff_iff, hf.iff ha hb, hg.iff ha hb]
noncomputable def folM (n : Nat) (nx : List (List Int)) : List (List Bool) := @Classical.epsilon _ ⟨[]⟩ (FollowP n nx)
theorem FollowP.eq {n : Nat} {nx : List (List Int)} {fm : List (List Bool)} (h : FollowP n nx fm) : fm = folM n nx := h.uniq (Classical.epsilon_spec ⟨fm, h⟩)
theorem foldN_mem : ∀ (l : List (Int × Int)) (rows : List (List Int)), (∀ t ∈ l, 0 ≤ t.1 ∧ t.1 < rows.length) → ∀ (a : Nat) (x : Int), x ∈ (l.foldl nxE rows).getD a [] ↔ x ∈ rows.getD a [] ∨ ∃ t ∈ l, t.1 = a ∧ t.2 = x
 | [], rows, _, a, x => by simp
 | t :: r, rows, h, a, x => by
   obtain ⟨h1, h2⟩ := h t List.mem_cons_self
   rw [List.foldl_cons, foldN_mem r (nxE rows t) (fun u hu => by rw [nxE_len]; exact h u (List.mem_cons_of_mem _ hu))]
   have e : x ∈ (nxE rows t).getD a [] ↔ x ∈ rows.getD a [] ∨ (t.1 = a ∧ t.2 = x) := by
    unfold nxE
    simp only [List.getD_eq_getElem?_getD, List.getElem?_set]
    by_cases he : t.1.toNat = a
    ·subst he
     have e0 : t.1 = (t.1.toNat : Int) := by omega
     rw [if_pos rfl, if_pos (by omega)]
     simp only [Option.getD_some, List.mem_append, List.mem_singleton]
     constructor
     ·rintro (h3 | h3)
      ·exact .inl h3
      ·exact .inr ⟨e0, h3.symm⟩
     ·rintro (h3 | ⟨_, h3⟩)
      ·exact .inl h3
      ·exact .inr h3.symm
    ·rw [if_neg he]
     constructor
     ·exact .inl
     ·rintro (h3 | ⟨h3, _⟩)
      ·exact h3
      ·omega
   rw [e]
   simp only [List.mem_cons, exists_eq_or_imp, or_assoc]
theorem nextR_mem {n : Nat} {l : List (Int × Int)} (h : ∀ t ∈ l, 0 ≤ t.1 ∧ t.1 < n) {a : Nat} {x : Int} : x ∈ (nextR n l).getD a [] ↔ ∃ t ∈ l, t.1 = a ∧ t.2 = x := by
 unfold nextR
 rw [foldN_mem l _ (by simpa using h)]
 have : (List.replicate n ([] : List Int)).getD a [] = [] := by
  rw [List.getD_eq_getElem?_getD, List.getElem?_replicate]
  split <;> rfl
 rw [this]
 simp
inductive AvdP (R : Int → Int → Prop) (b : Int) : Int → Prop
 | exit (h : b ≠ -1) : AvdP R b (-1)
 | step {a t : Int} (hab : a ≠ b) (hs : R a t) (h : AvdP R b t) : AvdP R b a
mutual
theorem rowS_one : ∀ (t : S) {nest seen m : Int}, rowS nest seen t = some m → ∀ u ∈ flS t, oneOk u = true
 | .mk id kind labels name pr x has args thn els, nest, seen, m, h, u, hu => by
   obtain ⟨h1, _, m1, h3, h4⟩ := rowS_parts h
   rw [flS] at hu
   rcases List.mem_cons.1 hu with rfl | hu
   ·exact h1
   ·rcases List.mem_append.1 hu with hu | hu
    ·exact rowL_one thn h3 u hu
    ·exact rowL_one els h4 u hu
theorem rowL_one : ∀ (l : List S) {nest seen m : Int}, rowL nest seen l = some m → ∀ u ∈ flL l, oneOk u = true
 | [], _, _, _, _, u, hu => by rw [flL] at hu; cases hu
 | t :: r, nest, seen, m, h, u, hu => by
   obtain ⟨_, m1, h1, h2⟩ := rowL_parts h
   rw [flL] at hu
   rcases List.mem_append.1 hu with hu | hu
   ·exact rowS_one t h1 u hu
   ·exact rowL_one r h2 u hu
end
theorem body_one {p : Pg} {j : Nat} {f : Pr} (h : chkB p = true) (hj : p.procs[j]? = some f) {t : S} (ht : t ∈ flL f.body) : OneF t := by
 obtain ⟨m, hr⟩ := may_row (chk_parts h).1 hj
 exact one_facts (rowL_one _ hr t ht)
section
variable {p : Pg} {j : Nat} {f : Pr}
def aR (p : Pg) (j : Nat) (f : Pr) : Int → Int → Prop := stR (augW (newWay p j f) f)
theorem aug_len (h : chkB p = true) (hj : p.procs[j]? = some f) : (augW (newWay p j f) f).length ≤ 200000 := by
 obtain ⟨_, _, hcn⟩ := chk_cnt h
 obtain ⟨_, _, _, hlen, hsp⟩ := sheet_spec p
 obtain ⟨_, _, hle, _⟩ := hsp j f hj
 obtain ⟨h1, h2, _⟩ := normS_gen (aug_ok h hj)
 have h3 := nodup_len (l := augW (newWay p j f) f) (m := ((newWay p j f).real ++ (idsN (offN p.procs j) (cntL f.body)).map fun id => ⟨id, -1, 3⟩) ++ [⟨0, -1, 2⟩] ++ (itsOf p j f).flatMap fOf) (lt_nodup h1) fun s hs => by
  rcases List.mem_append.1 (h2 s hs) with h4 | h4
  ·refine List.mem_append.2 (.inl ?_)
   rcases List.mem_append.1 h4 with h4 | h4
   ·refine List.mem_append.2 (.inl ?_)
    rcases List.mem_append.1 h4 with h4 | h4
    ·obtain ⟨l, hl, t, ht, hid, hk, rfl⟩ := (virt_mem h hj).1 h4
     have hb := body_id (chk_parts h).1 hj ht
     exact List.mem_append.2 (.inr (List.mem_map.2 ⟨t.id, idsN_has hb.1 hb.2, rfl⟩))
    ·exact List.mem_append.2 (.inl h4)
   ·exact List.mem_append.2 (.inr h4)
  ·exact List.mem_append.2 (.inr h4)
 have h4 := real_len hj hcn
 have h5 : (idsN (offN p.procs j) (cntL f.body)).length = cntL f.body := by unfold idsN; simp
 have h6 := flatMap_take_len (g := fOf) (c := 1) (itsOf p j f) fun it _ => fOf_len it
 have h7 : (itsOf p j f).length = cntL f.body := itL_len _ _ _ _ _ _
 simp only [List.length_append, List.length_map, List.length_singleton] at h3
 omega
theorem aR_iff (h : chkB p = true) (hj : p.procs[j]? = some f) {a b : Int} : aR p j f a b ↔ wR p j f a b ∨ (a = 0 ∧ b = -1) ∨ (∃ l ∈ trapsW (newWay p j f) f, ∃ t ∈ flL f.body, t.id ∈ l ∧ t.kind = 10 ∧ a = t.id ∧ b = -1) ∨ ∃ it ∈ itsOf p j f, 7 ≤ it.s.kind ∧ a = it.s.id ∧ b = it.next := by
 have hA := normS_gen (aug_ok h hj)
 have hraw : ∀ s, s ∈ augRaw (newWay p j f) f ↔ s ∈ virtW (newWay p j f) f ∨ s ∈ (newWay p j f).real ∨ s = ⟨0, -1, 2⟩ ∨ s ∈ (itsOf p j f).flatMap fOf := fun s => by
  have e : augRaw (newWay p j f) f = virtW (newWay p j f) f ++ (newWay p j f).real ++ [⟨0, -1, 2⟩] ++ (itsOf p j f).flatMap fOf := rfl
  rw [e]
  simp only [List.mem_append, List.mem_singleton, or_assoc]
 have hof : ∀ s ∈ augRaw (newWay p j f) f, aR p j f s.src s.dst := fun s hs => by
  obtain ⟨s', h1, h2, h3, _⟩ := hA.2.2 s hs
  exact ⟨s', h1, h2, h3⟩
 constructor
 ·rintro ⟨s, hs, rfl, rfl⟩
  rcases (hraw s).1 (hA.2.1 s hs) with h1 | h1 | h1 | h1
  ·obtain ⟨l, hl, t, ht, hid, hk, rfl⟩ := (virt_mem h hj).1 h1
   exact .inr (.inr (.inl ⟨l, hl, t, ht, hid, hk, rfl, rfl⟩))
  ·exact .inl ⟨s, h1, rfl, rfl⟩
  ·rw [h1]; exact .inr (.inl ⟨rfl, rfl⟩)
  ·obtain ⟨it, hi, hs⟩ := List.mem_flatMap.1 h1
   unfold fOf at hs
   split at hs
   ·rw [List.mem_singleton.1 hs]
    exact .inr (.inr (.inr ⟨it, hi, by omega, rfl, rfl⟩))
   ·cases hs
 ·rintro (⟨s, hs, rfl, rfl⟩ | ⟨rfl, rfl⟩ | ⟨l, hl, t, ht, hid, hk, rfl, rfl⟩ | ⟨it, hi, hk, rfl, rfl⟩)
  ·exact hof s ((hraw s).2 (.inr (.inl hs)))
  ·exact hof ⟨0, -1, 2⟩ ((hraw _).2 (.inr (.inr (.inl rfl))))
  ·exact hof ⟨t.id, -1, 3⟩ ((hraw _).2 (.inl ((virt_mem h hj).2 ⟨l, hl, t, ht, hid, hk, rfl⟩)))
  ·refine hof ⟨it.s.id, it.next, 2⟩ ((hraw _).2 (.inr (.inr (.inr (List.mem_flatMap.2 ⟨it, hi, ?_⟩)))))
   have hF := (body_one h hj (its_s hi)).hi
   unfold fOf
   rw [if_pos (by omega)]
   exact List.mem_singleton.2 rfl
theorem aR_pl (h : chkB p = true) (hj : p.procs[j]? = some f) {a b : Int} (hr : aR p j f a b) : plP p j f a ∧ plP p j f b ∧ a ≠ -1 ∧ b ≠ 0 := by
 have hst : ∀ t ∈ flL f.body, plP p j f t.id ∧ t.id ≠ -1 := fun t ht => by
  have hb := body_id (chk_parts h).1 hj ht
  exact ⟨.inr (.inr hb), by omega⟩
 rcases (aR_iff h hj).1 hr with h1 | ⟨rfl, rfl⟩ | ⟨l, hl, t, ht, hid, hk, rfl, rfl⟩ | ⟨it, hi, hk, rfl, rfl⟩
 ·obtain ⟨h2, h3⟩ := R_pl h hj h1
  refine ⟨h2, h3, ?_, fun e => no_entry h hj (e ▸ h1)⟩
  obtain ⟨s, hs, rfl, rfl⟩ := h1
  rcases raw_src0 h hj (((real_spec h hj).2 s).1 hs) with h4 | h4
  ·rw [h4]; show (0 : Int) ≠ -1; decide
  ·omega
 ·exact ⟨.inl rfl, .inr (.inl rfl), by decide, by decide⟩
 ·exact ⟨(hst t ht).1, .inr (.inl rfl), (hst t ht).2, by decide⟩
 ·have h1 := (its_rng hi).1
  unfold okI at h1
  refine ⟨(hst _ (its_s hi)).1, ?_, (hst _ (its_s hi)).2, by omega⟩
  rcases h1 with h1 | h1
  ·exact .inr (.inl h1)
  ·exact .inr (.inr h1)
theorem prsA_new : prsA (newWay p j f) f = (augW (newWay p j f) f).map (ixP p j f (cntL f.body + 2 : Nat)) := rfl
theorem prsA_in (h : chkB p = true) (hj : p.procs[j]? = some f) : ∀ t ∈ prsA (newWay p j f) f, (0 ≤ t.1 ∧ t.1 < (cntL f.body + 2 : Nat)) ∧ 0 ≤ t.2 ∧ t.2 < (cntL f.body + 2 : Nat) := fun t ht => by
 rw [prsA_new] at ht
 obtain ⟨s, hs, rfl⟩ := List.mem_map.1 ht
 obtain ⟨h1, h2, _⟩ := aR_pl h hj ⟨s, hs, rfl, rfl⟩
 exact ⟨ix_rng h1, ix_rng h2⟩
theorem prsA_mem (h : chkB p = true) (hj : p.procs[j]? = some f) {a b : Int} (ha : plP p j f a) (hb : plP p j f b) : (ixI p j f a, ixI p j f b) ∈ prsA (newWay p j f) f ↔ aR p j f a b := by
 rw [prsA_new]
 constructor
 ·intro h1
  obtain ⟨s, hs, he⟩ := List.mem_map.1 h1
  obtain ⟨h2, h3, _⟩ := aR_pl h hj ⟨s, hs, rfl, rfl⟩
  have e1 : ixI p j f s.src = ixI p j f a := congrArg Prod.fst he
  have e2 : ixI p j f s.dst = ixI p j f b := congrArg Prod.snd he
  exact ⟨s, hs, ix_inj h2 ha e1, ix_inj h3 hb e2⟩
 ·rintro ⟨s, hs, rfl, rfl⟩
  exact List.mem_map.2 ⟨s, hs, rfl⟩
theorem ix_exit : ixI p j f (-1) = (cntL f.body + 2 : Nat) - 1 := by
 unfold ixI indexI
 rw [if_neg (by decide), if_pos rfl]
theorem avd_iff (h : chkB p = true) (hj : p.procs[j]? = some f) {a b : Int} (ha : plP p j f a) (hb : plP p j f b) : Avd (nextR (cntL f.body + 2) (prsA (newWay p j f) f)) (cntL f.body + 2) (ixI p j f b).toNat (ixI p j f a).toNat ↔ AvdP (aR p j f) b a := by
 have hin := prsA_in h hj
 have hrb := ix_rng hb
 constructor
 ·intro h1
  generalize hx : (ixI p j f a).toNat = x at h1
  induction h1 generalizing a with
  | exit hne =>
    have hra := ix_rng ha
    have : a = -1 := ix_inj ha (.inr (.inl rfl)) (by rw [ix_exit]; omega)
    subst this
    refine .exit fun e => ?_
    subst e
    rw [ix_exit] at hne
    omega
  | @step x t hne ht _ ih =>
    obtain ⟨u, hu, h2, h3⟩ := (nextR_mem (fun t ht => (hin t ht).1)).1 ht
    obtain ⟨s, hs, he⟩ := List.mem_map.1 hu
    obtain ⟨q2, q3, _⟩ := aR_pl h hj ⟨s, hs, rfl, rfl⟩
    have e1 : ixI p j f s.src = u.1 := congrArg Prod.fst he
    have e2 : ixI p j f s.dst = u.2 := congrArg Prod.snd he
    have hra := ix_rng ha
    have e3 : s.src = a := ix_inj q2 ha (by omega)
    refine .step (fun e => ?_) ⟨s, hs, e3, rfl⟩ (ih q3 (by omega))
    subst e
    exact hne hx.symm
 ·intro h1
  induction h1 with
  | exit hne =>
    rw [ix_exit, show (((cntL f.body + 2 : Nat) : Int) - 1).toNat = cntL f.body + 2 - 1 by omega]
    refine .exit fun e => hne (ix_inj hb (.inr (.inl rfl)) (by rw [ix_exit]; omega))
  | @step a t hne hs _ ih =>
    obtain ⟨q2, q3, _⟩ := aR_pl h hj hs
    have hra := ix_rng q2
    have hrt := ix_rng q3
    refine .step (t := (ixI p j f t).toNat) (fun e => hne (ix_inj q2 hb (by omega))) ?_ (ih q3)
    refine (nextR_mem (fun t ht => (hin t ht).1)).2 ⟨_, (prsA_mem h hj q2 q3).2 hs, ?_, ?_⟩
    ·show ixI p j f a = _
     omega
    ·show ixI p j f t = _
     omega
def folP (p : Pg) (j : Nat) (f : Pr) (a b : Int) : Prop := ¬ AvdP (aR p j f) b a
def decP (p : Pg) (j : Nat) (f : Pr) (a b : Int) : Prop := ∃ t, aR p j f a t ∧ folP p j f t b ∧ (a = b ∨ ¬ folP p j f a b)
noncomputable def decL (w : Way) (f : Pr) (n : Nat) : List (Int × Int) := (List.range n).flatMap fun (x : Nat) => ((List.range n).filter fun y => mkM n (folM n (nextR n (prsA w f))) (prsA w f) x y).map fun (y : Nat) => (placeI w.p w.j w.n x, placeI w.p w.j w.n y)
theorem decL_eq {w : Way} {n : Nat} {fm M : List (List Bool)} (h1 : FollowP n (nextR n (prsA w f)) fm) (h2 : ∀ a b, a < n → b < n → bitF M a b = mkM n fm (prsA w f) a b) : outM (placeI w.p w.j w.n) M n n = decL w f n := by
 rw [h1.eq] at h2
 unfold outM decL
 have hf : ∀ x ∈ List.range n, ((List.range n).filter fun y => bitF M x y).map (fun (y : Nat) => (placeI w.p w.j w.n x, placeI w.p w.j w.n y)) = ((List.range n).filter fun y => mkM n (folM n (nextR n (prsA w f))) (prsA w f) x y).map fun (y : Nat) => (placeI w.p w.j w.n x, placeI w.p w.j w.n y) := fun x hx => by
  rw [List.filter_congr fun y hy => h2 x y (List.mem_range.1 hx) (List.mem_range.1 hy)]
 rw [List.flatMap_def, List.flatMap_def, List.map_congr_left hf]
theorem decL_len (w : Way) (n : Nat) : (decL w f n).length ≤ n * n := by
 unfold decL
 have h1 := flatMap_take_len (g := fun (x : Nat) => ((List.range n).filter fun y => mkM n (folM n (nextR n (prsA w f))) (prsA w f) x y).map fun (y : Nat) => (placeI w.p w.j w.n x, placeI w.p w.j w.n y)) (c := n) (List.range n) fun x _ => by
  rw [List.length_map]
  exact Nat.le_trans (List.length_filter_le _ _) (by simp)
 rw [List.length_range] at h1
 exact h1
end
theorem fol_bit {p : Pg} {j : Nat} {f : Pr} (h : chkB p = true) (hj : p.procs[j]? = some f) {fm : List (List Bool)} (hF : FollowP (cntL f.body + 2) (nextR (cntL f.body + 2) (prsA (newWay p j f) f)) fm) {a b : Int} (ha : plP p j f a) (hb : plP p j f b) : bitF fm (ixI p j f a).toNat (ixI p j f b).toNat = true ↔ folP p j f a b := by
 have hra := ix_rng ha
 have hrb := ix_rng hb
 unfold folP
 rw [hF.iff (by omega) (by omega), avd_iff h hj ha hb]
theorem decL_mem {p : Pg} {j : Nat} {f : Pr} (h : chkB p = true) (hj : p.procs[j]? = some f) {fm : List (List Bool)} (hF : FollowP (cntL f.body + 2) (nextR (cntL f.body + 2) (prsA (newWay p j f) f)) fm) {a b : Int} : (a, b) ∈ decL (newWay p j f) f (cntL f.body + 2) ↔ plP p j f a ∧ plP p j f b ∧ 0 < b ∧ decP p j f a b := by
 have hin := prsA_in h hj
 have e : folM (cntL f.body + 2) (nextR (cntL f.body + 2) (prsA (newWay p j f) f)) = fm := hF.eq.symm
 have key : ∀ a b : Int, plP p j f a → plP p j f b → (mkM (cntL f.body + 2) fm (prsA (newWay p j f) f) (ixI p j f a).toNat (ixI p j f b).toNat = true ↔ 0 < b ∧ decP p j f a b) := fun a b ha hb => by
  have hra := ix_rng ha
  have hrb := ix_rng hb
  have hb0 : (decide (1 ≤ (ixI p j f b).toNat) && decide ((ixI p j f b).toNat < cntL f.body + 2 - 1)) = true ↔ 0 < b := by
   rw [Bool.and_eq_true, decide_eq_true_eq, decide_eq_true_eq]
   have hbb := hb
   unfold plP at hbb
   unfold ixI indexI loI hiI at hrb ⊢
   (repeat' split) <;> omega
  unfold mkM
  rw [Bool.and_eq_true, hb0, List.any_eq_true]
  refine and_congr_right fun _ => ?_
  unfold decP
  constructor
  ·rintro ⟨t, ht, h1⟩
   rw [Bool.and_eq_true, decide_eq_true_eq] at h1
   obtain ⟨s, hs, he⟩ := List.mem_map.1 ht
   obtain ⟨q2, q3, _⟩ := aR_pl h hj ⟨s, hs, rfl, rfl⟩
   have e1 : ixI p j f s.src = t.1 := congrArg Prod.fst he
   have e2 : ixI p j f s.dst = t.2 := congrArg Prod.snd he
   have e3 : s.src = a := ix_inj q2 ha (by omega)
   have h2 := h1.2
   unfold decB at h2
   rw [Bool.and_eq_true, Bool.or_eq_true, decide_eq_true_eq, ← e2, ← e1, e3, fol_bit h hj hF q3 hb] at h2
   refine ⟨s.dst, ⟨s, hs, e3, rfl⟩, h2.1, ?_⟩
   rcases h2.2 with h4 | h4
   ·exact .inl (ix_inj ha hb (by omega))
   ·refine .inr fun h5 => ?_
    rw [(fol_bit h hj hF ha hb).2 h5] at h4
    cases h4
  ·rintro ⟨t, ht, h1, h2⟩
   obtain ⟨q2, q3, _⟩ := aR_pl h hj ht
   refine ⟨_, (prsA_mem h hj q2 q3).2 ht, ?_⟩
   rw [Bool.and_eq_true, decide_eq_true_eq]
   refine ⟨by show ixI p j f a = _; omega, ?_⟩
   unfold decB
   rw [Bool.and_eq_true, Bool.or_eq_true, decide_eq_true_eq]
   refine ⟨(fol_bit h hj hF q3 hb).2 h1, ?_⟩
   rcases h2 with rfl | h2
   ·exact .inl (by show ixI p j f a = _; omega)
   ·refine .inr ?_
    cases hq : bitF fm (ixI p j f a).toNat (ixI p j f b).toNat with
    | false => rfl
    | true => exact absurd ((fol_bit h hj hF ha hb).1 hq) h2
 unfold decL
 rw [e, List.mem_flatMap]
 constructor
 ·rintro ⟨x, hx, h1⟩
  obtain ⟨y, hy, he⟩ := List.mem_map.1 h1
  obtain ⟨hy1, hy2⟩ := List.mem_filter.1 hy
  rw [List.mem_range] at hx hy1
  obtain ⟨q1, q2⟩ := ix_place (p := p) (j := j) (f := f) (i := (x : Int)) (by omega)
  obtain ⟨q3, q4⟩ := ix_place (p := p) (j := j) (f := f) (i := (y : Int)) (by omega)
  have e1 : placeI p j (cntL f.body + 2 : Nat) x = a := congrArg Prod.fst he
  have e2 : placeI p j (cntL f.body + 2 : Nat) y = b := congrArg Prod.snd he
  rw [e1] at q1 q2
  rw [e2] at q3 q4
  have := key a b q1 q3
  rw [q2, q4, Int.toNat_natCast, Int.toNat_natCast] at this
  exact ⟨q1, q3, this.1 hy2⟩
 ·rintro ⟨q1, q3, h1⟩
  have hra := ix_rng q1
  have hrb := ix_rng q3
  refine ⟨(ixI p j f a).toNat, List.mem_range.2 (by omega), List.mem_map.2 ⟨(ixI p j f b).toNat, List.mem_filter.2 ⟨List.mem_range.2 (by omega), (key a b q1 q3).2 h1⟩, ?_⟩⟩
  show (placeI p j (cntL f.body + 2 : Nat) _, placeI p j (cntL f.body + 2 : Nat) _) = _
  rw [Int.toNat_of_nonneg hra.1, Int.toNat_of_nonneg hrb.1, place_ix q1, place_ix q3]
open Go.Proofs
noncomputable def decO (p : Pg) (n : Str) : List (Int × Int) := match wayO p n with
 | some w => (match w.p.procs[w.j]? with
   | some f => decL w f (cntL f.body + 2)
   | none => [])
 | none => []
theorem decO_some {p : Pg} {n : Str} {k : Nat} {f : Pr} (hw : wayO p n = some (newWay p k f)) (hk : p.procs[k]? = some f) : decO p n = decL (newWay p k f) f (cntL f.body + 2) := by
 have h : (newWay p k f).p.procs[(newWay p k f).j]? = some f := hk
 unfold decO
 rw [hw]
 simp only
 rw [h]
theorem decO_none {p : Pg} {n : Str} (hw : wayO p n = none) : decO p n = [] := by
 unfold decO
 rw [hw]
theorem decO_len (p : Pg) (n : Str) : (decO p n).length ≤ 1000000 := by
 cases hw : wayO p n with
 | none => rw [decO_none hw]; simp
 | some w =>
   obtain ⟨k, f, hkj, rfl, hc, _⟩ := wayO_some hw
   obtain ⟨_, _, hcn⟩ := chk_cnt hc
   obtain ⟨_, _, _, hlen, hsp⟩ := sheet_spec p
   obtain ⟨_, _, hle, _⟩ := hsp k f hkj
   rw [decO_some hw hkj]
   have h1 := decL_len (f := f) (newWay p k f) (cntL f.body + 2)
   have h2 : (cntL f.body + 2) * (cntL f.body + 2) ≤ 202 * 202 := Nat.mul_le_mul (by omega) (by omega)
   omega
theorem cdep_Of (p : Pg) (hf : Fit p) (n : Str) : SpecP Tryz.prog 42 [.agg p.cells, .str n] (fun r => r = .sl (avP (decO p n))) := by
 refine SpecP.body I_cdep_Of tabOK Tryz.func42 rfl Tryz.call42 (by show 2 ≤ _; decide) ?_
 conv => whnf
 have hW := way_Of p hf n
 cases hw : wayO p n with
 | none =>
   rw [decO_none hw]
   rw [hw] at hW
   repeat' (refine CallK.pure hW (.cons (Sub.refl _) (.cons (Sub.refl _) .nil)) ?_; rintro _ rfl; conv => whnf)
   exact ⟨_, .p Sub.nils, rfl⟩
 | some w =>
   obtain ⟨k, f, hkj, rfl, hc, _⟩ := wayO_some hw
   have hw0 := hw
   rw [hw] at hW
   repeat' ((first | (refine CallK.pure hW (.cons (Sub.refl _) (.cons (Sub.refl _) .nil)) ?_; rintro _ rfl) | (refine CallK.pure (way_Way_Decides (newWay p k f) f (cntL f.body+2) (wayT hc hkj) (prsA_in hc hkj) (Nat.le_trans (aug_len hc hkj) (by decide))) (.cons (Sub.refl _) .nil) ?_; rintro _ ⟨fm, M, h1, h2, h3, rfl⟩)); conv => whnf)
   exact RetK.p (by rw [decO_some hw0 hkj, ← decL_eq h1 h3])
noncomputable def byR (p : Pg) (n : Str) (id : Int) : List Int := ((decO p n).filter fun d => decide (d.2 = id)).map Prod.fst
theorem cdep_By (p : Pg) (hf : Fit p) (n : Str) (id : Int) : SpecP Tryz.prog 43 [.agg p.cells, .str n, .int .i64 id] (fun r => r = eInts (byR p n id)) := by
 refine SpecP.body I_cdep_By tabOK Tryz.func43 rfl Tryz.call43 (by show 3 ≤ _; decide) ?_
 conv => whnf
 have hO := cdep_Of p hf n
 have hlen := decO_len p n
 have hB : byR p n id = ((decO p n).filter fun d => decide (d.2 = id)).map Prod.fst := rfl
 generalize decO p n = L at hO hlen hB
 generalize byR p n id = B at hB
 have hal : (avP L).length = L.length := by unfold avP; rw [List.length_map]
 repeat' ((first | (intro (_ : _ ≤ 9223372036854775807)) | (refine CallK.pure hO (.cons (Sub.refl _) (.cons (Sub.refl _) .nil)) ?_; rintro _ rfl)); conv => whnf)
 refine LoopK.inv tabOK (fun x : Nat × List Int => ⟨[(2, .p (.int .i64 id)), (7, .hd 0 0 x.2.length), (12, .p (.sl (avP L))), (13, .p (.int .i64 (avP L).length)), (14, .p (.int .i64 x.1))], [(0, .own 3 1 (x.2.map (.int .i64)))]⟩) (fun x => x.1 ≤ L.length ∧ x.2.length ≤ x.1 ∧ x.2 ++ ((L.drop x.1).filter fun d => decide (d.2 = id)).map Prod.fst = B) (fun x => L.length - x.1) (0, [])
  (Le.mk [(0, .own 3 1 [])] (by simp [Chunk.new0]; rfl) (by simp) (by simp) (.cons (.refl _) (.cons (.nil List.mem_cons_self) (.cons (.refl _) (.cons (.refl _) (.cons (.refl _) .nil))))) (.new List.mem_cons_self .nil)) ⟨Nat.zero_le _, Nat.le_refl _, hB.symm⟩ ?_
 rintro ⟨j, o⟩ ⟨h2, h4, h3⟩
 simp only at h2 h3 h4 ⊢
 rcases Nat.lt_or_ge j L.length with hj | hj
 ·rw [List.drop_eq_getElem_cons hj] at h3
  have hme : (avP L)[j]? = some (.agg [.int .i64 L[j].1, .int .i64 L[j].2]) := by simp [avP, hj]
  generalize L[j] = t at hme h3
  conv => whnf
  repeat' (first | ((first | (refine And.intro rfl ?_) | (refine And.intro ⟨by decide, by decide⟩ ?_) | (refine BsK.pure (fun x hx => by rcases List.mem_singleton.1 hx with rfl; rfl) rfl ?_) | (refine Wr.i64 (by omega) (by omega) ?_) | (refine IdxK.at (k := j) rfl hme rfl ?_) | (refine IdxL.mk 1 rfl (by decide) ?_) | (refine IdxL.mk 0 rfl (by decide) ?_) | (refine AppK.int1 (by simp) (by simp; omega) ?_)); conv => whnf) | (refine Br.dec (fun _ => ?_) (fun _ => ?_) <;> first | (exfalso; omega) | conv => whnf))
  all_goals first
   | (have e : decide (t.2 = id) = true := decide_eq_true (by assumption)
      rw [List.filter_cons_of_pos (by exact e), List.map_cons] at h3
      exact ⟨(j + 1, o ++ [t.1]), ⟨hj, by simp; omega, by rw [List.append_assoc]; exact h3⟩, by simp only; omega, Le.of_eq (by simp only [List.length_append, List.map_append, List.length_map]; rfl)⟩)
   | (have e : decide (t.2 = id) = false := decide_eq_false (by assumption)
      rw [List.filter_cons_of_neg (fun hh => by rw [e] at hh; cases hh)] at h3
      exact ⟨(j + 1, o), ⟨hj, by simp only; omega, h3⟩, by simp only; omega, Le.of_eq rfl⟩)
   | trace_state
 ·rw [List.drop_eq_nil_of_le hj] at h3
  simp only [List.filter_nil, List.map_nil, List.append_nil] at h3
  conv => whnf
  repeat' (refine Br.dec (fun _ => ?_) (fun _ => ?_) <;> first | (exfalso; omega) | conv => whnf)
  all_goals first
   | exact ⟨_, .hd rfl (by simp), by rw [← h3]; rfl⟩
   | trace_state
def upAt (sh : Sheet) (id : Int) : Int := ((sh.l[(id - 1).toNat]?).map Item.up).getD 0
def upF (sh : Sheet) : Nat → Int → List Int
 | 0, _ => []
 | k + 1, id => if id = 0 then [] else id :: upF sh k (upAt sh id)
mutual
theorem itS_up (proc nx lp : Int) : ∀ (t : S) (up : Int) (n i : Nat) (it : Item), (itS proc up nx lp n t)[i]? = some it → it.up = up ∨ ((n : Int) + 1 ≤ it.up ∧ it.up ≤ n + i)
 | .mk id kind labels name pr x has args thn els, up, n, i, it, h => by
   rw [itS] at h
   cases i with
   | zero => cases h; exact .inl rfl
   | succ i =>
     rw [List.getElem?_cons_succ] at h
     rcases Nat.lt_or_ge i (cntL thn) with hi | hi
     ·rw [List.getElem?_append_left (by rw [itL_len]; exact hi)] at h
      have := itL_up proc _ _ thn _ _ i it h
      omega
     ·rw [List.getElem?_append_right (by rw [itL_len]; exact hi), itL_len] at h
      have := itL_up proc _ _ els _ _ _ it h
      omega
theorem itL_up (proc nx lp : Int) : ∀ (l : List S) (up : Int) (n i : Nat) (it : Item), (itL proc up nx lp n l)[i]? = some it → it.up = up ∨ ((n : Int) + 1 ≤ it.up ∧ it.up ≤ n + i)
 | [], up, n, i, it, h => by rw [itL] at h; simp at h
 | t :: r, up, n, i, it, h => by
   rw [itL] at h
   rcases Nat.lt_or_ge i (cntS t) with hi | hi
   ·rw [List.getElem?_append_left (by rw [itS_len]; exact hi)] at h
    exact itS_up proc _ _ t up n i it h
   ·rw [List.getElem?_append_right (by rw [itS_len]; exact hi), itS_len] at h
    have := itL_up proc _ _ r up _ _ it h
    omega
end
theorem pos_proc : ∀ (l : List Pr) (k : Nat), k < cntP l → ∃ j f, l[j]? = some f ∧ offN l j ≤ k ∧ k < offN l j + cntL f.body
 | [], k, h => by rw [cntP] at h; omega
 | g :: r, k, h => by
   rw [cntP] at h
   rcases Nat.lt_or_ge k (cntL g.body) with hk | hk
   ·exact ⟨0, g, rfl, by rw [offN]; omega, by rw [offN]; omega⟩
   ·obtain ⟨j, f, h1, h2, h3⟩ := pos_proc r (k - cntL g.body) (by omega)
    exact ⟨j + 1, f, by simpa using h1, by rw [offN]; omega, by rw [offN]; omega⟩
theorem up_rng (p : Pg) {id : Int} (h1 : 1 ≤ id) : 0 ≤ upAt (sheetOf p) id ∧ upAt (sheetOf p) id < id := by
 unfold upAt
 obtain ⟨_, _, _, hlen, hsp⟩ := sheet_spec p
 cases hq : (sheetOf p).l[(id - 1).toNat]? with
 | none => exact ⟨Int.le_refl _, by show (0 : Int) < id; omega⟩
 | some it =>
   show 0 ≤ it.up ∧ it.up < id
   have hlt := (List.getElem?_eq_some_iff.1 hq).1
   obtain ⟨j, f, hj, h2, h3⟩ := pos_proc p.procs (id - 1).toNat (by omega)
   obtain ⟨_, _, hle, hdr⟩ := hsp j f hj
   have h4 : (itL j 0 (-1) 0 (offN p.procs j) f.body)[(id - 1).toNat - offN p.procs j]? = some it := by
    rw [← hdr, List.getElem?_drop, List.getElem?_take_of_lt (by omega), show offN p.procs j + ((id - 1).toNat - offN p.procs j) = (id - 1).toNat by omega]
    exact hq
   have := itL_up j (-1) 0 f.body 0 (offN p.procs j) _ it h4
   omega
def inR (p : Pg) (id : Int) : List Int := bif chkB p && (decide (1 ≤ id) && decide (id ≤ (sheetOf p).l.length)) then (upF (sheetOf p) 300 (upAt (sheetOf p) id)).reverse else []
theorem cdep_In (p : Pg) (hf : Fit p) (id : Int) : SpecP Tryz.prog 44 [.agg p.cells, .int .i64 id] (fun r => r = eInts (inR p id)) := by
 refine SpecP.body I_cdep_In tabOK Tryz.func44 rfl Tryz.call44 (by show 2 ≤ _; decide) ?_
 conv => whnf
 cases hc : chkB p with
 | false =>
   have e : inR p id = [] := by unfold inR; rw [hc]; rfl
   have hA : ¬ (allB p).1 = 0 := by unfold chkB at hc; simpa using hc
   rw [e]
   repeat' (first | (refine CallK.pure (check_May p hf) (by repeat' (first | exact ArgP.nil | refine ArgP.cons ?_ ?_ | exact Sub.refl _ | exact Sub.tt rfl | exact Sub.ff rfl | exact Sub.int (by omega))) ?_; rintro _ rfl; conv => whnf) | (refine Br.dec2 (fun _ => ?_) (fun _ => ?_) <;> first | (exfalso; omega) | conv => whnf))
   all_goals first
    | exact ⟨_, .p Sub.nils, rfl⟩
    | (exfalso; exact hA (by assumption))
 | true =>
   obtain ⟨hg, hpl, hcn⟩ := chk_cnt hc
   have hA : (allB p).1 = 0 := by unfold chkB at hc; simpa using hc
   cases hin : (decide (1 ≤ id) && decide (id ≤ (sheetOf p).l.length)) with
   | false =>
     have e : inR p id = [] := by unfold inR; rw [hc, hin]; rfl
     rw [e]
     repeat' (first | ((first | (refine CallK.pure (check_May p hf) (by repeat' (first | exact ArgP.nil | refine ArgP.cons ?_ ?_ | exact Sub.refl _ | exact Sub.tt rfl | exact Sub.ff rfl | exact Sub.int (by omega))) ?_; rintro _ rfl) | (refine CallK.pure (flat_Sheet_Has _ _) (by repeat' (first | exact ArgP.nil | refine ArgP.cons ?_ ?_ | exact Sub.refl _ | exact Sub.tt rfl | exact Sub.ff rfl)) ?_; rintro _ rfl) | (refine CallK.pure (flat_New p (by omega) (by omega)) (.cons (Sub.refl _) .nil) ?_; rintro _ rfl)); conv => whnf) | (refine Br.dec2 (fun _ => ?_) (fun _ => ?_) <;> first | (exfalso; omega) | conv => whnf) | (refine Br.n (fun _ => ?_) (fun _ => ?_) <;> conv => whnf))
     all_goals first
      | exact ⟨_, .p Sub.nils, rfl⟩
      | (exfalso; omega)
      | (exfalso; simp_all)
   | true =>
     have hid : 1 ≤ id ∧ id ≤ (sheetOf p).l.length := by simpa using hin
     have hlt : (id - 1).toNat < (sheetOf p).l.length := by omega
     have hlen := (sheet_spec p).2.2.2.1
     have e : inR p id = (upF (sheetOf p) 300 (upAt (sheetOf p) id)).reverse := by unfold inR; rw [hc, hin]; rfl
     have hx : ((sheetOf p).l.map fun i => AV.agg i.cells)[(id - 1).toNat]? = some (.agg (sheetOf p).l[(id - 1).toNat].cells) := by rw [List.getElem?_map, List.getElem?_eq_getElem hlt]; rfl
     have hu : (sheetOf p).l[(id - 1).toNat].up = upAt (sheetOf p) id := by unfold upAt; rw [List.getElem?_eq_getElem hlt]; rfl
     have hur := up_rng p hid.1
     rw [e]
     repeat' (first | ((first | (refine CallK.pure (check_May p hf) (by repeat' (first | exact ArgP.nil | refine ArgP.cons ?_ ?_ | exact Sub.refl _ | exact Sub.tt rfl | exact Sub.ff rfl | exact Sub.int (by omega))) ?_; rintro _ rfl) | (refine CallK.pure (flat_Sheet_Has _ _) (by repeat' (first | exact ArgP.nil | refine ArgP.cons ?_ ?_ | exact Sub.refl _ | exact Sub.tt rfl | exact Sub.ff rfl)) ?_; rintro _ rfl) | (refine Wr.i64 (by omega) (by omega) ?_) | (refine CallK.pure (flat_New p (by omega) (by omega)) (.cons (Sub.refl _) .nil) ?_; rintro _ rfl) | (refine IdxK.at (by omega) hx rfl ?_)); conv => whnf) | (refine Br.dec2 (fun _ => ?_) (fun _ => ?_) <;> first | (exfalso; omega) | conv => whnf) | (refine Br.n (fun _ => ?_) (fun _ => ?_) <;> conv => whnf))
     rotate_left 1
     ·exfalso
      rename_i h9
      rw [hin] at h9
      cases h9
     refine LoopK.inv tabOK (fun x : Int × List Int × Nat => ⟨[(5, .p (.ip (sheetOf p).cells)), (6, .hd 0 0 x.2.1.length), (7, .p (.int .i64 x.1))], [(0, .own 3 1 (x.2.1.map (.int .i64)))]⟩)
      (fun x => (0 ≤ x.1 ∧ x.1 ≤ (sheetOf p).l.length) ∧ x.1 < x.2.2 ∧ x.2.1.length + x.2.2 ≤ 300 ∧ x.2.1 ++ upF (sheetOf p) x.2.2 x.1 = upF (sheetOf p) 300 (upAt (sheetOf p) id)) (fun x => x.2.2) (upAt (sheetOf p) id, [], 300)
      (Le.mk [(0, .own 3 1 [])] (by simp [Chunk.new0]; rfl) (by simp) (by simp) (.cons (.refl _) (.cons (.nil List.mem_cons_self) (.cons (.of_eq (by rw [hu]; rfl)) .nil))) (.new List.mem_cons_self .nil))
      ⟨⟨by simp only; omega, by simp only; omega⟩, by simp only; omega, by simp, rfl⟩ ?_
     rintro ⟨u, o, k⟩ ⟨⟨h2, h3⟩, h4, h5, h6⟩
     simp only at h2 h3 h4 h5 h6 ⊢
     by_cases h0 : u = 0
     ·subst h0
      have hR := slices_Reverse_int_int_ o (by omega)
      have h7 : o = upF (sheetOf p) 300 (upAt (sheetOf p) id) := by
       rw [← h6]
       cases k with
       | zero => rw [upF, List.append_nil]
       | succ k => rw [upF, if_pos rfl, List.append_nil]
      rw [← h7]
      conv => whnf
      repeat' (first | (refine CallK.heap [(1000, 0)] 5 (ArgsH.cons (LSub.refl _) ArgsH.nil) (by refine BlksH.cons (j := 0) rfl rfl ?_ ?_; exact CSub.refl _; exact BlksH.nil) hR rfl rfl ?_; rintro l' H' ⟨rfl, rfl⟩; conv => whnf) | (refine Br.dec2 (fun _ => ?_) (fun _ => ?_) <;> first | (exfalso; omega) | conv => whnf))
      exact ⟨_, .hd rfl (by simp), rfl⟩
     ·have hlt2 : (u - 1).toNat < (sheetOf p).l.length := by omega
      have hx2 : ((sheetOf p).l.map fun i => AV.agg i.cells)[(u - 1).toNat]? = some (.agg (sheetOf p).l[(u - 1).toNat].cells) := by rw [List.getElem?_map, List.getElem?_eq_getElem hlt2]; rfl
      have hu2 : (sheetOf p).l[(u - 1).toNat].up = upAt (sheetOf p) u := by unfold upAt; rw [List.getElem?_eq_getElem hlt2]; rfl
      have hur2 := up_rng p (id := u) (by omega)
      have h7 : upF (sheetOf p) k u = u :: upF (sheetOf p) (k - 1) (upAt (sheetOf p) u) := by
       cases k with
       | zero => exact absurd h4 (by omega)
       | succ k => rw [upF, if_neg h0]; rfl
      rw [h7] at h6
      conv => whnf
      repeat' (first | ((first | (refine And.intro rfl ?_) | (refine And.intro ⟨by decide, by decide⟩ ?_) | (refine BsK.pure (fun x hx => by rcases List.mem_singleton.1 hx with rfl; rfl) rfl ?_) | (refine Wr.i64 (by omega) (by omega) ?_) | (refine AppK.int1 (by simp) (by simp; omega) ?_) | (refine IdxK.at (by omega) hx2 rfl ?_)); conv => whnf) | (refine Br.dec2 (fun _ => ?_) (fun _ => ?_) <;> first | (exfalso; omega) | conv => whnf))
      all_goals first
       | (exfalso; omega)
       | exact ⟨(upAt (sheetOf p) u, o ++ [u], k - 1), ⟨⟨by simp only; omega, by simp only; omega⟩, by simp only; omega, by simp; omega, by rw [List.append_assoc]; exact h6⟩, by simp only; omega, Le.of_eq (by rw [← hu2]; simp only [List.length_append, List.map_append, List.length_map]; rfl)⟩
       | trace_state
open Go.Proofs
theorem follow_ex {n : Nat} {nx : List (List Int)} (hnx : ∀ a, ∀ x ∈ nx.getD a [], 0 ≤ x ∧ x < (n : Int)) : ∃ fm, FollowP n nx fm := by
 let F : Nat → Nat → Bool := fun a b => @decide (¬ Avd nx n b a) (Classical.propDecidable _)
 have hF : ∀ a b, F a b = true ↔ ¬ Avd nx n b a := fun a b => by simp only [F]; exact @decide_eq_true_iff _ (Classical.propDecidable _)
 have hrow : ∀ a, a < n → ((List.range n).map fun a => (List.range n).map fun b => F a b).getD a [] = (List.range n).map fun b => F a b := fun a ha => by
  rw [List.getD_eq_getElem?_getD, List.getElem?_map, List.getElem?_range ha]
  rfl
 have hbit : ∀ a b, a < n → b < n → bitF ((List.range n).map fun a => (List.range n).map fun b => F a b) a b = F a b := fun a b ha hb => by
  unfold bitF
  rw [hrow a ha, List.getD_eq_getElem?_getD, List.getElem?_map, List.getElem?_range hb]
  rfl
 have hfix : ∀ a b, a < n - 1 → b < n → F a b = (rowF n nx ((List.range n).map fun a => (List.range n).map fun b => F a b) a).getD b false := fun a b ha hb => by
  rw [rowF_get hb, Bool.eq_iff_iff, hF, Bool.or_eq_true, decide_eq_true_eq, shared_iff]
  constructor
  ·intro h
   by_cases hab : a = b
   ·exact .inl hab
   ·refine .inr fun t ht => ?_
    have hr := hnx a t ht
    rw [hbit _ _ (by omega) hb, hF]
    exact fun h2 => h (.step hab (by rw [Int.toNat_of_nonneg hr.1]; exact ht) h2)
  ·rintro h h2
   cases h2 with
   | exit hne => omega
   | @step _ t hab ht h3 =>
     have hr := hnx a _ ht
     rcases h with h | h
     ·exact hab h
     ·have h4 := h _ ht
      rw [Int.toNat_natCast, hbit _ _ (by omega) hb, hF] at h4
      exact h4 h3
 refine ⟨(List.range n).map fun a => (List.range n).map fun b => F a b, ⟨by simp, fun r hr => ?_, ?_, fun a b ha hb h => ?_, fun a b ha hb h => ?_⟩, fun a ha => ?_⟩
 ·obtain ⟨a, _, rfl⟩ := List.mem_map.1 hr
  simp
 ·cases n with
  | zero => rfl
  | succ n =>
    rw [hrow _ (by omega)]
    unfold filRow
    refine List.map_congr_left fun b hb => ?_
    rw [List.mem_range] at hb
    rw [Bool.eq_iff_iff, hF, Bool.or_eq_true, decide_eq_true_eq, decide_eq_true_eq]
    constructor
    ·intro h
     refine .inr (Classical.byContradiction fun he => h ?_)
     exact .exit fun e => he e.symm
    ·rintro (h | h) h2
     ·omega
     ·cases h2 with
      | exit hne => exact hne h.symm
      | step hab _ _ => exact hab h
 ·rw [hbit a b (by omega) hb, hfix a b ha hb]
  exact h
 ·rw [hbit a b ha hb] at h
  refine Classical.byContradiction fun h2 => ?_
  rw [(hF a b).2 h2] at h
  cases h
 ·rw [hrow a (by omega)]
  refine List.ext_getElem (by rw [rowF_len]; simp) fun b h1 h2 => ?_
  have hb : b < n := by simpa using h1
  have h3 := hfix a b ha hb
  rw [List.getD_eq_getElem?_getD, List.getElem?_eq_getElem h2] at h3
  simp only [List.getElem_map, List.getElem_range]
  exact h3
theorem nextR_get {n : Nat} {l : List (Int × Int)} (h : ∀ t ∈ l, (0 ≤ t.1 ∧ t.1 < n) ∧ 0 ≤ t.2 ∧ t.2 < n) : ∀ a, ∀ x ∈ (nextR n l).getD a [], 0 ≤ x ∧ x < (n : Int) := fun a x hx => by
 obtain ⟨t, ht, _, rfl⟩ := (nextR_mem fun t ht => (h t ht).1).1 hx
 exact (h t ht).2
theorem dec_iff {p : Pg} {j : Nat} {f : Pr} (h : chkB p = true) (hj : p.procs[j]? = some f) {a b : Int} : (a, b) ∈ decL (newWay p j f) f (cntL f.body + 2) ↔ plP p j f a ∧ plP p j f b ∧ 0 < b ∧ decP p j f a b := by
 obtain ⟨fm, hF⟩ := follow_ex (n := cntL f.body + 2) (nextR_get (prsA_in h hj))
 exact decL_mem h hj hF
def OkL (l : List Int) : Prop := l.Nodup ∧ ∀ x ∈ l, 0 ≤ x ∧ x ≤ 200
theorem OkL.len {l : List Int} (h : OkL l) : l.length ≤ 201 := by
 have := nodup_len (m := (List.range 201).map Int.ofNat) h.1 fun x hx => by
  have := h.2 x hx
  refine List.mem_map.2 ⟨x.toNat, List.mem_range.2 (by omega), ?_⟩
  show (x.toNat : Int) = x
  omega
 simpa using this
namespace Own
theorem cdep_By (p : Pg) (hf : Fit p) (n : Str) (id : Int) : SpecH Tryz.prog 43 [.p (.agg p.cells), .p (.str n), .p (.int .i64 id)] [] (fun r H => r = .hd 0 0 (byR p n id).length ∧ H = [(0, .own 3 1 ((byR p n id).map (.int .i64)))]) := by
 refine SpecH.body I_cdep_By tabOK Tryz.func43 rfl Tryz.call43 (by show 3 ≤ _; decide) ?_
 conv => whnf
 have hO := cdep_Of p hf n
 have hlen := decO_len p n
 have hB : byR p n id = ((decO p n).filter fun d => decide (d.2 = id)).map Prod.fst := rfl
 generalize decO p n = L at hO hlen hB
 generalize byR p n id = B at hB
 have hal : (avP L).length = L.length := by unfold avP; rw [List.length_map]
 repeat' ((first | (intro (_ : _ ≤ 9223372036854775807)) | (refine CallK.pure hO (.cons (Sub.refl _) (.cons (Sub.refl _) .nil)) ?_; rintro _ rfl)); conv => whnf)
 refine LoopK.inv tabOK (fun x : Nat × List Int => ⟨[(2, .p (.int .i64 id)), (7, .hd 0 0 x.2.length), (12, .p (.sl (avP L))), (13, .p (.int .i64 (avP L).length)), (14, .p (.int .i64 x.1))], [(0, .own 3 1 (x.2.map (.int .i64)))]⟩) (fun x => x.1 ≤ L.length ∧ x.2.length ≤ x.1 ∧ x.2 ++ ((L.drop x.1).filter fun d => decide (d.2 = id)).map Prod.fst = B) (fun x => L.length - x.1) (0, [])
  (Le.mk [(0, .own 3 1 [])] (by simp [Chunk.new0]; rfl) (by simp) (by simp) (.cons (.refl _) (.cons (.nil List.mem_cons_self) (.cons (.refl _) (.cons (.refl _) (.cons (.refl _) .nil))))) (.new List.mem_cons_self .nil)) ⟨Nat.zero_le _, Nat.le_refl _, hB.symm⟩ ?_
 rintro ⟨j, o⟩ ⟨h2, h4, h3⟩
 simp only at h2 h3 h4 ⊢
 rcases Nat.lt_or_ge j L.length with hj | hj
 ·rw [List.drop_eq_getElem_cons hj] at h3
  have hme : (avP L)[j]? = some (.agg [.int .i64 L[j].1, .int .i64 L[j].2]) := by simp [avP, hj]
  generalize L[j] = t at hme h3
  conv => whnf
  repeat' (first | ((first | (refine And.intro rfl ?_) | (refine And.intro ⟨by decide, by decide⟩ ?_) | (refine BsK.pure (fun x hx => by rcases List.mem_singleton.1 hx with rfl; rfl) rfl ?_) | (refine Wr.i64 (by omega) (by omega) ?_) | (refine IdxK.at (k := j) rfl hme rfl ?_) | (refine IdxL.mk 1 rfl (by decide) ?_) | (refine IdxL.mk 0 rfl (by decide) ?_) | (refine AppK.int1 (by simp) (by simp; omega) ?_)); conv => whnf) | (refine Br.dec (fun _ => ?_) (fun _ => ?_) <;> first | (exfalso; omega) | conv => whnf))
  all_goals first
   | (have e : decide (t.2 = id) = true := decide_eq_true (by assumption)
      rw [List.filter_cons_of_pos (by exact e), List.map_cons] at h3
      exact ⟨(j + 1, o ++ [t.1]), ⟨hj, by simp; omega, by rw [List.append_assoc]; exact h3⟩, by simp only; omega, Le.of_eq (by simp only [List.length_append, List.map_append, List.length_map]; rfl)⟩)
   | (have e : decide (t.2 = id) = false := decide_eq_false (by assumption)
      rw [List.filter_cons_of_neg (fun hh => by rw [e] at hh; cases hh)] at h3
      exact ⟨(j + 1, o), ⟨hj, by simp only; omega, h3⟩, by simp only; omega, Le.of_eq rfl⟩)
   | trace_state
 ·rw [List.drop_eq_nil_of_le hj] at h3
  simp only [List.filter_nil, List.map_nil, List.append_nil] at h3
  conv => whnf
  repeat' (refine Br.dec (fun _ => ?_) (fun _ => ?_) <;> first | (exfalso; omega) | conv => whnf)
  all_goals first
   | exact ⟨_, LSub.refl _, by rw [← h3], by rw [← h3]⟩
   | trace_state
end Own
open Go.Proofs
inductive Pth (R : Int → Int → Prop) (Q : Int → Prop) : Int → Int → Prop
 | refl (a : Int) : Pth R Q a a
 | head {a t b : Int} (hq : Q a) (hr : R a t) (h : Pth R Q t b) : Pth R Q a b
theorem Pth.one {R : Int → Int → Prop} {Q : Int → Prop} {a b : Int} (hq : Q a) (hr : R a b) : Pth R Q a b := .head hq hr (.refl b)
theorem Pth.trans {R : Int → Int → Prop} {Q : Int → Prop} {a b c : Int} (h : Pth R Q a b) (h' : Pth R Q b c) : Pth R Q a c := by
 induction h with
 | refl => exact h'
 | head hq hr _ ih => exact .head hq hr (ih h')
theorem Pth.mono {R : Int → Int → Prop} {Q Q' : Int → Prop} (hQ : ∀ v, Q v → Q' v) {a b : Int} (h : Pth R Q a b) : Pth R Q' a b := by
 induction h with
 | refl => exact .refl _
 | head hq hr _ ih => exact .head (hQ _ hq) hr ih
inductive AvdD (R : Int → Int → Prop) (D : Int → Prop) : Int → Prop
 | exit (h : ¬ D (-1)) : AvdD R D (-1)
 | step {a t : Int} (ha : ¬ D a) (hs : R a t) (h : AvdD R D t) : AvdD R D a
theorem AvdD.mono {R : Int → Int → Prop} {D D' : Int → Prop} (hD : ∀ v, D' v → D v) {a : Int} (h : AvdD R D a) : AvdD R D' a := by
 induction h with
 | exit h => exact .exit fun hd => h (hD _ hd)
 | step ha hs _ ih => exact .step (fun hd => ha (hD _ hd)) hs ih
theorem AvdD.one {R : Int → Int → Prop} {D : Int → Prop} {a b : Int} (hb : D b) (h : AvdD R D a) : AvdP R b a := by
 induction h with
 | exit h => exact .exit fun e => h (e ▸ hb)
 | step ha hs _ ih => exact .step (fun e => ha (e ▸ hb)) hs ih
theorem Pth.off {R : Int → Int → Prop} {Q D : Int → Prop} {a c : Int} (h : Pth R Q a c) (hQ : ∀ v, Q v → ¬ D v) (hc : AvdD R D c) : AvdD R D a := by
 induction h with
 | refl => exact hc
 | head hq hr _ ih => exact .step (hQ _ hq) hr (ih hc)
theorem avd_no_self {R : Int → Int → Prop} {b : Int} : ¬ AvdP R b b := fun h => by
 cases h with
 | exit h => exact h rfl
 | step h _ _ => exact h rfl
def stepI (sh : Sheet) (f : Pr) (R : Int → Int → Prop) (l : List Item) : Prop := ∀ it ∈ l, (∀ y ∈ goesI sh f it, R it.s.id y) ∧ (7 ≤ it.s.kind → R it.s.id it.next)
theorem stepI.sub {sh : Sheet} {f : Pr} {R : Int → Int → Prop} {l m : List Item} (h : stepI sh f R l) (hs : ∀ x ∈ m, x ∈ l) : stepI sh f R m := fun it hi => h it (hs it hi)
def rng (a b : Int) (v : Int) : Prop := a ≤ v ∧ v ≤ b
theorem ids_it {proc up nx lp : Int} {n : Nat} {nest m : Int} {l : List S} (h : rowL nest n l = some m) {y : Int} (h1 : (n : Int) + 1 ≤ y) (h2 : y ≤ (n : Int) + cntL l) : ∃ it ∈ itL proc up nx lp n l, it.s.id = y := by
 have h3 : y ∈ idsN n (cntL l) := idsN_has h1 (by omega)
 rw [← rowL_ids nest l h, ← itL_s proc up nx lp n l, List.map_map] at h3
 obtain ⟨it, hi, he⟩ := List.mem_map.1 h3
 exact ⟨it, hi, he⟩
open Go.Proofs
theorem Wr.u64 {n : Int} {K : Int → Prop} (h1 : 0 ≤ n) (h2 : n ≤ 18446744073709551615) (hk : K n) : Wr .u64 n K :=
 .fit ⟨by simp [IntKind.min, IntKind.signed]; omega, by simp [IntKind.max, IntKind.signed, IntKind.bits]; omega⟩ hk
theorem ValO.half {P : Program} {hr : Bool} {s : St} {o : Oper} {K : LV → Prop} {t u : TypeId} {x y : Operand} (hop : o.op = .binOp .shr t x y u) {a : Int} (ha : 0 ≤ a) (hx : evalO s.sl x = .p (.int .u64 a)) (hy : evalO s.sl y = .p (.int .u64 1)) {m : Int} (hm : m = a / 2) (hK : K (.p (.int .u64 m))) : ValO P hr s o K := by
 subst hm
 refine ⟨fun σ β ac w hs _ => ⟨_, .int .u64 (a / 2), hK, .p (.int _ _), fun w' _ _ => ?_⟩⟩
 have h1 := evalO_rep hs x
 have h2 := evalO_rep hs y
 rw [hx] at h1
 rw [hy] at h2
 cases h1 with
 | p h1 =>
   cases h2 with
   | p h2 =>
     have key : ∀ (n : Int) (v : Value), Rep σ (.int .u64 n) v → v = .int .u64 n := fun n v hv => by
      cases hv
      rfl
     have e1 := key _ _ h1
     have e2 := key _ _ h2
     have e3 : a.fdiv (2 ^ 1) = a / 2 := Int.fdiv_eq_ediv_of_nonneg _ (by decide)
     have hg : (eqGuard .shr t x y (.int .u64 a) (.int .u64 1)).run P w' = .ok () w' := by unfold eqGuard; rfl
     simp only [execOp, hop, e1, e2, Sem.run_bind, hg, Result.andThen_ok, binOp, Op.shift]
     rw [if_neg (by decide)]
     simp only [show min (1 : Int).toNat IntKind.u64.bits = 1 by decide, e3]
     rfl
def rowN (l : List Int) : Heap := [(1000, .own 3 1 (l.map (.int .i64)))]
theorem row_get {l : List Int} {k : Nat} {x : Int} (h : l[k]? = some x) : (l.map (AV.int .i64))[k]? = some (.int .i64 x) := by rw [List.getElem?_map, h]; rfl
def swapM (P X Q Y S : List Int) (i : Nat) : List Int := P ++ (Y.take i ++ X.drop i) ++ Q ++ (X.take i ++ Y.drop i) ++ S
theorem swapM_len {P X Q Y S : List Int} (h : X.length = Y.length) (i : Nat) (hi : i ≤ X.length) : (swapM P X Q Y S i).length = P.length + X.length + Q.length + X.length + S.length := by
 unfold swapM
 simp only [List.length_append, List.length_take, List.length_drop]
 omega
theorem swapM_x {P X Q Y S : List Int} (h : X.length = Y.length) {i : Nat} (hi : i < X.length) : (swapM P X Q Y S i)[P.length + i]? = some X[i] := by
 unfold swapM
 have e1 : (Y.take i).length = i := by rw [List.length_take]; omega
 rw [List.append_assoc, List.append_assoc, List.append_assoc, List.getElem?_append_right (by omega), show P.length + i - P.length = i by omega, List.append_assoc, List.getElem?_append_right (by omega), e1, Nat.sub_self, List.getElem?_append_left (by rw [List.length_drop]; omega), List.getElem?_drop, Nat.add_zero, List.getElem?_eq_getElem hi]
theorem swapM_y {P X Q Y S : List Int} (h : X.length = Y.length) {i : Nat} (hi : i < X.length) : (swapM P X Q Y S i)[P.length + X.length + Q.length + i]? = some (Y[i]'(by omega)) := by
 unfold swapM
 have e1 : (Y.take i).length = i := by rw [List.length_take]; omega
 have e2 : (X.take i).length = i := by rw [List.length_take]; omega
 have e3 : (P ++ (Y.take i ++ X.drop i) ++ Q).length = P.length + X.length + Q.length := by
  simp only [List.length_append, List.length_drop, e1]
  omega
 rw [List.append_assoc, List.getElem?_append_right (by omega), e3, show P.length + X.length + Q.length + i - (P.length + X.length + Q.length) = i by omega, List.append_assoc, List.getElem?_append_right (by omega), e2, Nat.sub_self, List.getElem?_append_left (by rw [List.length_drop]; omega), List.getElem?_drop, Nat.add_zero, List.getElem?_eq_getElem (by omega)]
theorem set_mid (A B : List Int) (x y : Int) {k : Nat} (hk : k = A.length) : (A ++ x :: B).set k y = A ++ y :: B := by
 subst hk
 rw [List.set_append_right _ _ (Nat.le_refl _), Nat.sub_self, List.set_cons_zero]
theorem swapM_set {P X Q Y S : List Int} (h : X.length = Y.length) {i : Nat} (hi : i < X.length) : ((swapM P X Q Y S i).set (P.length + i) (Y[i]'(by omega))).set (P.length + X.length + Q.length + i) X[i] = swapM P X Q Y S (i + 1) := by
 have e1 : (Y.take i).length = i := by rw [List.length_take]; omega
 have e2 : (X.take i).length = i := by rw [List.length_take]; omega
 have d1 : X.drop i = X[i] :: X.drop (i + 1) := List.drop_eq_getElem_cons hi
 have d2 : Y.drop i = (Y[i]'(by omega)) :: Y.drop (i + 1) := List.drop_eq_getElem_cons (by omega)
 have t1 : X.take (i + 1) = X.take i ++ [X[i]] := List.take_succ_eq_append_getElem hi
 have t2 : Y.take (i + 1) = Y.take i ++ [Y[i]'(by omega)] := List.take_succ_eq_append_getElem (by omega)
 have dl : (X.drop (i + 1)).length = X.length - (i + 1) := List.length_drop
 unfold swapM
 rw [d1, d2, t1, t2]
 clear d1 d2 t1 t2
 generalize X[i] = x
 generalize Y[i]'(by omega) = y
 generalize Y.take i = a at e1
 generalize X.take i = b at e2
 generalize X.drop (i + 1) = c at dl
 generalize Y.drop (i + 1) = d
 have s1 : P ++ (a ++ x :: c) ++ Q ++ (b ++ y :: d) ++ S = (P ++ a) ++ x :: (c ++ Q ++ (b ++ y :: d) ++ S) := by simp
 rw [s1, set_mid _ _ _ _ (by rw [List.length_append]; omega)]
 have s2 : (P ++ a) ++ y :: (c ++ Q ++ (b ++ y :: d) ++ S) = (P ++ a ++ y :: c ++ Q ++ b) ++ y :: (d ++ S) := by simp
 rw [s2, set_mid _ _ _ _ (by simp only [List.length_append, List.length_cons]; omega)]
 simp
theorem slices_swapRangeCmpFunc_int_ (P X Q Y S : List Int) (h : X.length = Y.length) (c : AV) (hl : P.length + X.length + Q.length + Y.length + S.length ≤ 1000000) : SpecH Tryz.prog 322 [.hd 1000 0 (P.length+X.length+Q.length+X.length+S.length), .p (.int .i64 P.length), .p (.int .i64 (P.length+X.length+Q.length : Nat)), .p (.int .i64 X.length), .p c] (rowN (swapM P X Q Y S 0)) (fun r H => r = .p (.tup []) ∧ H = rowN (swapM P X Q Y S X.length)) := by
 refine SpecH.body I_slices_swapRangeCmpFunc_int_ tabOK Tryz.func322 rfl Tryz.call322 (by show 5 ≤ _; decide) ?_
 conv => whnf
 skip
 refine LoopK.inv tabOK (fun i : Nat => ⟨[(0, .hd 1000 0 (P.length+X.length+Q.length+X.length+S.length)), (1, .p (.int .i64 P.length)), (2, .p (.int .i64 (P.length+X.length+Q.length : Nat))), (3, .p (.int .i64 X.length)), (10, .p (.int .i64 i))], rowN (swapM P X Q Y S i)⟩) (fun i => i ≤ X.length) (fun i => X.length - i) 0 (Le.of_eq rfl) (Nat.zero_le _) ?_
 intro i h2
 rcases Nat.lt_or_ge i X.length with hi | hi
 ·have hlen := swapM_len (P := P) (Q := Q) (S := S) h i h2
  have g1 := row_get (swapM_x (P := P) (Q := Q) (S := S) h hi)
  have g2 := row_get (swapM_y (P := P) (Q := Q) (S := S) h hi)
  have hst := swapM_set (P := P) (Q := Q) (S := S) h hi
  generalize swapM P X Q Y S i = row at hlen g1 g2 hst ⊢
  generalize X[i] = x at g1 hst
  generalize Y[i]'(by omega) = y at g2 hst
  have g3 : ((row.map (AV.int .i64)).set (P.length + i) (.int .i64 y))[P.length + X.length + Q.length + i]? = some (.int .i64 y) := by rw [List.getElem?_set_ne (by omega)]; exact g2
  unfold rowN
  conv => whnf
  repeat' (first | ((first | (refine DrawK.auto tabOK mixed (by kernel_rfl) ?_) | (refine And.intro rfl ?_) | (refine Wr.i64 (by omega) (by omega) ?_) | (refine IdxL.mk (P.length+i) (by omega) (by omega) ?_) | (refine IdxL.mk (P.length+X.length+Q.length+i) (by omega) (by omega) ?_) | (refine LdOwn.mk (P.length+X.length+Q.length+i) 0 _ (by omega) g2 ?_) | (refine LdOwn.mk (P.length+i) 0 _ (by omega) g1 ?_) | (refine StOwn.mk (P.length+i) 0 _ (.int .i64 y) (by omega) g1 (Nat.le_refl _) rfl ?_) | (refine StOwn.mk (P.length+X.length+Q.length+i) 0 _ (.int .i64 x) (by omega) g3 (Nat.le_refl _) rfl ?_)); conv => whnf) | (refine Br.dec (fun _ => ?_) (fun _ => ?_) <;> first | (exfalso; omega) | conv => whnf))
  exact ⟨i + 1, by omega, by omega, Le.of_eq (by rw [← hst, List.map_set, List.map_set]; rfl)⟩
 ·have he : i = X.length := by omega
  subst he
  unfold rowN
  conv => whnf
  repeat' (refine Br.dec (fun _ => ?_) (fun _ => ?_) <;> first | (exfalso; omega) | conv => whnf)
  exact ⟨_, LSub.refl _, rfl, rfl⟩
open Go.Proofs
def Swapd (row row' : List Int) (a b n : Nat) : Prop := ∃ P X Q Y S, X.length = Y.length ∧ X.length = n ∧ a = P.length ∧ b = P.length + X.length + Q.length ∧ row = P ++ X ++ Q ++ Y ++ S ∧ row' = P ++ Y ++ Q ++ X ++ S
theorem Swapd.len {row row' : List Int} {a b n : Nat} (h : Swapd row row' a b n) : row'.length = row.length := by
 obtain ⟨P, X, Q, Y, S, h1, h2, h3, h4, rfl, rfl⟩ := h
 simp only [List.length_append]
 omega
theorem swapRange_spec (row row' : List Int) (a b n N : Nat) (h : Swapd row row' a b n) (hN : N = row.length) (c : AV) (hl : row.length ≤ 1000000) :
  SpecH Tryz.prog 322 [.hd 1000 0 N, .p (.int .i64 a), .p (.int .i64 b), .p (.int .i64 n), .p c] (rowN row) (fun r H => r = .p (.tup []) ∧ H = rowN row') := by
 obtain ⟨P, X, Q, Y, S, h1, h2, h3, h4, h5, h6⟩ := h
 subst h2
 have hr : row = swapM P X Q Y S 0 := by rw [h5]; unfold swapM; simp
 have hr' : row' = swapM P X Q Y S X.length := by
  rw [h6]
  unfold swapM
  rw [List.take_of_length_le (by omega : Y.length ≤ X.length), List.drop_of_length_le (Nat.le_refl _), List.take_of_length_le (Nat.le_refl _), List.drop_of_length_le (by omega : Y.length ≤ X.length)]
  simp
 have hlen : N = P.length + X.length + Q.length + X.length + S.length := by rw [hN, h5]; simp only [List.length_append]; omega
 have hll : P.length + X.length + Q.length + Y.length + S.length ≤ 1000000 := by rw [h5] at hl; simp only [List.length_append] at hl; omega
 have := slices_swapRangeCmpFunc_int_ P X Q Y S h1 c hll
 rw [hr, hr', hlen, h3, h4]
 exact this
structure RotI (W row : List Int) (m i j : Nat) : Prop where
 i0 : 0 < i
 j0 : 0 < j
 ex : ∃ P X Y S, X.length = i ∧ Y.length = j ∧ P.length + i = m ∧ row = P ++ X ++ Y ++ S ∧ W = P ++ Y ++ X ++ S
theorem RotI.len {W row : List Int} {m i j : Nat} (h : RotI W row m i j) : i ≤ m ∧ m + j ≤ row.length ∧ row.length = W.length := by
 obtain ⟨P, X, Y, S, h1, h2, h3, rfl, rfl⟩ := h.ex
 simp only [List.length_append]
 omega
theorem RotI.gt {W row : List Int} {m i j : Nat} (h : RotI W row m i j) (hg : j < i) : ∃ row', Swapd row row' (m - i) m j ∧ RotI W row' m (i - j) j := by
 obtain ⟨P, X, Y, S, h1, h2, h3, h4, h5⟩ := h.ex
 have e : X = X.take j ++ X.drop j := (List.take_append_drop j X).symm
 have l1 : (X.take j).length = j := by rw [List.length_take]; omega
 have l2 : (X.drop j).length = i - j := by rw [List.length_drop]; omega
 refine ⟨P ++ Y ++ X.drop j ++ X.take j ++ S, ⟨P, X.take j, X.drop j, Y, S, by omega, l1, by omega, by omega, ?_, rfl⟩, ⟨by omega, h.j0, P ++ Y, X.drop j, X.take j, S, l2, l1, by rw [List.length_append]; omega, rfl, ?_⟩⟩
 ·rw [h4]
  conv => lhs; rw [e]
  simp
 ·rw [h5]
  conv => lhs; rw [e]
  simp
theorem RotI.lt {W row : List Int} {m i j : Nat} (h : RotI W row m i j) (hg : i < j) : ∃ row', Swapd row row' (m - i) (m + j - i) i ∧ RotI W row' m i (j - i) := by
 obtain ⟨P, X, Y, S, h1, h2, h3, h4, h5⟩ := h.ex
 have e : Y = Y.take (j - i) ++ Y.drop (j - i) := (List.take_append_drop (j - i) Y).symm
 have l1 : (Y.take (j - i)).length = j - i := by rw [List.length_take]; omega
 have l2 : (Y.drop (j - i)).length = i := by rw [List.length_drop]; omega
 refine ⟨P ++ Y.drop (j - i) ++ Y.take (j - i) ++ X ++ S, ⟨P, X, Y.take (j - i), Y.drop (j - i), S, by omega, h1, by omega, by omega, ?_, rfl⟩, ⟨h.i0, by omega, P, Y.drop (j - i), Y.take (j - i), X ++ S, l2, l1, by omega, by simp, ?_⟩⟩
 ·rw [h4]
  conv => lhs; rw [e]
  simp
 ·rw [h5]
  conv => lhs; rw [e]
  simp
theorem RotI.eq {W row : List Int} {m i : Nat} (h : RotI W row m i i) : Swapd row W (m - i) m i := by
 obtain ⟨P, X, Y, S, h1, h2, h3, h4, h5⟩ := h.ex
 exact ⟨P, X, [], Y, S, by omega, h1, by omega, by simp; omega, by rw [h4]; simp, by rw [h5]; simp⟩
theorem slices_rotateCmpFunc_int_ (W row : List Int) (a m b N : Nat) (h : RotI W row m (m-a) (b-m)) (ha : a ≤ m) (hb : m ≤ b) (hN : N = row.length) (c : AV) (hl : row.length ≤ 1000000) : SpecH Tryz.prog 311 [.hd 1000 0 N, .p (.int .i64 a), .p (.int .i64 m), .p (.int .i64 b), .p c] (rowN row) (fun r H => r = .p (.tup []) ∧ H = rowN W) := by
 refine SpecH.body I_slices_rotateCmpFunc_int_ tabOK Tryz.func311 rfl Tryz.call311 (by show 5 ≤ _; decide) ?_
 conv => whnf
 have hl0 := h.len
 repeat' (refine Wr.i64 (by omega) (by omega) ?_; conv => whnf)
 refine LoopK.inv tabOK (fun x : List Int × Nat × Nat => ⟨[(0, .hd 1000 0 N), (2, .p (.int .i64 m)), (4, .p c), (10, .p (.int .i64 x.2.1)), (11, .p (.int .i64 x.2.2))], rowN x.1⟩) (fun x => RotI W x.1 m x.2.1 x.2.2 ∧ x.1.length = N) (fun x => x.2.1 + x.2.2) (row, m - a, b - m)
  (Le.of_eq (by simp only; rw [show ((m - a : Nat) : Int) = (m : Int) - a by omega, show ((b - m : Nat) : Int) = (b : Int) - m by omega]; rfl)) ⟨h, hN.symm⟩ ?_
 rintro ⟨rw', i, j⟩ ⟨h1, h2⟩
 simp only at h1 h2 ⊢
 have hln := h1.len
 rcases Nat.lt_trichotomy i j with hij | hij | hij
 ·obtain ⟨rw2, h3, h4⟩ := h1.lt hij
  have hS := swapRange_spec rw' rw2 _ _ _ N h3 h2.symm c (by omega)
  have hl3 := h3.len
  conv => whnf
  repeat' (first | ((first | (refine Wr.i64 (by omega) (by omega) ?_) | (refine CallK.heap [(1000, 1000)] 5 (ArgsH.cons (LSub.refl _) (ArgsH.cons (LSub.p (Sub.int (by omega))) (ArgsH.cons (LSub.p (Sub.int (by omega))) (ArgsH.cons (LSub.p (Sub.int (by omega))) (ArgsH.cons (LSub.refl _) ArgsH.nil))))) (by refine BlksH.cons (j := 1000) rfl rfl ?_ ?_; exact CSub.refl _; exact BlksH.nil) hS rfl rfl ?_; rintro l' H' ⟨rfl, rfl⟩)); conv => whnf) | (refine Br.dec (fun _ => ?_) (fun _ => ?_) <;> first | (exfalso; omega) | conv => whnf) | (refine Br.dec2 (fun _ => ?_) (fun _ => ?_) <;> first | (exfalso; omega) | conv => whnf))
  all_goals first
   | (exfalso; omega)
   | exact ⟨(rw2, i, j - i), ⟨h4, by simp only; omega⟩, by simp only; have := h1.i0; omega, Le.of_eq (by simp only; rw [show ((j - i : Nat) : Int) = (j : Int) - i by omega]; rfl)⟩
   | skip
 ·subst hij
  have h3 := h1.eq
  have hS := swapRange_spec rw' W _ _ _ N h3 h2.symm c (by omega)
  conv => whnf
  repeat' (first | ((first | (refine Wr.i64 (by omega) (by omega) ?_) | (refine CallK.heap [(1000, 1000)] 5 (ArgsH.cons (LSub.refl _) (ArgsH.cons (LSub.p (Sub.int (by omega))) (ArgsH.cons (LSub.p (Sub.int (by omega))) (ArgsH.cons (LSub.p (Sub.int (by omega))) (ArgsH.cons (LSub.refl _) ArgsH.nil))))) (by refine BlksH.cons (j := 1000) rfl rfl ?_ ?_; exact CSub.refl _; exact BlksH.nil) hS rfl rfl ?_; rintro l' H' ⟨rfl, rfl⟩)); conv => whnf) | (refine Br.dec2 (fun _ => ?_) (fun _ => ?_) <;> first | (exfalso; omega) | conv => whnf))
  all_goals first
   | (exfalso; omega)
   | exact ⟨_, LSub.refl _, rfl, rfl⟩
   | skip
 ·obtain ⟨rw2, h3, h4⟩ := h1.gt hij
  have hS := swapRange_spec rw' rw2 _ _ _ N h3 h2.symm c (by omega)
  have hl3 := h3.len
  conv => whnf
  repeat' (first | ((first | (refine Wr.i64 (by omega) (by omega) ?_) | (refine CallK.heap [(1000, 1000)] 5 (ArgsH.cons (LSub.refl _) (ArgsH.cons (LSub.p (Sub.int (by omega))) (ArgsH.cons (LSub.p (Sub.int (by omega))) (ArgsH.cons (LSub.p (Sub.int (by omega))) (ArgsH.cons (LSub.refl _) ArgsH.nil))))) (by refine BlksH.cons (j := 1000) rfl rfl ?_ ?_; exact CSub.refl _; exact BlksH.nil) hS rfl rfl ?_; rintro l' H' ⟨rfl, rfl⟩)); conv => whnf) | (refine Br.dec (fun _ => ?_) (fun _ => ?_) <;> first | (exfalso; omega) | conv => whnf) | (refine Br.dec2 (fun _ => ?_) (fun _ => ?_) <;> first | (exfalso; omega) | conv => whnf))
  all_goals first
   | (exfalso; omega)
   | exact ⟨(rw2, i - j, j), ⟨h4, by simp only; omega⟩, by simp only; have := h1.j0; omega, Le.of_eq (by simp only; rw [show ((i - j : Nat) : Int) = (i : Int) - j by omega]; rfl)⟩
   | skip
open Go.Proofs
def getz (l : List Int) (i : Nat) : Int := l.getD i 0
theorem getz_some {l : List Int} {i : Nat} (h : i < l.length) : l[i]? = some (getz l i) := by
 unfold getz
 rw [List.getD_eq_getElem?_getD, List.getElem?_eq_getElem h]
 rfl
theorem getz_ext {l m : List Int} (hl : l.length = m.length) (h : ∀ i, i < l.length → getz l i = getz m i) : l = m := by
 refine List.ext_getElem? fun i => ?_
 rcases Nat.lt_or_ge i l.length with hi | hi
 ·rw [getz_some hi, getz_some (by omega), h i hi]
 ·rw [List.getElem?_eq_none hi, List.getElem?_eq_none (by omega)]
theorem getz_set {l : List Int} {k i : Nat} {x : Int} (hk : k < l.length) : getz (l.set k x) i = if i = k then x else getz l i := by
 unfold getz
 rw [List.getD_eq_getElem?_getD, List.getElem?_set]
 by_cases h : k = i
 ·subst h
  simp [hk]
 ·rw [if_neg h, if_neg (Ne.symm h), List.getD_eq_getElem?_getD]
theorem getz_app {A B : List Int} {i : Nat} : getz (A ++ B) i = if i < A.length then getz A i else getz B (i - A.length) := by
 unfold getz
 rw [List.getD_eq_getElem?_getD]
 split
 ·rename_i h
  rw [List.getElem?_append_left h, List.getD_eq_getElem?_getD]
 ·rename_i h
  rw [List.getElem?_append_right (by omega), List.getD_eq_getElem?_getD]
theorem getz_mem {l : List Int} {i : Nat} (h : i < l.length) : getz l i ∈ l := by
 have := getz_some h
 exact List.mem_of_getElem? this
def PermIn (row row' : List Int) (a b : Nat) : Prop := ∃ P C D S, P.length = a ∧ P.length + C.length = b ∧ row = P ++ C ++ S ∧ row' = P ++ D ++ S ∧ D.Perm C
theorem PermIn.len {row row' : List Int} {a b : Nat} (h : PermIn row row' a b) : row'.length = row.length ∧ a ≤ b ∧ b ≤ row.length := by
 obtain ⟨P, C, D, S, h1, h2, rfl, rfl, h3⟩ := h
 have := h3.length_eq
 simp only [List.length_append]
 omega
theorem PermIn.perm {row row' : List Int} {a b : Nat} (h : PermIn row row' a b) : row'.Perm row := by
 obtain ⟨P, C, D, S, h1, h2, rfl, rfl, h3⟩ := h
 exact ((List.perm_append_left_iff P).2 h3).append_right S
theorem PermIn.out {row row' : List Int} {a b : Nat} (h : PermIn row row' a b) {i : Nat} (hi : i < a ∨ b ≤ i) : getz row' i = getz row i := by
 obtain ⟨P, C, D, S, h1, h2, rfl, rfl, h3⟩ := h
 have hl := h3.length_eq
 rw [getz_app, getz_app, getz_app, getz_app]
 simp only [List.length_append]
 rcases hi with hi | hi
 ·rw [if_pos (by omega), if_pos (by omega), if_pos (by omega), if_pos (by omega)]
 ·rw [if_neg (by omega), if_neg (by omega)]
  congr 1
  omega
theorem PermIn.inn {row row' : List Int} {a b : Nat} (h : PermIn row row' a b) {i : Nat} (h1 : a ≤ i) (h2 : i < b) : ∃ k, a ≤ k ∧ k < b ∧ getz row' i = getz row k := by
 obtain ⟨P, C, D, S, h3, h4, rfl, rfl, h5⟩ := h
 have hl := h5.length_eq
 have hd : i - P.length < D.length := by omega
 have hm : getz D (i - P.length) ∈ C := h5.mem_iff.1 (getz_mem hd)
 obtain ⟨k, hk, he⟩ := List.mem_iff_getElem.1 hm
 refine ⟨P.length + k, by omega, by omega, ?_⟩
 have e1 : getz (P ++ D ++ S) i = getz D (i - P.length) := by
  rw [getz_app, getz_app, List.length_append, if_pos (by omega), if_neg (by omega)]
 have e2 : getz (P ++ C ++ S) (P.length + k) = getz C k := by
  rw [getz_app, getz_app, List.length_append, if_pos (by omega), if_neg (by omega)]
  congr 1
  omega
 rw [e1, e2, ← he]
 have := getz_some hk
 rw [List.getElem?_eq_getElem hk] at this
 exact Option.some.inj this
theorem split3 {row : List Int} {a b : Nat} (h1 : a ≤ b) (h2 : b ≤ row.length) : ∃ P C S, P.length = a ∧ P.length + C.length = b ∧ row = P ++ C ++ S := by
 refine ⟨row.take a, (row.take b).drop a, row.drop b, by rw [List.length_take]; omega, by rw [List.length_take, List.length_drop, List.length_take]; omega, ?_⟩
 have e1 : row.take b = (row.take b).take a ++ (row.take b).drop a := (List.take_append_drop a _).symm
 rw [List.take_take, show min a b = a by omega] at e1
 rw [← e1, List.take_append_drop]
theorem PermIn.refl {row : List Int} {a b : Nat} (h1 : a ≤ b) (h2 : b ≤ row.length) : PermIn row row a b := by
 obtain ⟨P, C, S, h3, h4, h5⟩ := split3 h1 h2
 exact ⟨P, C, C, S, h3, h4, h5, h5, .refl _⟩
theorem PermIn.trans {r1 r2 r3 : List Int} {a b : Nat} (h : PermIn r1 r2 a b) (h' : PermIn r2 r3 a b) : PermIn r1 r3 a b := by
 obtain ⟨P, C, D, S, h1, h2, rfl, rfl, h3⟩ := h
 obtain ⟨P', C', D', S', h1', h2', h4, rfl, h3'⟩ := h'
 have hl := h3.length_eq
 rw [List.append_assoc, List.append_assoc] at h4
 obtain ⟨rfl, h5⟩ := List.append_inj h4 (by omega)
 obtain ⟨rfl, rfl⟩ := List.append_inj h5 (by omega)
 exact ⟨P, C, D', S, h1, h2, rfl, rfl, h3'.trans h3⟩
theorem PermIn.wide {row row' : List Int} {a b a' b' : Nat} (h : PermIn row row' a b) (h1 : a' ≤ a) (h2 : b ≤ b') (h3 : b' ≤ row.length) : PermIn row row' a' b' := by
 obtain ⟨P, C, D, S, h4, h5, rfl, rfl, h6⟩ := h
 simp only [List.length_append] at h3
 refine ⟨P.take a', P.drop a' ++ C ++ S.take (b' - b), P.drop a' ++ D ++ S.take (b' - b), S.drop (b' - b), by rw [List.length_take]; omega, ?_, ?_, ?_, ?_⟩
 ·simp only [List.length_append, List.length_take, List.length_drop]
  omega
 ·rw [show P.take a' ++ (P.drop a' ++ C ++ S.take (b' - b)) ++ S.drop (b' - b) = (P.take a' ++ P.drop a') ++ C ++ (S.take (b' - b) ++ S.drop (b' - b)) by simp only [List.append_assoc], List.take_append_drop, List.take_append_drop]
 ·rw [show P.take a' ++ (P.drop a' ++ D ++ S.take (b' - b)) ++ S.drop (b' - b) = (P.take a' ++ P.drop a') ++ D ++ (S.take (b' - b) ++ S.drop (b' - b)) by simp only [List.append_assoc], List.take_append_drop, List.take_append_drop]
 ·exact ((List.perm_append_left_iff _).2 h6).append_right _
theorem PermIn.adj {row : List Int} {k : Nat} (h : k + 1 < row.length) : PermIn row ((row.set k (getz row (k + 1))).set (k + 1) (getz row k)) k (k + 2) := by
 obtain ⟨P, C, S, h1, h2, h3⟩ := split3 (row := row) (a := k) (b := k + 2) (by omega) (by omega)
 match C, h2 with
 | [x, y], h2 =>
   refine ⟨P, [x, y], [y, x], S, h1, h2, h3, ?_, .swap x y []⟩
   have ex : getz row k = x := by rw [h3, getz_app, getz_app, List.length_append, if_pos (by simp; omega), if_neg (by omega), show k - P.length = 0 by omega]; rfl
   have ey : getz row (k + 1) = y := by rw [h3, getz_app, getz_app, List.length_append, if_pos (by simp; omega), if_neg (by omega), show k + 1 - P.length = 1 by omega]; rfl
   rw [ex, ey, h3]
   have s1 : P ++ [x, y] ++ S = P ++ x :: (y :: S) := by simp
   rw [s1, set_mid _ _ _ _ h1.symm]
   have s2 : P ++ y :: (y :: S) = (P ++ [y]) ++ y :: S := by simp
   rw [s2, set_mid _ _ _ _ (by simp; omega)]
   simp
 | [], h2 => simp at h2; omega
 | [x], h2 => simp at h2; omega
 | _ :: _ :: _ :: _, h2 => simp at h2; omega
def srt (K : Int → Int) (l : List Int) (a b : Nat) : Prop := ∀ i k, a ≤ i → i < k → k < b → K (getz l k) ≤ K (getz l i)
theorem srt.le {K : Int → Int} {l : List Int} {a b i k : Nat} (h : srt K l a b) (h1 : a ≤ i) (h2 : i ≤ k) (h3 : k < b) : K (getz l k) ≤ K (getz l i) := by
 rcases Nat.lt_or_eq_of_le h2 with h4 | rfl
 ·exact h i k h1 h4 h3
 ·exact Int.le_refl _
def mvR (l : List Int) (a k : Nat) : List Int := (List.range l.length).map fun i => if i < a then getz l i else if i < k then getz l (i + 1) else if i = k then getz l a else getz l i
theorem mvR_len (l : List Int) (a k : Nat) : (mvR l a k).length = l.length := by unfold mvR; simp
theorem mvR_get {l : List Int} {a k i : Nat} (hi : i < l.length) : getz (mvR l a k) i = if i < a then getz l i else if i < k then getz l (i + 1) else if i = k then getz l a else getz l i := by
 show (mvR l a k).getD i 0 = _
 unfold mvR
 rw [List.getD_eq_getElem?_getD, List.getElem?_map, List.getElem?_range hi]
 rfl
theorem mvR_zero (l : List Int) (a : Nat) : mvR l a a = l := getz_ext (mvR_len _ _ _) fun i hi => by
 rw [mvR_len] at hi
 rw [mvR_get hi]
 by_cases c : i < a
 ·rw [if_pos c]
 ·rw [if_neg c, if_neg c]
  split
  ·rename_i h; rw [h]
  ·rfl
theorem mvR_step {l : List Int} {a k : Nat} (h1 : a ≤ k) (h2 : k + 1 < l.length) : ((mvR l a k).set k (getz (mvR l a k) (k + 1))).set (k + 1) (getz (mvR l a k) k) = mvR l a (k + 1) := getz_ext (by simp [mvR_len]) fun i hi => by
 simp only [List.length_set, mvR_len] at hi
 rw [getz_set (by simp [mvR_len]; omega), getz_set (by rw [mvR_len]; omega), mvR_get hi, mvR_get (by omega), mvR_get (by omega), mvR_get hi]
 by_cases e1 : i = k + 1
 ·subst e1
  rw [if_pos rfl, if_neg (by omega), if_neg (by omega), if_pos rfl, if_neg (by omega), if_neg (by omega), if_pos rfl]
 ·rw [if_neg e1]
  by_cases e2 : i = k
  ·subst e2
   rw [if_pos rfl, if_neg (by omega), if_neg (by omega), if_neg (by omega), if_neg (by omega), if_pos (by omega)]
  ·rw [if_neg e2]
   by_cases e3 : i < a
   ·rw [if_pos e3, if_pos e3]
   ·rw [if_neg e3, if_neg e3]
    by_cases e4 : i < k
    ·rw [if_pos e4, if_pos (by omega)]
    ·rw [if_neg e4, if_neg e2, if_neg (by omega), if_neg e1]
def mvL (l : List Int) (m k : Nat) : List Int := (List.range l.length).map fun i => if i < k then getz l i else if i = k then getz l m else if i ≤ m then getz l (i - 1) else getz l i
theorem mvL_len (l : List Int) (a k : Nat) : (mvL l a k).length = l.length := by unfold mvL; simp
theorem mvL_get {l : List Int} {m k i : Nat} (hi : i < l.length) : getz (mvL l m k) i = if i < k then getz l i else if i = k then getz l m else if i ≤ m then getz l (i - 1) else getz l i := by
 show (mvL l m k).getD i 0 = _
 unfold mvL
 rw [List.getD_eq_getElem?_getD, List.getElem?_map, List.getElem?_range hi]
 rfl
theorem mvL_zero (l : List Int) (a : Nat) : mvL l a a = l := getz_ext (mvL_len _ _ _) fun i hi => by
 rw [mvL_len] at hi
 rw [mvL_get hi]
 split
 ·rfl
 ·split
  ·rename_i h; rw [h]
  ·rw [if_neg (by omega)]
theorem mvL_step {l : List Int} {m k : Nat} (h1 : k + 1 ≤ m) (h2 : m < l.length) : ((mvL l m (k + 1)).set k (getz (mvL l m (k + 1)) (k + 1))).set (k + 1) (getz (mvL l m (k + 1)) k) = mvL l m k := getz_ext (by simp [mvL_len]) fun i hi => by
 simp only [List.length_set, mvL_len] at hi
 rw [getz_set (by simp [mvL_len]; omega), getz_set (by rw [mvL_len]; omega), mvL_get hi, mvL_get (by omega), mvL_get (by omega), mvL_get hi]
 by_cases e1 : i = k + 1
 ·subst e1
  rw [if_pos rfl, if_pos (by omega), if_neg (by omega), if_neg (by omega), if_pos (by omega)]
  rfl
 ·rw [if_neg e1]
  by_cases e2 : i = k
  ·subst e2
   rw [if_pos rfl, if_neg (by omega), if_pos rfl, if_neg (by omega), if_pos rfl]
  ·rw [if_neg e2]
   by_cases e3 : i < k
   ·rw [if_pos e3, if_pos (by omega)]
   ·rw [if_neg e3, if_neg e2, if_neg (by omega), if_neg e1]
theorem mvR_perm {l : List Int} {a : Nat} : ∀ {k : Nat}, a ≤ k → k < l.length → PermIn l (mvR l a k) a (k + 1)
 | 0, h1, h2 => by
   obtain rfl : a = 0 := by omega
   rw [mvR_zero]
   exact .refl (by omega) (by omega)
 | k + 1, h1, h2 => by
   by_cases he : a = k + 1
   ·subst he
    rw [mvR_zero]
    exact .refl (by omega) (by omega)
   ·have ih := mvR_perm (l := l) (a := a) (k := k) (by omega) (by omega)
    rw [← mvR_step (by omega) h2]
    exact (ih.wide (Nat.le_refl _) (by omega) (by omega)).trans ((PermIn.adj (by rw [mvR_len]; exact h2)).wide (by omega) (by omega) (by rw [mvR_len]; omega))
theorem mvL_perm {l : List Int} {m : Nat} (hm : m < l.length) : ∀ {d : Nat}, d ≤ m → PermIn l (mvL l m (m - d)) (m - d) (m + 1)
 | 0, _ => by
   rw [Nat.sub_zero, mvL_zero]
   exact .refl (by omega) (by omega)
 | d + 1, h => by
   have ih := mvL_perm hm (d := d) (by omega)
   have := mvL_step (l := l) (m := m) (k := m - (d + 1)) (by omega) hm
   rw [show m - (d + 1) + 1 = m - d by omega] at this
   rw [← this]
   have h1 := PermIn.adj (row := mvL l m (m - d)) (k := m - (d + 1)) (by rw [mvL_len]; omega)
   rw [show m - (d + 1) + 1 = m - d by omega] at h1
   exact (ih.wide (by omega) (Nat.le_refl _) (by omega)).trans (h1.wide (Nat.le_refl _) (by omega) (by rw [mvL_len]; omega))
theorem ins_up {K : Int → Int} {l : List Int} {a b i : Nat} (h1 : a + 1 ≤ i) (h2 : i ≤ b) (h3 : b ≤ l.length) (hs : srt K l (a + 1) b) (hlo : ∀ k, a + 1 ≤ k → k < i → K (getz l a) < K (getz l k)) (hhi : ∀ k, i ≤ k → k < b → K (getz l k) ≤ K (getz l a)) : srt K (mvR l a (i - 1)) a b := fun u v hu huv hv => by
 rw [mvR_get (by omega), mvR_get (by omega), if_neg (by omega : ¬ v < a), if_neg (by omega : ¬ u < a)]
 by_cases c1 : v < i - 1
 ·rw [if_pos c1, if_pos (by omega)]
  exact hs _ _ (by omega) (by omega) (by omega)
 ·rw [if_neg c1]
  by_cases c2 : v = i - 1
  ·rw [if_pos c2, if_pos (by omega)]
   exact Int.le_of_lt (hlo _ (by omega) (by omega))
  ·rw [if_neg c2]
   by_cases c3 : u < i - 1
   ·rw [if_pos c3]
    exact hs.le (by omega) (by omega) hv
   ·rw [if_neg c3]
    by_cases c4 : u = i - 1
    ·rw [if_pos c4]
     exact hhi _ (by omega) hv
    ·rw [if_neg c4]
     exact hs _ _ (by omega) huv hv
theorem ins_down {K : Int → Int} {l : List Int} {a m i : Nat} (h1 : a ≤ i) (h2 : i ≤ m) (h3 : m < l.length) (hs : srt K l a m) (hlo : ∀ k, a ≤ k → k < i → K (getz l m) ≤ K (getz l k)) (hhi : ∀ k, i ≤ k → k < m → K (getz l k) < K (getz l m)) : srt K (mvL l m i) a (m + 1) := fun u v hu huv hv => by
 rw [mvL_get (by omega), mvL_get (by omega)]
 by_cases c1 : v < i
 ·rw [if_pos c1, if_pos (by omega)]
  exact hs _ _ hu huv (by omega)
 ·rw [if_neg c1]
  by_cases c2 : v = i
  ·rw [if_pos c2, if_pos (by omega)]
   exact hlo _ hu (by omega)
  ·rw [if_neg c2, if_pos (by omega)]
   by_cases c3 : u < i
   ·rw [if_pos c3]
    exact hs.le hu (by omega) (by omega)
   ·rw [if_neg c3]
    by_cases c4 : u = i
    ·rw [if_pos c4]
     exact Int.le_of_lt (hhi _ (by omega) (by omega))
    ·rw [if_neg c4, if_pos (by omega)]
     exact hs _ _ (by omega) (by omega) (by omega)
def rotR (l : List Int) (s m e : Nat) : List Int := l.take s ++ (l.take e).drop m ++ (l.take m).drop s ++ l.drop e
theorem rotR_len {l : List Int} {s m e : Nat} (h1 : s ≤ m) (h2 : m ≤ e) (h3 : e ≤ l.length) : (rotR l s m e).length = l.length := by
 unfold rotR
 simp only [List.length_append, List.length_take, List.length_drop]
 omega
theorem getz_take {l : List Int} {e i : Nat} (h : i < e) : getz (l.take e) i = getz l i := by
 unfold getz
 rw [List.getD_eq_getElem?_getD, List.getElem?_take_of_lt h, List.getD_eq_getElem?_getD]
theorem getz_drop {l : List Int} {e i : Nat} : getz (l.drop e) i = getz l (e + i) := by
 unfold getz
 rw [List.getD_eq_getElem?_getD, List.getElem?_drop, List.getD_eq_getElem?_getD]
theorem rotR_get {l : List Int} {s m e i : Nat} (h1 : s ≤ m) (h2 : m ≤ e) (h3 : e ≤ l.length) : getz (rotR l s m e) i = if i < s then getz l i else if i < s + (e - m) then getz l (i - s + m) else if i < e then getz l (i - (e - m)) else getz l i := by
 have e1 : (l.take s).length = s := by rw [List.length_take]; omega
 have e2 : ((l.take e).drop m).length = e - m := by rw [List.length_drop, List.length_take]; omega
 have e3 : ((l.take m).drop s).length = m - s := by rw [List.length_drop, List.length_take]; omega
 unfold rotR
 rw [getz_app, getz_app, getz_app]
 simp only [List.length_append, e1, e2, e3]
 by_cases c1 : i < s
 ·rw [if_pos (by omega), if_pos (by omega), if_pos c1, if_pos c1, getz_take c1]
 ·rw [if_neg c1, if_neg c1]
  by_cases c2 : i < s + (e - m)
  ·rw [if_pos (by omega), if_pos c2, if_pos c2, getz_drop, getz_take (by omega)]
   congr 1
   omega
  ·rw [if_neg c2, if_neg c2]
   by_cases c3 : i < e
   ·rw [if_pos (by omega), if_pos c3, getz_drop, getz_take (by omega)]
    congr 1
    omega
   ·rw [if_neg (by omega), if_neg c3, getz_drop]
    congr 1
    omega
theorem rotR_cut {l : List Int} {s m e : Nat} (h1 : s ≤ m) (h2 : m ≤ e) (h3 : e ≤ l.length) : l = l.take s ++ (l.take m).drop s ++ (l.take e).drop m ++ l.drop e := by
 have e1 : l.take m = l.take s ++ (l.take m).drop s := by
  have := (List.take_append_drop s (l.take m)).symm
  rwa [List.take_take, show min s m = s by omega] at this
 have e2 : l.take e = l.take m ++ (l.take e).drop m := by
  have := (List.take_append_drop m (l.take e)).symm
  rwa [List.take_take, show min m e = m by omega] at this
 rw [← e1, ← e2, List.take_append_drop]
theorem rotR_perm {l : List Int} {s m e : Nat} (h1 : s ≤ m) (h2 : m ≤ e) (h3 : e ≤ l.length) : PermIn l (rotR l s m e) s e := by
 refine ⟨l.take s, (l.take m).drop s ++ (l.take e).drop m, (l.take e).drop m ++ (l.take m).drop s, l.drop e, by rw [List.length_take]; omega, ?_, ?_, ?_, List.perm_append_comm⟩
 ·simp only [List.length_append, List.length_take, List.length_drop]
  omega
 ·rw [← List.append_assoc]
  exact rotR_cut h1 h2 h3
 ·unfold rotR
  simp
theorem rotR_rot {l : List Int} {s m e : Nat} (h1 : s < m) (h2 : m < e) (h3 : e ≤ l.length) : RotI (rotR l s m e) l m (m - s) (e - m) :=
 ⟨by omega, by omega, l.take s, (l.take m).drop s, (l.take e).drop m, l.drop e, by rw [List.length_drop, List.length_take]; omega, by rw [List.length_drop, List.length_take]; omega, by rw [List.length_take]; omega, rotR_cut (by omega) (by omega) h3, rfl⟩
theorem rotR_none {l : List Int} {s m e : Nat} (h1 : s ≤ m) (h2 : m ≤ e) (h3 : e ≤ l.length) (h : s = m ∨ m = e) : rotR l s m e = l := getz_ext (rotR_len h1 h2 h3) fun i hi => by
 rw [rotR_get h1 h2 h3]
 by_cases c1 : i < s
 ·rw [if_pos c1]
 ·rw [if_neg c1]
  by_cases c2 : i < s + (e - m)
  ·rw [if_pos c2]
   congr 1
   omega
  ·rw [if_neg c2]
   split
   ·congr 1
    omega
   ·rfl
structure CutF (K : Int → Int) (l : List Int) (a m b s : Nat) : Prop where
 s1 : a ≤ s ∧ s ≤ m ∧ s ≤ (a + b) / 2
 s2 : (a + b) / 2 + m - s ≤ b
 cross : ∀ i k, a ≤ i → i < (a + b) / 2 → (a + b) / 2 ≤ k → k < b → K (getz (rotR l s m ((a + b) / 2 + m - s)) k) ≤ K (getz (rotR l s m ((a + b) / 2 + m - s)) i)
 l1 : srt K (rotR l s m ((a + b) / 2 + m - s)) a s
 l2 : srt K (rotR l s m ((a + b) / 2 + m - s)) s ((a + b) / 2)
 r1 : srt K (rotR l s m ((a + b) / 2 + m - s)) ((a + b) / 2) ((a + b) / 2 + m - s)
 r2 : srt K (rotR l s m ((a + b) / 2 + m - s)) ((a + b) / 2 + m - s) b
def lo0 (a m b : Nat) : Nat := if (a + b) / 2 < m then (a + b) / 2 + m - b else a
def hi0 (a m b : Nat) : Nat := if (a + b) / 2 < m then (a + b) / 2 else m
theorem cut_go {K : Int → Int} {l : List Int} {a m b s mid e lo hi : Nat} (h1 : a < m) (h2 : m < b) (h3 : b ≤ l.length) (hmid : (a + b) / 2 = mid) (he : e + s = mid + m) (hcase : (mid < m ∧ lo + b = mid + m ∧ hi = mid) ∨ (m ≤ mid ∧ lo = a ∧ hi = m)) (hA : srt K l a m) (hB : srt K l m b) (hs1 : lo ≤ s) (hs2 : s ≤ hi)
  (H1 : ∀ c, lo ≤ c → c < s → K (getz l (mid + m - 1 - c)) ≤ K (getz l c)) (H2 : ∀ c, s ≤ c → c < hi → K (getz l c) < K (getz l (mid + m - 1 - c))) :
  (∀ i k, a ≤ i → i < mid → mid ≤ k → k < b → K (getz (rotR l s m e) k) ≤ K (getz (rotR l s m e) i)) ∧ srt K (rotR l s m e) a s ∧ srt K (rotR l s m e) s mid ∧ srt K (rotR l s m e) mid e ∧ srt K (rotR l s m e) e b := by
 have hm1 : a < mid := by omega
 have hm2 : mid < b := by omega
 have hq : a ≤ s ∧ s ≤ m ∧ s ≤ mid ∧ e ≤ b ∧ m ≤ e ∧ mid ≤ e := by omega
 obtain ⟨q1, q2, q3, q4, q5, q6⟩ := hq
 have get := fun i => rotR_get (l := l) (s := s) (m := m) (e := e) (i := i) q2 q5 (by omega)
 have e0 : s + (e - m) = mid := by omega
 rw [e0] at get
 refine ⟨?_, ?_, ?_, ?_, ?_⟩
 ·intro i k g1 g2 g3 g4
  rw [get, get, if_neg (by omega : ¬ k < s), if_neg (by omega : ¬ k < mid)]
  by_cases ci : i < s
  ·rw [if_pos ci]
   by_cases ck : k < e
   ·rw [if_pos ck]
    exact hA _ _ g1 (by omega) (by omega)
   ·rw [if_neg ck]
    have := H1 (s - 1) (by omega) (by omega)
    rw [show mid + m - 1 - (s - 1) = e by omega] at this
    have t1 := hB.le (i := e) (k := k) (by omega) (by omega) g4
    have t2 := hA.le (i := i) (k := s - 1) g1 (by omega) (by omega)
    omega
  ·rw [if_neg ci, if_pos g2]
   by_cases ck : k < e
   ·rw [if_pos ck]
    have := H2 s (Nat.le_refl _) (by omega)
    have t1 := hA.le (i := s) (k := k - (e - m)) q1 (by omega) (by omega)
    have t2 := hB.le (i := i - s + m) (k := mid + m - 1 - s) (by omega) (by omega) (by omega)
    omega
   ·rw [if_neg ck]
    exact hB _ _ (by omega) (by omega) g4
 ·intro i k g1 g2 g3
  rw [get, get, if_pos (by omega : k < s), if_pos (by omega : i < s)]
  exact hA _ _ g1 g2 (by omega)
 ·intro i k g1 g2 g3
  rw [get, get, if_neg (by omega : ¬ k < s), if_neg (by omega : ¬ i < s), if_pos g3, if_pos (by omega : i < mid)]
  exact hB _ _ (by omega) (by omega) (by omega)
 ·intro i k g1 g2 g3
  rw [get, get, if_neg (by omega : ¬ k < s), if_neg (by omega : ¬ i < s), if_neg (by omega : ¬ k < mid), if_neg (by omega : ¬ i < mid), if_pos g3, if_pos (by omega : i < e)]
  exact hA _ _ (by omega) (by omega) (by omega)
 ·intro i k g1 g2 g3
  rw [get, get, if_neg (by omega : ¬ k < s), if_neg (by omega : ¬ i < s), if_neg (by omega : ¬ k < mid), if_neg (by omega : ¬ i < mid), if_neg (by omega : ¬ k < e), if_neg (by omega : ¬ i < e)]
  exact hB _ _ (by omega) (by omega) g3
theorem cut_of {K : Int → Int} {l : List Int} {a m b s : Nat} (h1 : a < m) (h2 : m < b) (h3 : b ≤ l.length) (hA : srt K l a m) (hB : srt K l m b) (hs1 : lo0 a m b ≤ s) (hs2 : s ≤ hi0 a m b)
  (H1 : ∀ c, lo0 a m b ≤ c → c < s → K (getz l ((a + b) / 2 + m - 1 - c)) ≤ K (getz l c)) (H2 : ∀ c, s ≤ c → c < hi0 a m b → K (getz l c) < K (getz l ((a + b) / 2 + m - 1 - c))) : CutF K l a m b s := by
 have hcase : ((a + b) / 2 < m ∧ lo0 a m b + b = (a + b) / 2 + m ∧ hi0 a m b = (a + b) / 2) ∨ (m ≤ (a + b) / 2 ∧ lo0 a m b = a ∧ hi0 a m b = m) := by
  unfold lo0 hi0
  split <;> omega
 obtain ⟨r1, r2, r3, r4, r5⟩ := cut_go (e := (a + b) / 2 + m - s) h1 h2 h3 rfl (by omega) hcase hA hB hs1 hs2 H1 H2
 exact ⟨by omega, by omega, r1, r2, r3, r4, r5⟩
theorem two_halves {K : Int → Int} {r2 r3 r4 : List Int} {a mid b : Nat} (h1 : a ≤ mid) (h2 : mid ≤ b) (hc : ∀ i k, a ≤ i → i < mid → mid ≤ k → k < b → K (getz r2 k) ≤ K (getz r2 i)) (p3 : PermIn r2 r3 a mid) (s3 : srt K r3 a mid) (p4 : PermIn r3 r4 mid b) (s4 : srt K r4 mid b) : srt K r4 a b := fun i k g1 g2 g3 => by
 by_cases c1 : k < mid
 ·rw [p4.out (.inl c1), p4.out (.inl (by omega))]
  exact s3 i k g1 g2 c1
 ·by_cases c2 : i < mid
  ·rw [p4.out (i := i) (.inl c2)]
   obtain ⟨k', q1, q2, q3⟩ := p4.inn (i := k) (by omega) g3
   obtain ⟨i', q4, q5, q6⟩ := p3.inn (i := i) g1 c2
   rw [q3, q6, p3.out (i := k') (.inr q1)]
   exact hc i' k' q4 q5 q1 q2
  ·exact s4 i k (by omega) g2 g3
end Go.Ab
