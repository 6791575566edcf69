/- aug: what a procedure's traps are, by its places. -/
import Derived.Test.YtneccajakpeodaaGreatCdpS13
import Derived.Test.YtneccajakpeodaaGreatCdpS14
import Derived.Test.YtneccajakpeodaaGreatCdpS16
set_option linter.unusedSimpArgs false
set_option linter.unusedVariables false
set_option maxRecDepth 100000
set_option maxHeartbeats 16000000
namespace Go.Ab
open Go.Proofs
section
variable {p : Pg} {j : Nat} {f : Pr}
theorem ix_place {i : Int} (h : 0 ≤ i ∧ i < (cntL f.body + 2 : Nat)) : plP p j f (placeI p j (cntL f.body + 2 : Nat) i) ∧ ixI p j f (placeI p j (cntL f.body + 2 : Nat) i) = i := by
 unfold placeI ixI indexI plP loI hiI
 constructor
 ·(repeat' split) <;> omega
 ·(repeat' split) <;> omega
theorem place_ix {x : Int} (h : plP p j f x) : placeI p j (cntL f.body + 2 : Nat) (ixI p j f x) = x := by
 have h1 := ix_place (p := p) (j := j) (f := f) (ix_rng h)
 exact ix_inj h1.1 h h1.2
theorem prs_new : prsW (newWay p j f) f = (newWay p j f).real.map (ixP p j f (cntL f.body + 2 : Nat)) := rfl
theorem prs_in (h : chkB p = true) (hj : p.procs[j]? = some f) : ∀ t ∈ prsW (newWay p j f) f, (0 ≤ t.1 ∧ t.1 < (cntL f.body + 2 : Nat)) ∧ 0 ≤ t.2 ∧ t.2 < (cntL f.body + 2 : Nat) := fun t ht => by
 rw [prs_new] at ht
 obtain ⟨s, hs, rfl⟩ := List.mem_map.1 ht
 obtain ⟨h1, h2⟩ := real_places h hj s hs
 exact ⟨ix_rng h1, ix_rng h2⟩
def wE (p : Pg) (j : Nat) (f : Pr) : Int → Int → Prop := rowE (graphE (cntL f.body + 2) (prsW (newWay p j f) f)).1
def wR (p : Pg) (j : Nat) (f : Pr) : Int → Int → Prop := stR (newWay p j f).real
theorem E_iff (h : chkB p = true) (hj : p.procs[j]? = some f) {i k : Int} : wE p j f i k ↔ ∃ a b, wR p j f a b ∧ ixI p j f a = i ∧ ixI p j f b = k := by
 unfold wE wR
 rw [graph_rowE]
 constructor
 ·rintro ⟨h1, _, _⟩
  rw [prs_new] at h1
  obtain ⟨s, hs, he⟩ := List.mem_map.1 h1
  exact ⟨s.src, s.dst, ⟨s, hs, rfl, rfl⟩, congrArg Prod.fst he, congrArg Prod.snd he⟩
 ·rintro ⟨a, b, ⟨s, hs, rfl, rfl⟩, rfl, rfl⟩
  obtain ⟨h1, h2⟩ := real_places h hj s hs
  exact ⟨List.mem_map.2 ⟨s, hs, rfl⟩, hasB_of (ix_rng h1), hasB_of (ix_rng h2)⟩
theorem R_pl (h : chkB p = true) (hj : p.procs[j]? = some f) {a b : Int} (hr : wR p j f a b) : plP p j f a ∧ plP p j f b := by
 obtain ⟨s, hs, rfl, rfl⟩ := hr
 exact real_places h hj s hs
theorem rch_pl (h : chkB p = true) (hj : p.procs[j]? = some f) {a b : Int} (ha : plP p j f a) (hr : Rch (wR p j f) a b) : plP p j f b :=
 hr.closed (S := plP p j f) (fun _ _ _ h1 => (R_pl h hj h1).2) ha
theorem rch_ix (h : chkB p = true) (hj : p.procs[j]? = some f) {a b : Int} (ha : plP p j f a) (hb : plP p j f b) : Rch (wE p j f) (ixI p j f a) (ixI p j f b) ↔ Rch (wR p j f) a b := by
 constructor
 ·intro hr
  obtain ⟨c, h1, h2, h3⟩ := hr.closed (S := fun k => ∃ c, plP p j f c ∧ ixI p j f c = k ∧ Rch (wR p j f) a c) (by
   rintro i k ⟨c, h1, h2, h3⟩ h4
   obtain ⟨x, y, h5, h6, h7⟩ := (E_iff h hj).1 h4
   have h8 := R_pl h hj h5
   have : x = c := ix_inj h8.1 h1 (by rw [h6, h2])
   subst this
   exact ⟨y, h8.2, h7, .tail h3 h5⟩) ⟨a, ha, rfl, .refl⟩
  rw [← ix_inj h1 hb h2]
  exact h3
 ·intro hr
  exact (hr.closed (S := fun c => plP p j f c ∧ Rch (wE p j f) (ixI p j f a) (ixI p j f c)) (fun x y ⟨h1, h2⟩ h3 => ⟨(R_pl h hj h3).2, .tail h2 ((E_iff h hj).2 ⟨x, y, h3, rfl, rfl⟩)⟩) ⟨ha, .refl⟩).2
theorem scc_ix (h : chkB p = true) (hj : p.procs[j]? = some f) {a b : Int} (ha : plP p j f a) (hb : plP p j f b) : sccP (wE p j f) (ixI p j f a) (ixI p j f b) ↔ sccP (wR p j f) a b := by
 unfold sccP
 rw [rch_ix h hj ha hb, rch_ix h hj hb ha]
def partI (p : Pg) (j : Nat) (f : Pr) (i : Int) : Int := (partW (newWay p j f) f).getD i.toNat 0
theorem partW_new : partW (newWay p j f) f = partR (cntL f.body + 2) (graphE (cntL f.body + 2) (prsW (newWay p j f) f)).1 := rfl
theorem part_min {i : Int} (hi : 0 ≤ i ∧ i < (cntL f.body + 2 : Nat)) : MinP (wE p j f) i (partI p j f i) := by
 unfold partI
 rw [partW_new]
 exact partR_spec (graphE_in _ _).1 hi
theorem part_rng {k : Nat} (hk : k < cntL f.body + 2) : 0 ≤ (partW (newWay p j f) f).getD k 0 ∧ (partW (newWay p j f) f).getD k 0 < (cntL f.body + 2 : Nat) := by
 rw [partW_new]
 exact partR_in (graphE_in _ _).1 hk
theorem part_len : (partW (newWay p j f) f).length = cntL f.body + 2 := by rw [partW_new, partR_len]
theorem MinP.same {E : Int → Int → Prop} {x y v : Int} (h : MinP E x v) (hs : sccP E x y) : MinP E y v := ⟨hs.symm.trans h.scc, fun z hz => h.le z (hs.trans hz)⟩
theorem part_iff {i k : Int} (hi : 0 ≤ i ∧ i < (cntL f.body + 2 : Nat)) (hk : 0 ≤ k ∧ k < (cntL f.body + 2 : Nat)) : partI p j f i = partI p j f k ↔ sccP (wE p j f) i k := by
 have h1 := part_min (p := p) (j := j) hi
 have h2 := part_min (p := p) (j := j) hk
 constructor
 ·intro he
  rw [← he] at h2
  exact h1.scc.trans h2.scc.symm
 ·intro hs
  exact (h1.same hs).uniq h2
theorem part_pl (h : chkB p = true) (hj : p.procs[j]? = some f) {a b : Int} (ha : plP p j f a) (hb : plP p j f b) : partI p j f (ixI p j f a) = partI p j f (ixI p j f b) ↔ sccP (wR p j f) a b := by
 rw [part_iff (ix_rng ha) (ix_rng hb), scc_ix h hj ha hb]
structure TrapP (p : Pg) (j : Nat) (f : Pr) (l : List Int) (r : Int) : Prop where
 pl : plP p j f r
 mem : ∀ b, b ∈ l ↔ plP p j f b ∧ sccP (wR p j f) r b
 cl : ∀ b c, sccP (wR p j f) r b → wR p j f b c → sccP (wR p j f) r c
 n0 : ¬ sccP (wR p j f) r 0
 nx : ¬ sccP (wR p j f) r (-1)
theorem trapR_mem {plc : Int → Int} {part : List Int} {i q : Nat} {b : Int} : b ∈ trapR plc part i q ↔ ∃ k : Nat, k < q ∧ part.getD k 0 = i ∧ plc k = b := by
 unfold trapR
 constructor
 ·intro h
  obtain ⟨k, hk, rfl⟩ := List.mem_map.1 h
  obtain ⟨h1, h2⟩ := List.mem_filter.1 hk
  exact ⟨k, List.mem_range.1 h1, beq_iff_eq.1 h2, rfl⟩
 ·rintro ⟨k, h1, h2, rfl⟩
  exact List.mem_map.2 ⟨k, List.mem_filter.2 ⟨List.mem_range.2 h1, beq_iff_eq.2 h2⟩, rfl⟩
theorem ix0 : ixI p j f 0 = 0 := by unfold ixI indexI; rw [if_pos rfl]
theorem ix1 : ixI p j f (-1) = ((cntL f.body + 2 : Nat) : Int) - 1 := by unfold ixI indexI; rw [if_neg (by omega), if_pos rfl]
theorem pl0 : plP p j f 0 := .inl rfl
theorem pl1 : plP p j f (-1) := .inr (.inl rfl)
theorem part_nat (k : Nat) : (partW (newWay p j f) f).getD k 0 = partI p j f k := by
 unfold partI
 rw [Int.toNat_natCast]
theorem open_pl (h : chkB p = true) (hj : p.procs[j]? = some f) {i : Nat} (hi : i < cntL f.body + 2) : (openB (cntL f.body + 2) (partW (newWay p j f) f) (prsW (newWay p j f) f)).getD i false = true ↔
  partI p j f (ixI p j f 0) = i ∨ partI p j f (ixI p j f (-1)) = i ∨ ∃ a b, wR p j f a b ∧ ¬ sccP (wR p j f) a b ∧ partI p j f (ixI p j f a) = i := by
 rw [open_iff (by omega) (fun k hk => part_rng hk) hi fun t ht => (prs_in h hj t ht).1, ix0, ix1]
 have e1 : (partW (newWay p j f) f).getD (cntL f.body + 2 - 1) 0 = partI p j f (((cntL f.body + 2 : Nat) : Int) - 1) := by
  unfold partI
  congr 1
  omega
 have e0 : (partW (newWay p j f) f).getD 0 0 = partI p j f 0 := rfl
 rw [e0, e1]
 refine or_congr Iff.rfl (or_congr Iff.rfl ?_)
 constructor
 ·rintro ⟨t, ht, h1, h2⟩
  rw [prs_new] at ht
  obtain ⟨s, hs, rfl⟩ := List.mem_map.1 ht
  obtain ⟨h3, h4⟩ := real_places h hj s hs
  exact ⟨s.src, s.dst, ⟨s, hs, rfl, rfl⟩, fun hsc => h1 ((part_pl h hj h3 h4).2 hsc), h2⟩
 ·rintro ⟨a, b, ⟨s, hs, rfl, rfl⟩, h1, h2⟩
  obtain ⟨h3, h4⟩ := real_places h hj s hs
  exact ⟨ixP p j f (cntL f.body + 2 : Nat) s, by rw [prs_new]; exact List.mem_map.2 ⟨s, hs, rfl⟩, fun he => h1 ((part_pl h hj h3 h4).1 he), h2⟩
theorem traps_mem {l : List Int} : l ∈ trapsW (newWay p j f) f ↔ ∃ i : Nat, i < cntL f.body + 2 ∧ partI p j f i = i ∧ (openB (cntL f.body + 2) (partW (newWay p j f) f) (prsW (newWay p j f) f)).getD i false = false ∧ l = trapR (placeI p j (cntL f.body + 2 : Nat)) (partW (newWay p j f) f) i (cntL f.body + 2) := by
 unfold trapsW trapL
 rw [part_len]
 constructor
 ·intro hl
  obtain ⟨i, hi, rfl⟩ := List.mem_map.1 hl
  obtain ⟨h1, h2⟩ := List.mem_filter.1 hi
  unfold trapT at h2
  rw [Bool.and_eq_true, beq_iff_eq, Bool.not_eq_true', part_nat] at h2
  exact ⟨i, List.mem_range.1 h1, h2.1, h2.2, rfl⟩
 ·rintro ⟨i, h1, h2, h3, rfl⟩
  refine List.mem_map.2 ⟨i, List.mem_filter.2 ⟨List.mem_range.2 h1, ?_⟩, rfl⟩
  unfold trapT
  rw [Bool.and_eq_true, beq_iff_eq, Bool.not_eq_true', part_nat]
  exact ⟨h2, h3⟩
theorem trap_mem (h : chkB p = true) (hj : p.procs[j]? = some f) {i : Nat} (hi : i < cntL f.body + 2) (hp : partI p j f i = i) (b : Int) :
  b ∈ trapR (placeI p j (cntL f.body + 2 : Nat)) (partW (newWay p j f) f) i (cntL f.body + 2) ↔ plP p j f b ∧ sccP (wR p j f) (placeI p j (cntL f.body + 2 : Nat) i) b := by
 obtain ⟨h1, h2⟩ := ix_place (p := p) (j := j) (f := f) (i := i) (by omega)
 rw [trapR_mem]
 constructor
 ·rintro ⟨k, h3, h4, rfl⟩
  obtain ⟨h5, h6⟩ := ix_place (p := p) (j := j) (f := f) (i := k) (by omega)
  refine ⟨h5, (part_pl h hj h1 h5).1 ?_⟩
  rw [h2, h6, hp, ← part_nat, h4]
 ·rintro ⟨h3, h4⟩
  have h5 := ix_rng h3
  refine ⟨(ixI p j f b).toNat, by omega, ?_, ?_⟩
  ·rw [part_nat, show (((ixI p j f b).toNat : Nat) : Int) = ixI p j f b by omega, ← (part_pl h hj h1 h3).2 h4, h2, hp]
  ·rw [show (((ixI p j f b).toNat : Nat) : Int) = ixI p j f b by omega, place_ix h3]
theorem trap_spec (h : chkB p = true) (hj : p.procs[j]? = some f) {l : List Int} (hl : l ∈ trapsW (newWay p j f) f) : ∃ r, TrapP p j f l r := by
 obtain ⟨i, hi, hp, ho, rfl⟩ := traps_mem.1 hl
 obtain ⟨h1, h2⟩ := ix_place (p := p) (j := j) (f := f) (i := i) (by omega)
 have ho2 : ¬ _ := fun hx => by
  have := (open_pl h hj hi).2 hx
  rw [ho] at this
  cases this
 have hpr : partI p j f (ixI p j f (placeI p j (cntL f.body + 2 : Nat) i)) = i := by rw [h2, hp]
 refine ⟨_, h1, trap_mem h hj hi hp, fun b c hb hbc => ?_, fun hs => ho2 (.inl ?_), fun hs => ho2 (.inr (.inl ?_))⟩
 ·have h3 := R_pl h hj hbc
  by_cases hsc : sccP (wR p j f) b c
  ·exact hb.trans hsc
  ·refine absurd (.inr (.inr ⟨b, c, hbc, hsc, ?_⟩)) ho2
   rw [← (part_pl h hj h1 h3.1).2 hb, hpr]
 ·rw [← (part_pl h hj h1 pl0).2 hs, hpr]
 ·rw [← (part_pl h hj h1 pl1).2 hs, hpr]
theorem trap_of (h : chkB p = true) (hj : p.procs[j]? = some f) {r : Int} (hr : plP p j f r) (hcl : ∀ b c, sccP (wR p j f) r b → wR p j f b c → sccP (wR p j f) r c) (h0 : ¬ sccP (wR p j f) r 0) (hx : ¬ sccP (wR p j f) r (-1)) :
  ∃ l ∈ trapsW (newWay p j f) f, ∀ b, b ∈ l ↔ plP p j f b ∧ sccP (wR p j f) r b := by
 have h1 := ix_rng hr
 have h2 := part_min (p := p) (j := j) (f := f) h1
 have h3 := part_rng (p := p) (j := j) (f := f) (k := (ixI p j f r).toNat) (by omega)
 have h4 : 0 ≤ partI p j f (ixI p j f r) ∧ partI p j f (ixI p j f r) < (cntL f.body + 2 : Nat) := h3
 generalize hi : partI p j f (ixI p j f r) = v at h2 h4
 obtain ⟨h5, h6⟩ := ix_place (p := p) (j := j) (f := f) (i := v) h4
 have hs : sccP (wR p j f) r (placeI p j (cntL f.body + 2 : Nat) v) := (scc_ix h hj hr h5).1 (by rw [h6]; exact h2.scc)
 have hpv : partI p j f v = v := (part_min (p := p) (j := j) (f := f) h4).uniq (h2.same h2.scc)
 have ev : ((v.toNat : Nat) : Int) = v := by omega
 refine ⟨_, traps_mem.2 ⟨v.toNat, by omega, by rw [ev]; exact hpv, ?_, rfl⟩, fun b => ?_⟩
 ·cases ho : (openB (cntL f.body + 2) (partW (newWay p j f) f) (prsW (newWay p j f) f)).getD v.toNat false with
  | false => rfl
  | true =>
    have := (open_pl h hj (by omega)).1 ho
    rw [ev, ← hi] at this
    rcases this with h7 | h7 | ⟨a, b, h7, h8, h9⟩
    ·exact absurd ((part_pl h hj hr pl0).1 h7.symm) h0
    ·exact absurd ((part_pl h hj hr pl1).1 h7.symm) hx
    ·have h10 := R_pl h hj h7
     have h11 := (part_pl h hj hr h10.1).1 h9.symm
     exact absurd (h11.symm.trans (hcl a b h11 h7)) h8
 ·rw [trap_mem h hj (by omega) (by rw [ev]; exact hpv), ev]
  exact and_congr Iff.rfl ⟨fun h7 => hs.trans h7, fun h7 => hs.symm.trans h7⟩
end
open Go.Proofs
theorem real_len {p : Pg} {j : Nat} {f : Pr} (hj : p.procs[j]? = some f) (hcn : cntP p.procs ≤ 200) : (newWay p j f).real.length ≤ 100000 := by
 obtain ⟨_, _, _, hlen, hsp⟩ := sheet_spec p
 obtain ⟨_, _, hle, _⟩ := hsp j f hj
 have h9 := normS_len (stepsRaw p j f)
 have h10 := stepsRaw_len p j f
 show (normS (stepsRaw p j f)).length ≤ 100000
 omega
theorem nextR_ok {p : Pg} (h : chkB p = true) {j : Nat} {f : Pr} (hj : p.procs[j]? = some f) : ∀ it ∈ itsOf p j f, ∀ s ∈ fOf it, okSt s := fun it hi s hs => by
 obtain ⟨hm, _⟩ := chk_parts h
 obtain ⟨_, _, hcn⟩ := chk_cnt h
 obtain ⟨_, _, _, hlen, hsp⟩ := sheet_spec p
 obtain ⟨_, _, hle, _⟩ := hsp j f hj
 have h1 := body_id hm hj (its_s hi)
 have h2 := (its_rng hi).1
 unfold fOf at hs
 split at hs
 ·rw [List.mem_singleton.1 hs]
  unfold okI at h2
  unfold okSt
  constructor
  ·show it.s.id ≠ _
   omega
  ·show it.next ≠ _
   omega
 ·cases hs
theorem trap_row {p : Pg} (h : chkB p = true) {j : Nat} {f : Pr} (hj : p.procs[j]? = some f) {l : List Int} (hl : l ∈ trapsW (newWay p j f) f) : l.length ≤ cntL f.body + 2 ∧ ∀ id ∈ l, (offN p.procs j : Int) + 1 ≤ id ∧ id ≤ (offN p.procs j + cntL f.body : Nat) := by
 constructor
 ·obtain ⟨i, _, _, _, rfl⟩ := traps_mem.1 hl
  exact trapR_len _ _ _ _
 ·intro id hid
  obtain ⟨r, ht⟩ := trap_spec h hj hl
  obtain ⟨h1, h2⟩ := (ht.mem id).1 hid
  rcases h1 with rfl | rfl | h1
  ·exact absurd h2 ht.n0
  ·exact absurd h2 ht.nx
  ·exact h1
theorem wayT {p : Pg} (h : chkB p = true) {j : Nat} {f : Pr} (hj : p.procs[j]? = some f) : WayT (newWay p j f) f (cntL f.body + 2) := by
 obtain ⟨_, _, hcn⟩ := chk_cnt h
 obtain ⟨_, _, _, hlen, hsp⟩ := sheet_spec p
 obtain ⟨_, _, hle, _⟩ := hsp j f hj
 refine ⟨rfl, hj, by show cntP p.procs ≤ 1000; omega, by omega, by omega, Nat.le_trans (real_len hj hcn) (by decide), prs_in h hj, ?_, fun l hl => ?_, fun s hs => (chk_way h hj).2.2 s (((real_spec h hj).2 s).1 hs), nextR_ok h hj⟩
 ·have := trapL_len (placeI p j (cntL f.body + 2 : Nat)) (partW (newWay p j f) f) (openB (cntL f.body + 2) (partW (newWay p j f) f) (prsW (newWay p j f) f)) (cntL f.body + 2)
  have e : trapsW (newWay p j f) f = trapL (placeI p j (cntL f.body + 2 : Nat)) (partW (newWay p j f) f) (openB (cntL f.body + 2) (partW (newWay p j f) f) (prsW (newWay p j f) f)) (cntL f.body + 2) := by
   unfold trapsW
   rw [part_len]
   rfl
  rw [e]
  omega
 ·obtain ⟨h1, h2⟩ := trap_row h hj hl
  refine ⟨by omega, fun id hid => ?_⟩
  have := h2 id hid
  show 1 ≤ id ∧ id ≤ (sheetOf p).l.length
  omega
open Go.Proofs
instance (a b : Step) : Decidable (ltSt a b) := inferInstanceAs (Decidable (_ ∨ _))
instance : DecidableEq Step := fun a b => decidable_of_iff (a.src = b.src ∧ a.dst = b.dst ∧ a.kind = b.kind) ⟨fun h => Step.eq_of h.1 h.2.1 h.2.2, fun h => by rw [h]; exact ⟨rfl, rfl, rfl⟩⟩
theorem same_of {a b : Step} (ha : okSt a) (hb : okSt b) (h : stepLt b a = false) : (a.src = b.src ∧ a.dst = b.dst ∧ a.kind ≤ b.kind) ∨ ltSt a b := by
 rw [Bool.eq_false_iff, ne_eq, stepLt_iff] at h
 unfold ltSt
 by_cases h1 : rankI a.src = rankI b.src
 ·by_cases h2 : rankI a.dst = rankI b.dst
  ·exact .inl ⟨rankI_inj ha.1 hb.1 h1, rankI_inj ha.2 hb.2 h2, by omega⟩
  ·exact .inr (by omega)
 ·exact .inr (by omega)
theorem compFrom_gen : ∀ (l : List Step) (a : Step), okSt a → (∀ s ∈ l, okSt s) → (a :: l).Pairwise (fun a b => stepLt b a = false) →
  (∀ s ∈ compFrom a l, ltSt a s) ∧ (compFrom a l).Pairwise ltSt ∧ (∀ s ∈ compFrom a l, s ∈ l) ∧ ∀ s ∈ l, (s.src = a.src ∧ s.dst = a.dst ∧ a.kind ≤ s.kind) ∨ ∃ s' ∈ compFrom a l, s'.src = s.src ∧ s'.dst = s.dst ∧ s'.kind ≤ s.kind
 | [], a, _, _, _ => by simp [compFrom]
 | b :: r, a, ha, hl, h => by
   have hb := hl b List.mem_cons_self
   have hr : ∀ s ∈ r, okSt s := fun s hs => hl s (List.mem_cons_of_mem _ hs)
   rw [List.pairwise_cons] at h
   obtain ⟨h1, h2⟩ := h
   obtain ⟨i1, i2, i3, i4⟩ := compFrom_gen r b hb hr h2
   have hab := same_of ha hb (h1 b List.mem_cons_self)
   rw [compFrom]
   cases hs : sameStep b a with
   | true =>
     unfold sameStep at hs
     simp only [Bool.and_eq_true, decide_eq_true_eq] at hs
     have hk : a.kind ≤ b.kind := by
      rcases hab with h3 | h3
      ·exact h3.2.2
      ·unfold ltSt at h3
       rw [hs.1, hs.2] at h3
       omega
     rw [cond_true]
     refine ⟨fun s hs' => ?_, i2, fun s hs' => List.mem_cons_of_mem _ (i3 s hs'), fun s hs' => ?_⟩
     ·have := i1 s hs'
      unfold ltSt at this ⊢
      rwa [← hs.1, ← hs.2]
     ·rcases List.mem_cons.1 hs' with rfl | hs'
      ·exact .inl ⟨hs.1, hs.2, hk⟩
      ·rcases i4 s hs' with ⟨h3, h4, h5⟩ | h3
       ·exact .inl ⟨by rw [h3, hs.1], by rw [h4, hs.2], by omega⟩
       ·exact .inr h3
   | false =>
     have hlt : ltSt a b := by
      rcases hab with h3 | h3
      ·unfold sameStep at hs
       simp [h3.1, h3.2.1] at hs
      ·exact h3
     rw [cond_false]
     refine ⟨fun s hs' => ?_, List.pairwise_cons.2 ⟨i1, i2⟩, fun s hs' => ?_, fun s hs' => ?_⟩
     ·rcases List.mem_cons.1 hs' with rfl | hs'
      ·exact hlt
      ·exact ltSt_trans hlt (i1 s hs')
     ·rcases List.mem_cons.1 hs' with rfl | hs'
      ·exact List.mem_cons_self
      ·exact List.mem_cons_of_mem _ (i3 s hs')
     ·rcases List.mem_cons.1 hs' with rfl | hs'
      ·exact .inr ⟨s, List.mem_cons_self, rfl, rfl, Int.le_refl _⟩
      ·rcases i4 s hs' with ⟨h3, h4, h5⟩ | ⟨s', h3, h4⟩
       ·exact .inr ⟨b, List.mem_cons_self, h3.symm, h4.symm, h5⟩
       ·exact .inr ⟨s', List.mem_cons_of_mem _ h3, h4⟩
theorem normS_gen {l : List Step} (hok : ∀ s ∈ l, okSt s) : (normS l).Pairwise ltSt ∧ (∀ s ∈ normS l, s ∈ l) ∧ ∀ s ∈ l, ∃ s' ∈ normS l, s'.src = s.src ∧ s'.dst = s.dst ∧ s'.kind ≤ s.kind := by
 have hp : ∀ s, s ∈ sortSt l ↔ s ∈ l := fun s => (sortSt_perm l).mem_iff
 have hs := sortSt_sorted l
 unfold normS
 cases hq : sortSt l with
 | nil =>
   rw [hq] at hp
   refine ⟨by simp [compF], by simp [compF], fun s hs => ?_⟩
   have := (hp s).2 hs
   cases this
 | cons a r =>
   rw [hq] at hp hs
   have hok' : ∀ s ∈ a :: r, okSt s := fun s h => hok s ((hp s).1 h)
   obtain ⟨h1, h2, h3, h4⟩ := compFrom_gen r a (hok' a List.mem_cons_self) (fun s h => hok' s (List.mem_cons_of_mem _ h)) hs
   rw [compF]
   refine ⟨List.pairwise_cons.2 ⟨h1, h2⟩, fun s hs' => ?_, fun s hs' => ?_⟩
   ·rcases List.mem_cons.1 hs' with rfl | hs'
    ·exact (hp s).1 List.mem_cons_self
    ·exact (hp s).1 (List.mem_cons_of_mem _ (h3 s hs'))
   ·rcases List.mem_cons.1 ((hp s).2 hs') with rfl | hs'
    ·exact ⟨s, List.mem_cons_self, rfl, rfl, Int.le_refl _⟩
    ·rcases h4 s hs' with ⟨h5, h6, h7⟩ | ⟨s', h5, h6⟩
     ·exact ⟨a, List.mem_cons_self, h5.symm, h6.symm, h7⟩
     ·exact ⟨s', List.mem_cons_of_mem _ h5, h6⟩
theorem lt_uniq {l : List Step} (h : l.Pairwise ltSt) {a b : Step} (ha : a ∈ l) (hb : b ∈ l) (h1 : a.src = b.src) (h2 : a.dst = b.dst) : a = b := by
 have hn : ∀ {x y : Step}, x.src = y.src → x.dst = y.dst → ¬ ltSt x y := fun {x y} e1 e2 hlt => by
  unfold ltSt at hlt
  rw [e1, e2] at hlt
  omega
 induction h with
 | nil => cases ha
 | @cons c r hc hr ih =>
   rcases List.mem_cons.1 ha with e1 | ha'
   ·rcases List.mem_cons.1 hb with e2 | hb'
    ·rw [e1, e2]
    ·exact absurd (hc b hb') (by rw [← e1]; exact hn h1 h2)
   ·rcases List.mem_cons.1 hb with e2 | hb'
    ·exact absurd (hc a ha') (by rw [← e2]; exact hn h1.symm h2.symm)
    ·exact ih ha' hb'
theorem normS_eq {l m : List Step} (hok : ∀ s ∈ l, okSt s) (h1 : m.Pairwise ltSt) (h2 : ∀ s ∈ m, s ∈ l) (h3 : ∀ s ∈ l, ∃ s' ∈ m, s'.src = s.src ∧ s'.dst = s.dst ∧ s'.kind ≤ s.kind) : normS l = m := by
 obtain ⟨g1, g2, g3⟩ := normS_gen hok
 refine sorted_ext g1 h1 fun s => ⟨fun hs => ?_, fun hs => ?_⟩
 ·obtain ⟨a, ha, h4, h5, h6⟩ := h3 s (g2 s hs)
  obtain ⟨b, hb, h7, h8, h9⟩ := g3 a (h2 a ha)
  have := lt_uniq g1 hb hs (h7.trans h4) (h8.trans h5)
  subst this
  have : a = b := Step.eq_of h4 h5 (by omega)
  rw [← this]
  exact ha
 ·obtain ⟨a, ha, h4, h5, h6⟩ := g3 s (h2 s hs)
  obtain ⟨b, hb, h7, h8, h9⟩ := h3 a (g2 a ha)
  have := lt_uniq h1 hb hs (h7.trans h4) (h8.trans h5)
  subst this
  have : a = b := Step.eq_of h4 h5 (by omega)
  rw [← this]
  exact ha
open Go.Proofs
theorem real1 : (newWay someP 1 f1).real = [⟨0, 5, 1⟩, ⟨5, 6, 1⟩, ⟨6, 7, 1⟩, ⟨6, 8, 1⟩, ⟨7, -1, 1⟩, ⟨8, -1, 1⟩] := norm1
theorem real0 : (newWay someP 0 f0).real = [⟨0, 1, 1⟩, ⟨1, 2, 1⟩, ⟨2, 3, 1⟩, ⟨3, 4, 1⟩, ⟨4, -1, 1⟩] := norm0
theorem prs1 : prsW (newWay someP 1 f1) f1 = [(0, 1), (1, 2), (2, 3), (2, 4), (3, 5), (4, 5)] := by
 unfold prsW
 rw [real1]
 kernel_rfl
theorem prs0 : prsW (newWay someP 0 f0) f0 = [(0, 1), (1, 2), (2, 3), (3, 4), (4, 5)] := by
 unfold prsW
 rw [real0]
 kernel_rfl
theorem traps1 : trapsW (newWay someP 1 f1) f1 = [] := by
 unfold trapsW partW
 rw [prs1]
 kernel_rfl
theorem traps0 : trapsW (newWay someP 0 f0) f0 = [] := by
 unfold trapsW partW
 rw [prs0]
 kernel_rfl
theorem aug1 : augW (newWay someP 1 f1) f1 = [⟨0, 5, 1⟩, ⟨0, -1, 2⟩, ⟨5, 6, 1⟩, ⟨6, 7, 1⟩, ⟨6, 8, 1⟩, ⟨7, 8, 2⟩, ⟨7, -1, 1⟩, ⟨8, -1, 1⟩] := by
 have h1 : augRaw (newWay someP 1 f1) f1 = [⟨0, 5, 1⟩, ⟨5, 6, 1⟩, ⟨6, 7, 1⟩, ⟨6, 8, 1⟩, ⟨7, -1, 1⟩, ⟨8, -1, 1⟩, ⟨0, -1, 2⟩, ⟨7, 8, 2⟩, ⟨8, -1, 2⟩] := by
  unfold augRaw virtW
  rw [traps1, real1]
  kernel_rfl
 unfold augW
 rw [h1]
 exact normS_eq (by unfold okSt; decide) (by decide) (by decide) (by decide)
theorem aug0 : augW (newWay someP 0 f0) f0 = [⟨0, 1, 1⟩, ⟨0, -1, 2⟩, ⟨1, 2, 1⟩, ⟨2, 3, 1⟩, ⟨3, 4, 1⟩, ⟨4, -1, 1⟩] := by
 have h1 : augRaw (newWay someP 0 f0) f0 = [⟨0, 1, 1⟩, ⟨1, 2, 1⟩, ⟨2, 3, 1⟩, ⟨3, 4, 1⟩, ⟨4, -1, 1⟩, ⟨0, -1, 2⟩] := by
  unfold augRaw virtW
  rw [traps0, real0]
  kernel_rfl
 unfold augW
 rw [h1]
 exact normS_eq (by unfold okSt; decide) (by decide) (by decide) (by decide)
theorem some_way0 : wayO someP [109, 97, 105, 110] = some (newWay someP 0 f0) := by
 unfold wayO
 rw [some_chk]
 rfl
open Go.Proofs
theorem sink {R : Int → Int → Prop} {PL : List Int} (hPL : ∀ x y, x ∈ PL → R x y → y ∈ PL) : ∀ (k : Nat) {x : Int}, x ∈ PL → (∀ c : Int → Nat, (∀ y, c y = 0 ∨ c y = 1) → (∀ y, c y = 1 → Rch R x y) → (PL.map c).sum < k) → ∃ y, Rch R x y ∧ ∀ z, Rch R y z → Rch R z y
 | 0, x, _, hk => absurd (hk (fun _ => 0) (fun _ => .inl rfl) (fun _ h => by cases h)) (Nat.not_lt_zero _)
 | k + 1, x, hx, hk => by
   by_cases h : ∀ z, Rch R x z → Rch R z x
   ·exact ⟨x, .refl, h⟩
   ·obtain ⟨z, hz⟩ := Classical.not_forall.1 h
    obtain ⟨h1, h2⟩ := Classical.not_imp.1 hz
    have hzp : z ∈ PL := h1.closed (S := fun y => y ∈ PL) hPL hx
    obtain ⟨y, h3, h4⟩ := sink hPL k hzp fun c hc hr => by
     have hcx : c x = 0 := by
      rcases hc x with h5 | h5
      ·exact h5
      ·exact absurd (hr x h5) h2
     have h6 : (PL.map c).sum < (PL.map fun y => if y = x then 1 else c y).sum := sum_lt (fun y _ => by
      split
      ·rename_i e
       rw [e, hcx]
       exact Nat.zero_le _
      ·exact Nat.le_refl _) ⟨x, hx, by simp [hcx]⟩
     have h7 := hk (fun y => if y = x then 1 else c y) (fun y => by
      split
      ·exact .inr rfl
      ·exact hc y) (fun y hy => by
      split at hy
      ·rename_i e
       rw [e]
       exact .refl
      ·exact h1.trans (hr y hy))
     omega
    exact ⟨y, h1.trans h3, h4⟩
theorem sum_one {c : Int → Nat} (h : ∀ y, c y = 0 ∨ c y = 1) : ∀ l : List Int, (l.map c).sum ≤ l.length
 | [] => by simp
 | a :: r => by
   have h1 := sum_one h r
   have h2 := h a
   simp only [List.map_cons, List.sum_cons, List.length_cons]
   omega
def plL (p : Pg) (j : Nat) (f : Pr) : List Int := 0 :: (-1) :: idsN (offN p.procs j) (cntL f.body)
theorem plL_mem {p : Pg} {j : Nat} {f : Pr} {x : Int} : x ∈ plL p j f ↔ plP p j f x := by
 unfold plL plP
 simp only [List.mem_cons]
 refine or_congr Iff.rfl (or_congr Iff.rfl ⟨fun h => ?_, fun h => idsN_has h.1 h.2⟩)
 have := idsN_mem h
 omega
theorem to_sink {p : Pg} (h : chkB p = true) {j : Nat} {f : Pr} (hj : p.procs[j]? = some f) {x : Int} (hx : plP p j f x) : ∃ y, Rch (wR p j f) x y ∧ ∀ z, Rch (wR p j f) y z → Rch (wR p j f) z y :=
 sink (PL := plL p j f) (fun a b _ hab => plL_mem.2 (R_pl h hj hab).2) ((plL p j f).length + 1) (plL_mem.2 hx) fun _ hc _ => Nat.lt_succ_of_le (sum_one hc _)
theorem no_entry {p : Pg} (h : chkB p = true) {j : Nat} {f : Pr} (hj : p.procs[j]? = some f) {a : Int} : ¬ wR p j f a 0 := fun ⟨s, hs, _, hd⟩ => by
 have h1 := ((chk_way h hj).2.1 s (((real_spec h hj).2 s).1 hs)).2
 unfold okI at h1
 omega
theorem rch_entry {p : Pg} (h : chkB p = true) {j : Nat} {f : Pr} (hj : p.procs[j]? = some f) {a : Int} (hr : Rch (wR p j f) a 0) : a = 0 := by
 cases hr with
 | refl => rfl
 | tail _ h2 => exact absurd h2 (no_entry h hj)
theorem entry_go {p : Pg} (h : chkB p = true) {j : Nat} {f : Pr} (hj : p.procs[j]? = some f) : wR p j f 0 (fstI p j f) := ⟨⟨0, fstI p j f, 1⟩, ((real_spec h hj).2 _).2 (by unfold stepsRaw fstI; exact List.mem_cons_self), rfl, rfl⟩
theorem trap_goto {p : Pg} (h : chkB p = true) {j : Nat} {f : Pr} (hj : p.procs[j]? = some f) {r : Int} (hr : plP p j f r) (hcl : ∀ b c, sccP (wR p j f) r b → wR p j f b c → sccP (wR p j f) r c) (h0 : ¬ sccP (wR p j f) r 0) (hx : ¬ sccP (wR p j f) r (-1)) : ∃ t ∈ flL f.body, sccP (wR p j f) r t.id ∧ t.kind = 10 := by
 refine Classical.byContradiction fun hno => hx ?_
 have hrr : (offN p.procs j : Int) + 1 ≤ r ∧ r ≤ (offN p.procs j + cntL f.body : Nat) := by
  rcases hr with rfl | rfl | h1
  ·exact absurd (sccP.refl 0) h0
  ·exact absurd (sccP.refl (-1)) hx
  ·exact h1
 obtain ⟨t, ht, _, hti⟩ := stAt_own h hj hrr.1 hrr.2
 exact proc_exit h hj (T := fun y => sccP (wR p j f) r y) (fun a b ha hab => hcl a b ha hab) (fun u hu hs hk => hno ⟨u, hu, hs, hk⟩) ht (by rw [hti]; exact sccP.refl r)
theorem stAt_id {p : Pg} (h : chkB p = true) {j : Nat} {f : Pr} (hj : p.procs[j]? = some f) {t : S} (ht : t ∈ flL f.body) : stAt p t.id = some t := by
 have hb := body_id (chk_parts h).1 hj ht
 obtain ⟨u, hu, h1, h2⟩ := stAt_own h hj hb.1 hb.2
 obtain ⟨it, hi, rfl⟩ := it_of (p := p) (j := j) ht
 obtain ⟨iu, hiu, rfl⟩ := it_of (p := p) (j := j) hu
 rw [it_inj (chk_parts h).1 hj hiu hi h2] at h1
 exact h1
theorem virt_mem {p : Pg} (h : chkB p = true) {j : Nat} {f : Pr} (hj : p.procs[j]? = some f) {s : Step} : s ∈ virtW (newWay p j f) f ↔ ∃ l ∈ trapsW (newWay p j f) f, ∃ t ∈ flL f.body, t.id ∈ l ∧ t.kind = 10 ∧ s = ⟨t.id, -1, 3⟩ := by
 unfold virtW
 constructor
 ·intro hs
  obtain ⟨l, hl, hs⟩ := List.mem_flatMap.1 hs
  obtain ⟨id, hid, hs⟩ := List.mem_flatMap.1 hs
  have hb := (trap_row h hj hl).2 id hid
  obtain ⟨t, ht, h1, h2⟩ := stAt_own h hj hb.1 hb.2
  have e : (newWay p j f).p = p := rfl
  unfold vOf at hs
  rw [e, h1] at hs
  simp only at hs
  split at hs
  ·rename_i hk
   exact ⟨l, hl, t, ht, by rw [h2]; exact hid, hk, by rw [h2]; simpa using hs⟩
  ·cases hs
 ·rintro ⟨l, hl, t, ht, hid, hk, rfl⟩
  refine List.mem_flatMap.2 ⟨l, hl, List.mem_flatMap.2 ⟨t.id, hid, ?_⟩⟩
  have e : (newWay p j f).p = p := rfl
  unfold vOf
  rw [e, stAt_id h hj ht]
  simp [hk]
theorem data_ok {p : Pg} (h : chkB p = true) {j : Nat} {f : Pr} (hj : p.procs[j]? = some f) : ∀ s ∈ virtW (newWay p j f) f ++ (newWay p j f).real, okSt s := fun s hs =>
 (List.mem_append.1 hs).elim ((wayT h hj).virt_ok s) ((wayT h hj).hok s)
theorem data_of {p : Pg} (h : chkB p = true) {j : Nat} {f : Pr} (hj : p.procs[j]? = some f) {s : Step} (hs : s ∈ virtW (newWay p j f) f ++ (newWay p j f).real) : stR (dataW (newWay p j f) f) s.src s.dst := by
 obtain ⟨s', h1, h2, h3, _⟩ := (normS_gen (data_ok h hj)).2.2 s hs
 exact ⟨s', h1, h2, h3⟩
theorem data_exit {p : Pg} (h : chkB p = true) {j : Nat} {f : Pr} (hj : p.procs[j]? = some f) {x : Int} (hx : plP p j f x) : Rch (stR (dataW (newWay p j f) f)) x (-1) := by
 have hm : ∀ a b, wR p j f a b → stR (dataW (newWay p j f) f) a b := fun a b ⟨s, hs, h1, h2⟩ => by
  rw [← h1, ← h2]
  exact data_of h hj (List.mem_append.2 (.inr hs))
 obtain ⟨y, h1, h2⟩ := to_sink h hj hx
 have hy := rch_pl h hj hx h1
 have hcl : ∀ b c, sccP (wR p j f) y b → wR p j f b c → sccP (wR p j f) y c := fun b c hb hbc => by
  have h3 : Rch (wR p j f) y c := .tail hb.1 hbc
  exact ⟨h3, h2 c h3⟩
 by_cases hxe : sccP (wR p j f) y (-1)
 ·exact (h1.trans hxe.1).mono hm
 have h0 : ¬ sccP (wR p j f) y 0 := fun hs => by
  have hy0 := rch_entry h hj hs.1
  subst hy0
  have h3 := h2 _ (.tail .refl (entry_go h hj))
  have h4 := rch_entry h hj h3
  have h5 := entry_go h hj
  rw [h4] at h5
  exact no_entry h hj h5
 obtain ⟨l, hl, hlm⟩ := trap_of h hj hy hcl h0 hxe
 obtain ⟨t, ht, h3, h4⟩ := trap_goto h hj hy hcl h0 hxe
 have hv : (⟨t.id, -1, 3⟩ : Step) ∈ virtW (newWay p j f) f := (virt_mem h hj).2 ⟨l, hl, t, ht, (hlm _).2 ⟨rch_pl h hj hy h3.1, h3⟩, h4, rfl⟩
 exact .tail ((h1.trans h3.1).mono hm) (data_of h hj (List.mem_append.2 (.inl hv)))
open Go.Proofs
theorem procAt_way {p : Pg} (h : chkB p = true) (n : Int) : ∃ (k : Nat) (f : Pr), p.procs[k]? = some f ∧ wayO p (procAtR p n) = some (newWay p k f) ∧ procR p (procAtR p n) = (f, true) := by
 have hne : 0 < p.procs.length := by
  obtain ⟨_, hb, _⟩ := scope_ok (chk_parts h).2.1
  cases hp : p.procs with
  | nil =>
    unfold mainBad procsN at hb
    rw [hp] at hb
    simp at hb
  | cons a r => simp
 have hr := modI_rng (n := n) (k := p.procs.length) (by omega)
 have hlt : (modI n p.procs.length).toNat < p.procs.length := by omega
 have e : procAtR p n = (p.procs[(modI n p.procs.length).toNat]).name := by unfold procAtR; rw [List.getElem?_eq_getElem hlt]
 cases hw : wayO p (procAtR p n) with
 | none =>
   exfalso
   unfold wayO at hw
   rw [h, cond_true] at hw
   cases hf : p.procs.find? (fun f => f.name == procAtR p n) with
   | none =>
     have := List.find?_eq_none.1 hf _ (List.getElem_mem hlt)
     simp [e] at this
   | some g => rw [hf] at hw; cases hw
 | some w =>
   obtain ⟨k, f, hkj, rfl, _, hfn, hfind⟩ := wayO_some hw
   exact ⟨k, f, hkj, rfl, by unfold procR; rw [hfind]⟩
open Go.Proofs
open Go.Proofs
def revI (l : List Int) (i : Nat) : List Int := (List.range l.length).map fun k => if k < i ∨ l.length - i ≤ k then l.getD (l.length - 1 - k) 0 else l.getD k 0
theorem revI_len (l : List Int) (i : Nat) : (revI l i).length = l.length := by unfold revI; simp
theorem revI_get {l : List Int} {i k : Nat} (hk : k < l.length) : (revI l i)[k]? = some (if k < i ∨ l.length - i ≤ k then l.getD (l.length - 1 - k) 0 else l.getD k 0) := by
 unfold revI
 rw [List.getElem?_map, List.getElem?_range hk]
 rfl
theorem revI_zero (l : List Int) : revI l 0 = l := by
 refine List.ext_getElem? fun k => ?_
 rcases Nat.lt_or_ge k l.length with hk | hk
 ·rw [revI_get hk, if_neg (by omega), List.getD_eq_getElem?_getD, List.getElem?_eq_getElem hk]
  rfl
 ·rw [List.getElem?_eq_none (by rw [revI_len]; exact hk), List.getElem?_eq_none hk]
theorem revI_end {l : List Int} {i : Nat} (h : l.length ≤ 2 * i + 1) : revI l i = l.reverse := by
 refine List.ext_getElem? fun k => ?_
 rcases Nat.lt_or_ge k l.length with hk | hk
 ·rw [revI_get hk, List.getElem?_reverse hk, List.getElem?_eq_getElem (by omega)]
  split
  ·rw [List.getD_eq_getElem?_getD, List.getElem?_eq_getElem (by omega)]
   rfl
  ·rw [List.getD_eq_getElem?_getD, List.getElem?_eq_getElem (by omega)]
   simp only [Option.getD_some]
   congr 2
   omega
 ·rw [List.getElem?_eq_none (by rw [revI_len]; exact hk), List.getElem?_eq_none (by rw [List.length_reverse]; exact hk)]
theorem revI_step {l : List Int} {i : Nat} (h : 2 * i + 1 < l.length) : ((revI l i).set i (l.getD (l.length - 1 - i) 0)).set (l.length - 1 - i) (l.getD i 0) = revI l (i + 1) := by
 refine List.ext_getElem? fun k => ?_
 rcases Nat.lt_or_ge k l.length with hk | hk
 ·rw [revI_get hk, List.getElem?_set, List.getElem?_set]
  simp only [List.length_set, revI_len]
  by_cases h1 : l.length - 1 - i = k
  ·rw [if_pos h1, if_pos (by omega), if_pos (by omega)]
   congr 2
   omega
  ·rw [if_neg h1]
   by_cases h2 : i = k
   ·rw [if_pos h2, if_pos (by omega), if_pos (by omega)]
    congr 2
    omega
   ·rw [if_neg h2, revI_get hk]
    by_cases h3 : k < i ∨ l.length - i ≤ k
    ·rw [if_pos h3, if_pos (by omega)]
    ·rw [if_neg h3, if_neg (by omega)]
 ·rw [List.getElem?_eq_none (by simp [revI_len]; exact hk), List.getElem?_eq_none (by rw [revI_len]; exact hk)]
theorem slices_Reverse_int_int_ (l : List Int) (hl : l.length ≤ 1000000) : SpecH Tryz.prog 110 [.hd 1000 0 l.length] [(1000, .own 3 1 (l.map (.int .i64)))] (fun r H => r = .p (.tup []) ∧ H = [(1000, .own 3 1 (l.reverse.map (.int .i64)))]) := by
 refine SpecH.body I_slices_Reverse_int_int_ tabOK Tryz.func110 rfl Tryz.call110 (by show 1 ≤ _; decide) ?_
 conv => whnf
 repeat' ((first | (intro (_ : _ ≤ 9223372036854775807)) | (refine Wr.i64 (by omega) (by omega) ?_)); conv => whnf)
 refine LoopK.inv tabOK (fun i : Nat => ⟨[(0, .hd 1000 0 l.length), (2, .p (.int .i64 i)), (3, .p (.int .i64 ((l.length : Int) - 1 - i)))], [(1000, .own 3 1 ((revI l i).map (.int .i64)))]⟩) (fun i => i ≤ l.length) (fun i => l.length - i) 0 (Le.of_eq (by rw [revI_zero, show (l.length : Int) - 1 - ((0 : Nat) : Int) = (l.length : Int) - 1 by omega]; rfl)) (Nat.zero_le _) ?_
 intro i h2
 have hlr := revI_len l i
 by_cases h3 : 2 * i + 1 < l.length
 ·have e1 : ((revI l i).map (AV.int .i64))[i]? = some (.int .i64 (l.getD i 0)) := by rw [List.getElem?_map, revI_get (by omega), if_neg (by omega)]; rfl
  have e2 : ((revI l i).map (AV.int .i64))[l.length - 1 - i]? = some (.int .i64 (l.getD (l.length - 1 - i) 0)) := by rw [List.getElem?_map, revI_get (by omega), if_neg (by omega)]; rfl
  have hst := revI_step h3
  generalize revI l i = row at hlr e1 e2 hst ⊢
  generalize l.getD i 0 = x at e1 hst
  generalize l.getD (l.length - 1 - i) 0 = y at e2 hst
  have e3 : ((row.map (AV.int .i64)).set i (.int .i64 y))[l.length - 1 - i]? = some (.int .i64 y) := by rw [List.getElem?_set_ne (by omega)]; exact e2
  conv => whnf
  repeat' (first | ((first | (refine DrawK.auto tabOK mixed (by kernel_rfl) ?_) | (refine And.intro rfl ?_) | (refine Wr.i64 (by omega) (by omega) ?_) | (refine IdxL.mk (l.length-1-i) (by omega) (by omega) ?_) | (refine IdxL.mk i rfl (by omega) ?_) | (refine LdOwn.mk (l.length-1-i) 0 _ (by show (0+(l.length-1-i))*1 = (l.length-1-i)*1+0; omega) e2 ?_) | (refine LdOwn.mk i 0 _ (by show (0+i)*1 = i*1+0; omega) e1 ?_) | (refine StOwn.mk i 0 _ (.int .i64 y) (by show (0+i)*1 = i*1+0; omega) e1 (Nat.le_refl _) rfl ?_) | (refine StOwn.mk (l.length-1-i) 0 _ (.int .i64 x) (by show (0+(l.length-1-i))*1 = (l.length-1-i)*1+0; omega) e3 (Nat.le_refl _) rfl ?_)); conv => whnf) | (refine Br.dec (fun _ => ?_) (fun _ => ?_) <;> first | (exfalso; omega) | conv => whnf))
  exact ⟨i + 1, by omega, by omega, Le.of_eq (by rw [← hst, List.map_set, List.map_set, show (l.length : Int) - 1 - ((i + 1 : Nat) : Int) = (l.length : Int) - 1 - i - 1 by omega]; rfl)⟩
 ·have hre := revI_end (l := l) (i := i) (by omega)
  rw [hre] at hlr ⊢
  conv => whnf
  repeat' (refine Br.dec (fun _ => ?_) (fun _ => ?_) <;> first | (exfalso; omega) | conv => whnf)
  exact ⟨_, LSub.refl _, rfl, rfl⟩
theorem whittlerlaw18_small (p : Pg) (hf : Fit p) (most : Int) : SpecP Tryz.prog 46 [.agg p.cells, .int .i64 most] (fun r => r = .bool (smallB p most)) := by
 refine SpecP.body I_whittlerlaw18_small tabOK Tryz.func46 rfl Tryz.call46 (by show 2 ≤ _; decide) ?_
 conv => whnf
 have hC := check_May p hf
 unfold smallB
 cases hc : chkB p with
 | false =>
   rw [hc] at hC
   repeat' (first | (refine CallK.pure hC (.cons (Sub.refl _) .nil) ?_; rintro _ rfl; conv => whnf) | (refine Br.b (fun _ => ?_) (fun _ => ?_) <;> conv => whnf))
   all_goals first
    | contradiction
    | exact RetK.ff rfl
 | true =>
   rw [hc] at hC
   have hcn := (chk_cnt hc).2.2
   repeat' (first | ((first | (refine CallK.pure hC (.cons (Sub.refl _) .nil) ?_; rintro _ rfl) | (refine CallK.pure (tree_Count p (by omega)) (.cons (Sub.refl _) .nil) ?_; rintro _ rfl)); conv => whnf) | (refine Br.b (fun _ => ?_) (fun _ => ?_) <;> conv => whnf))
   all_goals first
    | contradiction
    | exact RetK.bool (by simp)
open Go.Proofs
open Go.Proofs
theorem aug_ok {p : Pg} (h : chkB p = true) {j : Nat} {f : Pr} (hj : p.procs[j]? = some f) : ∀ s ∈ augRaw (newWay p j f) f, okSt s := fun s hs => by
 unfold augRaw at hs
 rcases List.mem_append.1 hs with hs | hs
 ·rcases List.mem_append.1 hs with hs | hs
  ·exact data_ok h hj s hs
  ·rw [List.mem_singleton.1 hs]
   exact ⟨by decide, by decide⟩
 ·obtain ⟨it, hi, hs⟩ := List.mem_flatMap.1 hs
  exact nextR_ok h hj it hi s hs
open Go.Proofs
open Go.Proofs
structure OnR (s t : S) : Prop where
 labels : t.labels = []
 off : s.kind = 4 ∨ 7 ≤ s.kind → t.kind = 3 ∧ t.name = [] ∧ t.x = .mk 1 7 [] [] ∧ t.args = []
 on : ¬ (s.kind = 4 ∨ 7 ≤ s.kind) → t.kind = s.kind ∧ t.name = s.name ∧ t.x = s.x ∧ t.args = s.args
section
variable {p : Pg} {k : Nat} {f : Pr}
theorem OnR.kind {s t : S} (h : OnR s t) : t.kind ≠ 4 ∧ t.kind < 7 := by
 by_cases hk : s.kind = 4 ∨ 7 ≤ s.kind
 ·have := (h.off hk).1
  omega
 ·have := (h.on hk).1
  omega
end
open Go.Proofs
def closedI (sh : Sheet) (f : Pr) (R : Int → Prop) (l : List Item) : Prop := ∀ it ∈ l, R it.s.id → ∀ y ∈ goesI sh f it, R y
theorem closedI.sub {sh : Sheet} {f : Pr} {R : Int → Prop} {l m : List Item} (h : closedI sh f R l) (hs : ∀ x ∈ m, x ∈ l) : closedI sh f R m := fun it hi => h it (hs it hi)
theorem mayPrs_row : ∀ (l : List Pr) {n : Nat} {m : Int}, mayPrs n l = some m → ∀ (j : Nat) (f : Pr), l[j]? = some f → ∃ m', rowL 1 ((n + offN l j : Nat) : Int) f.body = some m'
 | [], _, _, _, j, f, hj => by simp at hj
 | g :: r, n, m, h, j, f, hj => by
   rw [mayPrs] at h
   cases hm : mayPr g <;> rw [hm] at h
   ·cases h
   simp only [cond_true] at h
   split at h
   ·rename_i m1 h1
    cases j with
    | zero =>
      cases hj
      exact ⟨m1, h1⟩
    | succ j =>
      have h2 := rowL_cnt _ _ g.body h1
      have h' : mayPrs ((n + cntL g.body : Nat) : Int) r = some m := by rw [← h, h2]; rfl
      obtain ⟨m', h3⟩ := mayPrs_row r h' j f (by simpa using hj)
      exact ⟨m', by rw [← h3, offN]; congr 1; omega⟩
   ·cases h
theorem may_row {p : Pg} (h : mayB p = true) {j : Nat} {f : Pr} (hj : p.procs[j]? = some f) : ∃ m, rowL 1 ((offN p.procs j : Nat) : Int) f.body = some m := by
 unfold mayB at h
 simp only [Bool.and_eq_true] at h
 obtain ⟨m, hm⟩ := Option.isSome_iff_exists.1 h.2
 obtain ⟨m', h'⟩ := mayPrs_row p.procs (n := 0) hm j f hj
 exact ⟨m', by rw [← h']; congr 1; omega⟩
section
variable {p : Pg} {k : Nat} {f : Pr}
end
open Go.Proofs
theorem FollowP.no {n : Nat} {nx : List (List Int)} {fm : List (List Bool)} (h : FollowP n nx fm) {a b : Nat} (hb : b < n) (ha : Avd nx n b a) : bitF fm a b = false := by
 have big : ∀ c, n ≤ c → bitF fm c b = false := fun c hc => by
  unfold bitF
  rw [List.getD_eq_getElem?_getD (l := fm), List.getElem?_eq_none (by rw [h.inv.len]; exact hc)]
  rfl
 have last : n - 1 ≠ b → bitF fm (n - 1) b = false := fun hne => by
  unfold bitF
  rw [h.inv.last, filRow_get hb, decide_eq_false hne, decide_eq_false (by omega)]
  rfl
 induction ha with
 | exit he => exact last (Ne.symm he)
 | @step a t hab ht _ ih =>
   rcases Nat.lt_trichotomy a (n - 1) with hlt | heq | hgt
   ·have hbit : bitF fm a b = (rowF n nx fm a).getD b false := by
     unfold bitF
     rw [h.fix a hlt]
    rw [hbit, rowF_get hb, decide_eq_false hab]
    cases hs : sharedB fm (nx.getD a []) b with
    | false => rfl
    | true =>
      have := shared_iff.1 hs _ ht
      rw [Int.toNat_natCast, ih] at this
      cases this
   ·subst heq
    exact last hab
   ·exact big a (by omega)
theorem FollowP.iff {n : Nat} {nx : List (List Int)} {fm : List (List Bool)} (h : FollowP n nx fm) {a b : Nat} (ha : a < n) (hb : b < n) : bitF fm a b = true ↔ ¬ Avd nx n b a := by
 constructor
 ·intro h1 h2
  rw [h.no hb h2] at h1
  cases h1
 ·intro h1
  cases hq : bitF fm a b with
  | true => rfl
  | false => exact absurd (h.inv.min a b ha hb hq) h1
theorem bits_ext {n : Nat} {f g : List (List Bool)} (h1 : f.length = n) (h2 : g.length = n) (h3 : ∀ r ∈ f, r.length = n) (h4 : ∀ r ∈ g, r.length = n) (h : ∀ a b, a < n → b < n → bitF f a b = bitF g a b) : f = g := by
 refine List.ext_getElem (by omega) fun a ha hb => ?_
 have e1 := h3 _ (List.getElem_mem ha)
 have e2 := h4 _ (List.getElem_mem hb)
 refine List.ext_getElem (by omega) fun b hc hd => ?_
 have := h a b (by omega) (by omega)
 unfold bitF at this
 rw [List.getD_eq_getElem?_getD (l := f), List.getD_eq_getElem?_getD (l := g), List.getElem?_eq_getElem ha, List.getElem?_eq_getElem hb] at this
 simp only [Option.getD_some] at this
 rw [List.getD_eq_getElem?_getD, List.getD_eq_getElem?_getD, List.getElem?_eq_getElem hc, List.getElem?_eq_getElem hd] at this
 exact this
theorem FollowP.uniq {n : Nat} {nx : List (List Int)} {f g : List (List Bool)} (hf : FollowP n nx f) (hg : FollowP n nx g) : f = g := by
 refine bits_ext hf.inv.len hg.inv.len hf.inv.rows hg.inv.rows fun a b ha hb => ?_
 rw [Bool.eq_iff_iff, hf.iff ha hb, hg.iff ha hb]
noncomputable def folM (n : Nat) (nx : List (List Int)) : List (List Bool) := @Classical.epsilon _ ⟨[]⟩ (FollowP n nx)
theorem FollowP.eq {n : Nat} {nx : List (List Int)} {fm : List (List Bool)} (h : FollowP n nx fm) : fm = folM n nx := h.uniq (Classical.epsilon_spec ⟨fm, h⟩)
theorem foldN_mem : ∀ (l : List (Int × Int)) (rows : List (List Int)), (∀ t ∈ l, 0 ≤ t.1 ∧ t.1 < rows.length) → ∀ (a : Nat) (x : Int), x ∈ (l.foldl nxE rows).getD a [] ↔ x ∈ rows.getD a [] ∨ ∃ t ∈ l, t.1 = a ∧ t.2 = x
 | [], rows, _, a, x => by simp
 | t :: r, rows, h, a, x => by
   obtain ⟨h1, h2⟩ := h t List.mem_cons_self
   rw [List.foldl_cons, foldN_mem r (nxE rows t) (fun u hu => by rw [nxE_len]; exact h u (List.mem_cons_of_mem _ hu))]
   have e : x ∈ (nxE rows t).getD a [] ↔ x ∈ rows.getD a [] ∨ (t.1 = a ∧ t.2 = x) := by
    unfold nxE
    simp only [List.getD_eq_getElem?_getD, List.getElem?_set]
    by_cases he : t.1.toNat = a
    ·subst he
     have e0 : t.1 = (t.1.toNat : Int) := by omega
     rw [if_pos rfl, if_pos (by omega)]
     simp only [Option.getD_some, List.mem_append, List.mem_singleton]
     constructor
     ·rintro (h3 | h3)
      ·exact .inl h3
      ·exact .inr ⟨e0, h3.symm⟩
     ·rintro (h3 | ⟨_, h3⟩)
      ·exact .inl h3
      ·exact .inr h3.symm
    ·rw [if_neg he]
     constructor
     ·exact .inl
     ·rintro (h3 | ⟨h3, _⟩)
      ·exact h3
      ·omega
   rw [e]
   simp only [List.mem_cons, exists_eq_or_imp, or_assoc]
theorem nextR_mem {n : Nat} {l : List (Int × Int)} (h : ∀ t ∈ l, 0 ≤ t.1 ∧ t.1 < n) {a : Nat} {x : Int} : x ∈ (nextR n l).getD a [] ↔ ∃ t ∈ l, t.1 = a ∧ t.2 = x := by
 unfold nextR
 rw [foldN_mem l _ (by simpa using h)]
 have : (List.replicate n ([] : List Int)).getD a [] = [] := by
  rw [List.getD_eq_getElem?_getD, List.getElem?_replicate]
  split <;> rfl
 rw [this]
 simp
inductive AvdP (R : Int → Int → Prop) (b : Int) : Int → Prop
 | exit (h : b ≠ -1) : AvdP R b (-1)
 | step {a t : Int} (hab : a ≠ b) (hs : R a t) (h : AvdP R b t) : AvdP R b a
mutual
theorem rowS_one : ∀ (t : S) {nest seen m : Int}, rowS nest seen t = some m → ∀ u ∈ flS t, oneOk u = true
 | .mk id kind labels name pr x has args thn els, nest, seen, m, h, u, hu => by
   obtain ⟨h1, _, m1, h3, h4⟩ := rowS_parts h
   rw [flS] at hu
   rcases List.mem_cons.1 hu with rfl | hu
   ·exact h1
   ·rcases List.mem_append.1 hu with hu | hu
    ·exact rowL_one thn h3 u hu
    ·exact rowL_one els h4 u hu
theorem rowL_one : ∀ (l : List S) {nest seen m : Int}, rowL nest seen l = some m → ∀ u ∈ flL l, oneOk u = true
 | [], _, _, _, _, u, hu => by rw [flL] at hu; cases hu
 | t :: r, nest, seen, m, h, u, hu => by
   obtain ⟨_, m1, h1, h2⟩ := rowL_parts h
   rw [flL] at hu
   rcases List.mem_append.1 hu with hu | hu
   ·exact rowS_one t h1 u hu
   ·exact rowL_one r h2 u hu
end
theorem body_one {p : Pg} {j : Nat} {f : Pr} (h : chkB p = true) (hj : p.procs[j]? = some f) {t : S} (ht : t ∈ flL f.body) : OneF t := by
 obtain ⟨m, hr⟩ := may_row (chk_parts h).1 hj
 exact one_facts (rowL_one _ hr t ht)
section
variable {p : Pg} {j : Nat} {f : Pr}
def aR (p : Pg) (j : Nat) (f : Pr) : Int → Int → Prop := stR (augW (newWay p j f) f)
theorem aug_len (h : chkB p = true) (hj : p.procs[j]? = some f) : (augW (newWay p j f) f).length ≤ 200000 := by
 obtain ⟨_, _, hcn⟩ := chk_cnt h
 obtain ⟨_, _, _, hlen, hsp⟩ := sheet_spec p
 obtain ⟨_, _, hle, _⟩ := hsp j f hj
 obtain ⟨h1, h2, _⟩ := normS_gen (aug_ok h hj)
 have h3 := nodup_len (l := augW (newWay p j f) f) (m := ((newWay p j f).real ++ (idsN (offN p.procs j) (cntL f.body)).map fun id => ⟨id, -1, 3⟩) ++ [⟨0, -1, 2⟩] ++ (itsOf p j f).flatMap fOf) (lt_nodup h1) fun s hs => by
  rcases List.mem_append.1 (h2 s hs) with h4 | h4
  ·refine List.mem_append.2 (.inl ?_)
   rcases List.mem_append.1 h4 with h4 | h4
   ·refine List.mem_append.2 (.inl ?_)
    rcases List.mem_append.1 h4 with h4 | h4
    ·obtain ⟨l, hl, t, ht, hid, hk, rfl⟩ := (virt_mem h hj).1 h4
     have hb := body_id (chk_parts h).1 hj ht
     exact List.mem_append.2 (.inr (List.mem_map.2 ⟨t.id, idsN_has hb.1 hb.2, rfl⟩))
    ·exact List.mem_append.2 (.inl h4)
   ·exact List.mem_append.2 (.inr h4)
  ·exact List.mem_append.2 (.inr h4)
 have h4 := real_len hj hcn
 have h5 : (idsN (offN p.procs j) (cntL f.body)).length = cntL f.body := by unfold idsN; simp
 have h6 := flatMap_take_len (g := fOf) (c := 1) (itsOf p j f) fun it _ => fOf_len it
 have h7 : (itsOf p j f).length = cntL f.body := itL_len _ _ _ _ _ _
 simp only [List.length_append, List.length_map, List.length_singleton] at h3
 omega
theorem aR_iff (h : chkB p = true) (hj : p.procs[j]? = some f) {a b : Int} : aR p j f a b ↔ wR p j f a b ∨ (a = 0 ∧ b = -1) ∨ (∃ l ∈ trapsW (newWay p j f) f, ∃ t ∈ flL f.body, t.id ∈ l ∧ t.kind = 10 ∧ a = t.id ∧ b = -1) ∨ ∃ it ∈ itsOf p j f, 7 ≤ it.s.kind ∧ a = it.s.id ∧ b = it.next := by
 have hA := normS_gen (aug_ok h hj)
 have hraw : ∀ s, s ∈ augRaw (newWay p j f) f ↔ s ∈ virtW (newWay p j f) f ∨ s ∈ (newWay p j f).real ∨ s = ⟨0, -1, 2⟩ ∨ s ∈ (itsOf p j f).flatMap fOf := fun s => by
  have e : augRaw (newWay p j f) f = virtW (newWay p j f) f ++ (newWay p j f).real ++ [⟨0, -1, 2⟩] ++ (itsOf p j f).flatMap fOf := rfl
  rw [e]
  simp only [List.mem_append, List.mem_singleton, or_assoc]
 have hof : ∀ s ∈ augRaw (newWay p j f) f, aR p j f s.src s.dst := fun s hs => by
  obtain ⟨s', h1, h2, h3, _⟩ := hA.2.2 s hs
  exact ⟨s', h1, h2, h3⟩
 constructor
 ·rintro ⟨s, hs, rfl, rfl⟩
  rcases (hraw s).1 (hA.2.1 s hs) with h1 | h1 | h1 | h1
  ·obtain ⟨l, hl, t, ht, hid, hk, rfl⟩ := (virt_mem h hj).1 h1
   exact .inr (.inr (.inl ⟨l, hl, t, ht, hid, hk, rfl, rfl⟩))
  ·exact .inl ⟨s, h1, rfl, rfl⟩
  ·rw [h1]; exact .inr (.inl ⟨rfl, rfl⟩)
  ·obtain ⟨it, hi, hs⟩ := List.mem_flatMap.1 h1
   unfold fOf at hs
   split at hs
   ·rw [List.mem_singleton.1 hs]
    exact .inr (.inr (.inr ⟨it, hi, by omega, rfl, rfl⟩))
   ·cases hs
 ·rintro (⟨s, hs, rfl, rfl⟩ | ⟨rfl, rfl⟩ | ⟨l, hl, t, ht, hid, hk, rfl, rfl⟩ | ⟨it, hi, hk, rfl, rfl⟩)
  ·exact hof s ((hraw s).2 (.inr (.inl hs)))
  ·exact hof ⟨0, -1, 2⟩ ((hraw _).2 (.inr (.inr (.inl rfl))))
  ·exact hof ⟨t.id, -1, 3⟩ ((hraw _).2 (.inl ((virt_mem h hj).2 ⟨l, hl, t, ht, hid, hk, rfl⟩)))
  ·refine hof ⟨it.s.id, it.next, 2⟩ ((hraw _).2 (.inr (.inr (.inr (List.mem_flatMap.2 ⟨it, hi, ?_⟩)))))
   have hF := (body_one h hj (its_s hi)).hi
   unfold fOf
   rw [if_pos (by omega)]
   exact List.mem_singleton.2 rfl
theorem aR_pl (h : chkB p = true) (hj : p.procs[j]? = some f) {a b : Int} (hr : aR p j f a b) : plP p j f a ∧ plP p j f b ∧ a ≠ -1 ∧ b ≠ 0 := by
 have hst : ∀ t ∈ flL f.body, plP p j f t.id ∧ t.id ≠ -1 := fun t ht => by
  have hb := body_id (chk_parts h).1 hj ht
  exact ⟨.inr (.inr hb), by omega⟩
 rcases (aR_iff h hj).1 hr with h1 | ⟨rfl, rfl⟩ | ⟨l, hl, t, ht, hid, hk, rfl, rfl⟩ | ⟨it, hi, hk, rfl, rfl⟩
 ·obtain ⟨h2, h3⟩ := R_pl h hj h1
  refine ⟨h2, h3, ?_, fun e => no_entry h hj (e ▸ h1)⟩
  obtain ⟨s, hs, rfl, rfl⟩ := h1
  rcases raw_src0 h hj (((real_spec h hj).2 s).1 hs) with h4 | h4
  ·rw [h4]; show (0 : Int) ≠ -1; decide
  ·omega
 ·exact ⟨.inl rfl, .inr (.inl rfl), by decide, by decide⟩
 ·exact ⟨(hst t ht).1, .inr (.inl rfl), (hst t ht).2, by decide⟩
 ·have h1 := (its_rng hi).1
  unfold okI at h1
  refine ⟨(hst _ (its_s hi)).1, ?_, (hst _ (its_s hi)).2, by omega⟩
  rcases h1 with h1 | h1
  ·exact .inr (.inl h1)
  ·exact .inr (.inr h1)
theorem prsA_new : prsA (newWay p j f) f = (augW (newWay p j f) f).map (ixP p j f (cntL f.body + 2 : Nat)) := rfl
theorem prsA_in (h : chkB p = true) (hj : p.procs[j]? = some f) : ∀ t ∈ prsA (newWay p j f) f, (0 ≤ t.1 ∧ t.1 < (cntL f.body + 2 : Nat)) ∧ 0 ≤ t.2 ∧ t.2 < (cntL f.body + 2 : Nat) := fun t ht => by
 rw [prsA_new] at ht
 obtain ⟨s, hs, rfl⟩ := List.mem_map.1 ht
 obtain ⟨h1, h2, _⟩ := aR_pl h hj ⟨s, hs, rfl, rfl⟩
 exact ⟨ix_rng h1, ix_rng h2⟩
theorem prsA_mem (h : chkB p = true) (hj : p.procs[j]? = some f) {a b : Int} (ha : plP p j f a) (hb : plP p j f b) : (ixI p j f a, ixI p j f b) ∈ prsA (newWay p j f) f ↔ aR p j f a b := by
 rw [prsA_new]
 constructor
 ·intro h1
  obtain ⟨s, hs, he⟩ := List.mem_map.1 h1
  obtain ⟨h2, h3, _⟩ := aR_pl h hj ⟨s, hs, rfl, rfl⟩
  have e1 : ixI p j f s.src = ixI p j f a := congrArg Prod.fst he
  have e2 : ixI p j f s.dst = ixI p j f b := congrArg Prod.snd he
  exact ⟨s, hs, ix_inj h2 ha e1, ix_inj h3 hb e2⟩
 ·rintro ⟨s, hs, rfl, rfl⟩
  exact List.mem_map.2 ⟨s, hs, rfl⟩
theorem ix_exit : ixI p j f (-1) = (cntL f.body + 2 : Nat) - 1 := by
 unfold ixI indexI
 rw [if_neg (by decide), if_pos rfl]
theorem avd_iff (h : chkB p = true) (hj : p.procs[j]? = some f) {a b : Int} (ha : plP p j f a) (hb : plP p j f b) : Avd (nextR (cntL f.body + 2) (prsA (newWay p j f) f)) (cntL f.body + 2) (ixI p j f b).toNat (ixI p j f a).toNat ↔ AvdP (aR p j f) b a := by
 have hin := prsA_in h hj
 have hrb := ix_rng hb
 constructor
 ·intro h1
  generalize hx : (ixI p j f a).toNat = x at h1
  induction h1 generalizing a with
  | exit hne =>
    have hra := ix_rng ha
    have : a = -1 := ix_inj ha (.inr (.inl rfl)) (by rw [ix_exit]; omega)
    subst this
    refine .exit fun e => ?_
    subst e
    rw [ix_exit] at hne
    omega
  | @step x t hne ht _ ih =>
    obtain ⟨u, hu, h2, h3⟩ := (nextR_mem (fun t ht => (hin t ht).1)).1 ht
    obtain ⟨s, hs, he⟩ := List.mem_map.1 hu
    obtain ⟨q2, q3, _⟩ := aR_pl h hj ⟨s, hs, rfl, rfl⟩
    have e1 : ixI p j f s.src = u.1 := congrArg Prod.fst he
    have e2 : ixI p j f s.dst = u.2 := congrArg Prod.snd he
    have hra := ix_rng ha
    have e3 : s.src = a := ix_inj q2 ha (by omega)
    refine .step (fun e => ?_) ⟨s, hs, e3, rfl⟩ (ih q3 (by omega))
    subst e
    exact hne hx.symm
 ·intro h1
  induction h1 with
  | exit hne =>
    rw [ix_exit, show (((cntL f.body + 2 : Nat) : Int) - 1).toNat = cntL f.body + 2 - 1 by omega]
    refine .exit fun e => hne (ix_inj hb (.inr (.inl rfl)) (by rw [ix_exit]; omega))
  | @step a t hne hs _ ih =>
    obtain ⟨q2, q3, _⟩ := aR_pl h hj hs
    have hra := ix_rng q2
    have hrt := ix_rng q3
    refine .step (t := (ixI p j f t).toNat) (fun e => hne (ix_inj q2 hb (by omega))) ?_ (ih q3)
    refine (nextR_mem (fun t ht => (hin t ht).1)).2 ⟨_, (prsA_mem h hj q2 q3).2 hs, ?_, ?_⟩
    ·show ixI p j f a = _
     omega
    ·show ixI p j f t = _
     omega
def folP (p : Pg) (j : Nat) (f : Pr) (a b : Int) : Prop := ¬ AvdP (aR p j f) b a
noncomputable def decL (w : Way) (f : Pr) (n : Nat) : List (Int × Int) := (List.range n).flatMap fun (x : Nat) => ((List.range n).filter fun y => mkM n (folM n (nextR n (prsA w f))) (prsA w f) x y).map fun (y : Nat) => (placeI w.p w.j w.n x, placeI w.p w.j w.n y)
theorem decL_eq {w : Way} {n : Nat} {fm M : List (List Bool)} (h1 : FollowP n (nextR n (prsA w f)) fm) (h2 : ∀ a b, a < n → b < n → bitF M a b = mkM n fm (prsA w f) a b) : outM (placeI w.p w.j w.n) M n n = decL w f n := by
 rw [h1.eq] at h2
 unfold outM decL
 have hf : ∀ x ∈ List.range n, ((List.range n).filter fun y => bitF M x y).map (fun (y : Nat) => (placeI w.p w.j w.n x, placeI w.p w.j w.n y)) = ((List.range n).filter fun y => mkM n (folM n (nextR n (prsA w f))) (prsA w f) x y).map fun (y : Nat) => (placeI w.p w.j w.n x, placeI w.p w.j w.n y) := fun x hx => by
  rw [List.filter_congr fun y hy => h2 x y (List.mem_range.1 hx) (List.mem_range.1 hy)]
 rw [List.flatMap_def, List.flatMap_def, List.map_congr_left hf]
theorem decL_len (w : Way) (n : Nat) : (decL w f n).length ≤ n * n := by
 unfold decL
 have h1 := flatMap_take_len (g := fun (x : Nat) => ((List.range n).filter fun y => mkM n (folM n (nextR n (prsA w f))) (prsA w f) x y).map fun (y : Nat) => (placeI w.p w.j w.n x, placeI w.p w.j w.n y)) (c := n) (List.range n) fun x _ => by
  rw [List.length_map]
  exact Nat.le_trans (List.length_filter_le _ _) (by simp)
 rw [List.length_range] at h1
 exact h1
end
theorem fol_bit {p : Pg} {j : Nat} {f : Pr} (h : chkB p = true) (hj : p.procs[j]? = some f) {fm : List (List Bool)} (hF : FollowP (cntL f.body + 2) (nextR (cntL f.body + 2) (prsA (newWay p j f) f)) fm) {a b : Int} (ha : plP p j f a) (hb : plP p j f b) : bitF fm (ixI p j f a).toNat (ixI p j f b).toNat = true ↔ folP p j f a b := by
 have hra := ix_rng ha
 have hrb := ix_rng hb
 unfold folP
 rw [hF.iff (by omega) (by omega), avd_iff h hj ha hb]
open Go.Proofs
noncomputable def decO (p : Pg) (n : Str) : List (Int × Int) := match wayO p n with
 | some w => (match w.p.procs[w.j]? with
   | some f => decL w f (cntL f.body + 2)
   | none => [])
 | none => []
theorem decO_some {p : Pg} {n : Str} {k : Nat} {f : Pr} (hw : wayO p n = some (newWay p k f)) (hk : p.procs[k]? = some f) : decO p n = decL (newWay p k f) f (cntL f.body + 2) := by
 have h : (newWay p k f).p.procs[(newWay p k f).j]? = some f := hk
 unfold decO
 rw [hw]
 simp only
 rw [h]
theorem decO_none {p : Pg} {n : Str} (hw : wayO p n = none) : decO p n = [] := by
 unfold decO
 rw [hw]
theorem decO_len (p : Pg) (n : Str) : (decO p n).length ≤ 1000000 := by
 cases hw : wayO p n with
 | none => rw [decO_none hw]; simp
 | some w =>
   obtain ⟨k, f, hkj, rfl, hc, _⟩ := wayO_some hw
   obtain ⟨_, _, hcn⟩ := chk_cnt hc
   obtain ⟨_, _, _, hlen, hsp⟩ := sheet_spec p
   obtain ⟨_, _, hle, _⟩ := hsp k f hkj
   rw [decO_some hw hkj]
   have h1 := decL_len (f := f) (newWay p k f) (cntL f.body + 2)
   have h2 : (cntL f.body + 2) * (cntL f.body + 2) ≤ 202 * 202 := Nat.mul_le_mul (by omega) (by omega)
   omega
theorem cdep_Of (p : Pg) (hf : Fit p) (n : Str) : SpecP Tryz.prog 42 [.agg p.cells, .str n] (fun r => r = .sl (avP (decO p n))) := by
 refine SpecP.body I_cdep_Of tabOK Tryz.func42 rfl Tryz.call42 (by show 2 ≤ _; decide) ?_
 conv => whnf
 have hW := way_Of p hf n
 cases hw : wayO p n with
 | none =>
   rw [decO_none hw]
   rw [hw] at hW
   repeat' (refine CallK.pure hW (.cons (Sub.refl _) (.cons (Sub.refl _) .nil)) ?_; rintro _ rfl; conv => whnf)
   exact ⟨_, .p Sub.nils, rfl⟩
 | some w =>
   obtain ⟨k, f, hkj, rfl, hc, _⟩ := wayO_some hw
   have hw0 := hw
   rw [hw] at hW
   repeat' ((first | (refine CallK.pure hW (.cons (Sub.refl _) (.cons (Sub.refl _) .nil)) ?_; rintro _ rfl) | (refine CallK.pure (way_Way_Decides (newWay p k f) f (cntL f.body+2) (wayT hc hkj) (prsA_in hc hkj) (Nat.le_trans (aug_len hc hkj) (by decide))) (.cons (Sub.refl _) .nil) ?_; rintro _ ⟨fm, M, h1, h2, h3, rfl⟩)); conv => whnf)
   exact RetK.p (by rw [decO_some hw0 hkj, ← decL_eq h1 h3])
noncomputable def byR (p : Pg) (n : Str) (id : Int) : List Int := ((decO p n).filter fun d => decide (d.2 = id)).map Prod.fst
theorem cdep_By (p : Pg) (hf : Fit p) (n : Str) (id : Int) : SpecP Tryz.prog 43 [.agg p.cells, .str n, .int .i64 id] (fun r => r = eInts (byR p n id)) := by
 refine SpecP.body I_cdep_By tabOK Tryz.func43 rfl Tryz.call43 (by show 3 ≤ _; decide) ?_
 conv => whnf
 have hO := cdep_Of p hf n
 have hlen := decO_len p n
 have hB : byR p n id = ((decO p n).filter fun d => decide (d.2 = id)).map Prod.fst := rfl
 generalize decO p n = L at hO hlen hB
 generalize byR p n id = B at hB
 have hal : (avP L).length = L.length := by unfold avP; rw [List.length_map]
 repeat' ((first | (intro (_ : _ ≤ 9223372036854775807)) | (refine CallK.pure hO (.cons (Sub.refl _) (.cons (Sub.refl _) .nil)) ?_; rintro _ rfl)); conv => whnf)
 refine LoopK.inv tabOK (fun x : Nat × List Int => ⟨[(2, .p (.int .i64 id)), (7, .hd 0 0 x.2.length), (12, .p (.sl (avP L))), (13, .p (.int .i64 (avP L).length)), (14, .p (.int .i64 x.1))], [(0, .own 3 1 (x.2.map (.int .i64)))]⟩) (fun x => x.1 ≤ L.length ∧ x.2.length ≤ x.1 ∧ x.2 ++ ((L.drop x.1).filter fun d => decide (d.2 = id)).map Prod.fst = B) (fun x => L.length - x.1) (0, [])
  (Le.mk [(0, .own 3 1 [])] (by simp [Chunk.new0]; rfl) (by simp) (by simp) (.cons (.refl _) (.cons (.nil List.mem_cons_self) (.cons (.refl _) (.cons (.refl _) (.cons (.refl _) .nil))))) (.new List.mem_cons_self .nil)) ⟨Nat.zero_le _, Nat.le_refl _, hB.symm⟩ ?_
 rintro ⟨j, o⟩ ⟨h2, h4, h3⟩
 simp only at h2 h3 h4 ⊢
 rcases Nat.lt_or_ge j L.length with hj | hj
 ·rw [List.drop_eq_getElem_cons hj] at h3
  have hme : (avP L)[j]? = some (.agg [.int .i64 L[j].1, .int .i64 L[j].2]) := by simp [avP, hj]
  generalize L[j] = t at hme h3
  conv => whnf
  repeat' (first | ((first | (refine And.intro rfl ?_) | (refine And.intro ⟨by decide, by decide⟩ ?_) | (refine BsK.pure (fun x hx => by rcases List.mem_singleton.1 hx with rfl; rfl) rfl ?_) | (refine Wr.i64 (by omega) (by omega) ?_) | (refine IdxK.at (k := j) rfl hme rfl ?_) | (refine IdxL.mk 1 rfl (by decide) ?_) | (refine IdxL.mk 0 rfl (by decide) ?_) | (refine AppK.int1 (by simp) (by simp; omega) ?_)); conv => whnf) | (refine Br.dec (fun _ => ?_) (fun _ => ?_) <;> first | (exfalso; omega) | conv => whnf))
  all_goals first
   | (have e : decide (t.2 = id) = true := decide_eq_true (by assumption)
      rw [List.filter_cons_of_pos (by exact e), List.map_cons] at h3
      exact ⟨(j + 1, o ++ [t.1]), ⟨hj, by simp; omega, by rw [List.append_assoc]; exact h3⟩, by simp only; omega, Le.of_eq (by simp only [List.length_append, List.map_append, List.length_map]; rfl)⟩)
   | (have e : decide (t.2 = id) = false := decide_eq_false (by assumption)
      rw [List.filter_cons_of_neg (fun hh => by rw [e] at hh; cases hh)] at h3
      exact ⟨(j + 1, o), ⟨hj, by simp only; omega, h3⟩, by simp only; omega, Le.of_eq rfl⟩)
   | trace_state
 ·rw [List.drop_eq_nil_of_le hj] at h3
  simp only [List.filter_nil, List.map_nil, List.append_nil] at h3
  conv => whnf
  repeat' (refine Br.dec (fun _ => ?_) (fun _ => ?_) <;> first | (exfalso; omega) | conv => whnf)
  all_goals first
   | exact ⟨_, .hd rfl (by simp), by rw [← h3]; rfl⟩
   | trace_state
def upAt (sh : Sheet) (id : Int) : Int := ((sh.l[(id - 1).toNat]?).map Item.up).getD 0
def upF (sh : Sheet) : Nat → Int → List Int
 | 0, _ => []
 | k + 1, id => if id = 0 then [] else id :: upF sh k (upAt sh id)
mutual
theorem itS_up (proc nx lp : Int) : ∀ (t : S) (up : Int) (n i : Nat) (it : Item), (itS proc up nx lp n t)[i]? = some it → it.up = up ∨ ((n : Int) + 1 ≤ it.up ∧ it.up ≤ n + i)
 | .mk id kind labels name pr x has args thn els, up, n, i, it, h => by
   rw [itS] at h
   cases i with
   | zero => cases h; exact .inl rfl
   | succ i =>
     rw [List.getElem?_cons_succ] at h
     rcases Nat.lt_or_ge i (cntL thn) with hi | hi
     ·rw [List.getElem?_append_left (by rw [itL_len]; exact hi)] at h
      have := itL_up proc _ _ thn _ _ i it h
      omega
     ·rw [List.getElem?_append_right (by rw [itL_len]; exact hi), itL_len] at h
      have := itL_up proc _ _ els _ _ _ it h
      omega
theorem itL_up (proc nx lp : Int) : ∀ (l : List S) (up : Int) (n i : Nat) (it : Item), (itL proc up nx lp n l)[i]? = some it → it.up = up ∨ ((n : Int) + 1 ≤ it.up ∧ it.up ≤ n + i)
 | [], up, n, i, it, h => by rw [itL] at h; simp at h
 | t :: r, up, n, i, it, h => by
   rw [itL] at h
   rcases Nat.lt_or_ge i (cntS t) with hi | hi
   ·rw [List.getElem?_append_left (by rw [itS_len]; exact hi)] at h
    exact itS_up proc _ _ t up n i it h
   ·rw [List.getElem?_append_right (by rw [itS_len]; exact hi), itS_len] at h
    have := itL_up proc _ _ r up _ _ it h
    omega
end
theorem pos_proc : ∀ (l : List Pr) (k : Nat), k < cntP l → ∃ j f, l[j]? = some f ∧ offN l j ≤ k ∧ k < offN l j + cntL f.body
 | [], k, h => by rw [cntP] at h; omega
 | g :: r, k, h => by
   rw [cntP] at h
   rcases Nat.lt_or_ge k (cntL g.body) with hk | hk
   ·exact ⟨0, g, rfl, by rw [offN]; omega, by rw [offN]; omega⟩
   ·obtain ⟨j, f, h1, h2, h3⟩ := pos_proc r (k - cntL g.body) (by omega)
    exact ⟨j + 1, f, by simpa using h1, by rw [offN]; omega, by rw [offN]; omega⟩
theorem up_rng (p : Pg) {id : Int} (h1 : 1 ≤ id) : 0 ≤ upAt (sheetOf p) id ∧ upAt (sheetOf p) id < id := by
 unfold upAt
 obtain ⟨_, _, _, hlen, hsp⟩ := sheet_spec p
 cases hq : (sheetOf p).l[(id - 1).toNat]? with
 | none => exact ⟨Int.le_refl _, by show (0 : Int) < id; omega⟩
 | some it =>
   show 0 ≤ it.up ∧ it.up < id
   have hlt := (List.getElem?_eq_some_iff.1 hq).1
   obtain ⟨j, f, hj, h2, h3⟩ := pos_proc p.procs (id - 1).toNat (by omega)
   obtain ⟨_, _, hle, hdr⟩ := hsp j f hj
   have h4 : (itL j 0 (-1) 0 (offN p.procs j) f.body)[(id - 1).toNat - offN p.procs j]? = some it := by
    rw [← hdr, List.getElem?_drop, List.getElem?_take_of_lt (by omega), show offN p.procs j + ((id - 1).toNat - offN p.procs j) = (id - 1).toNat by omega]
    exact hq
   have := itL_up j (-1) 0 f.body 0 (offN p.procs j) _ it h4
   omega
def inR (p : Pg) (id : Int) : List Int := bif chkB p && (decide (1 ≤ id) && decide (id ≤ (sheetOf p).l.length)) then (upF (sheetOf p) 300 (upAt (sheetOf p) id)).reverse else []
theorem cdep_In (p : Pg) (hf : Fit p) (id : Int) : SpecP Tryz.prog 44 [.agg p.cells, .int .i64 id] (fun r => r = eInts (inR p id)) := by
 refine SpecP.body I_cdep_In tabOK Tryz.func44 rfl Tryz.call44 (by show 2 ≤ _; decide) ?_
 conv => whnf
 cases hc : chkB p with
 | false =>
   have e : inR p id = [] := by unfold inR; rw [hc]; rfl
   have hA : ¬ (allB p).1 = 0 := by unfold chkB at hc; simpa using hc
   rw [e]
   repeat' (first | (refine CallK.pure (check_May p hf) (by repeat' (first | exact ArgP.nil | refine ArgP.cons ?_ ?_ | exact Sub.refl _ | exact Sub.tt rfl | exact Sub.ff rfl | exact Sub.int (by omega))) ?_; rintro _ rfl; conv => whnf) | (refine Br.dec2 (fun _ => ?_) (fun _ => ?_) <;> first | (exfalso; omega) | conv => whnf))
   all_goals first
    | exact ⟨_, .p Sub.nils, rfl⟩
    | (exfalso; exact hA (by assumption))
 | true =>
   obtain ⟨hg, hpl, hcn⟩ := chk_cnt hc
   have hA : (allB p).1 = 0 := by unfold chkB at hc; simpa using hc
   cases hin : (decide (1 ≤ id) && decide (id ≤ (sheetOf p).l.length)) with
   | false =>
     have e : inR p id = [] := by unfold inR; rw [hc, hin]; rfl
     rw [e]
     repeat' (first | ((first | (refine CallK.pure (check_May p hf) (by repeat' (first | exact ArgP.nil | refine ArgP.cons ?_ ?_ | exact Sub.refl _ | exact Sub.tt rfl | exact Sub.ff rfl | exact Sub.int (by omega))) ?_; rintro _ rfl) | (refine CallK.pure (flat_Sheet_Has _ _) (by repeat' (first | exact ArgP.nil | refine ArgP.cons ?_ ?_ | exact Sub.refl _ | exact Sub.tt rfl | exact Sub.ff rfl)) ?_; rintro _ rfl) | (refine CallK.pure (flat_New p (by omega) (by omega)) (.cons (Sub.refl _) .nil) ?_; rintro _ rfl)); conv => whnf) | (refine Br.dec2 (fun _ => ?_) (fun _ => ?_) <;> first | (exfalso; omega) | conv => whnf) | (refine Br.n (fun _ => ?_) (fun _ => ?_) <;> conv => whnf))
     all_goals first
      | exact ⟨_, .p Sub.nils, rfl⟩
      | (exfalso; omega)
      | (exfalso; simp_all)
   | true =>
     have hid : 1 ≤ id ∧ id ≤ (sheetOf p).l.length := by simpa using hin
     have hlt : (id - 1).toNat < (sheetOf p).l.length := by omega
     have hlen := (sheet_spec p).2.2.2.1
     have e : inR p id = (upF (sheetOf p) 300 (upAt (sheetOf p) id)).reverse := by unfold inR; rw [hc, hin]; rfl
     have hx : ((sheetOf p).l.map fun i => AV.agg i.cells)[(id - 1).toNat]? = some (.agg (sheetOf p).l[(id - 1).toNat].cells) := by rw [List.getElem?_map, List.getElem?_eq_getElem hlt]; rfl
     have hu : (sheetOf p).l[(id - 1).toNat].up = upAt (sheetOf p) id := by unfold upAt; rw [List.getElem?_eq_getElem hlt]; rfl
     have hur := up_rng p hid.1
     rw [e]
     repeat' (first | ((first | (refine CallK.pure (check_May p hf) (by repeat' (first | exact ArgP.nil | refine ArgP.cons ?_ ?_ | exact Sub.refl _ | exact Sub.tt rfl | exact Sub.ff rfl | exact Sub.int (by omega))) ?_; rintro _ rfl) | (refine CallK.pure (flat_Sheet_Has _ _) (by repeat' (first | exact ArgP.nil | refine ArgP.cons ?_ ?_ | exact Sub.refl _ | exact Sub.tt rfl | exact Sub.ff rfl)) ?_; rintro _ rfl) | (refine Wr.i64 (by omega) (by omega) ?_) | (refine CallK.pure (flat_New p (by omega) (by omega)) (.cons (Sub.refl _) .nil) ?_; rintro _ rfl) | (refine IdxK.at (by omega) hx rfl ?_)); conv => whnf) | (refine Br.dec2 (fun _ => ?_) (fun _ => ?_) <;> first | (exfalso; omega) | conv => whnf) | (refine Br.n (fun _ => ?_) (fun _ => ?_) <;> conv => whnf))
     rotate_left 1
     ·exfalso
      rename_i h9
      rw [hin] at h9
      cases h9
     refine LoopK.inv tabOK (fun x : Int × List Int × Nat => ⟨[(5, .p (.ip (sheetOf p).cells)), (6, .hd 0 0 x.2.1.length), (7, .p (.int .i64 x.1))], [(0, .own 3 1 (x.2.1.map (.int .i64)))]⟩)
      (fun x => (0 ≤ x.1 ∧ x.1 ≤ (sheetOf p).l.length) ∧ x.1 < x.2.2 ∧ x.2.1.length + x.2.2 ≤ 300 ∧ x.2.1 ++ upF (sheetOf p) x.2.2 x.1 = upF (sheetOf p) 300 (upAt (sheetOf p) id)) (fun x => x.2.2) (upAt (sheetOf p) id, [], 300)
      (Le.mk [(0, .own 3 1 [])] (by simp [Chunk.new0]; rfl) (by simp) (by simp) (.cons (.refl _) (.cons (.nil List.mem_cons_self) (.cons (.of_eq (by rw [hu]; rfl)) .nil))) (.new List.mem_cons_self .nil))
      ⟨⟨by simp only; omega, by simp only; omega⟩, by simp only; omega, by simp, rfl⟩ ?_
     rintro ⟨u, o, k⟩ ⟨⟨h2, h3⟩, h4, h5, h6⟩
     simp only at h2 h3 h4 h5 h6 ⊢
     by_cases h0 : u = 0
     ·subst h0
      have hR := slices_Reverse_int_int_ o (by omega)
      have h7 : o = upF (sheetOf p) 300 (upAt (sheetOf p) id) := by
       rw [← h6]
       cases k with
       | zero => rw [upF, List.append_nil]
       | succ k => rw [upF, if_pos rfl, List.append_nil]
      rw [← h7]
      conv => whnf
      repeat' (first | (refine CallK.heap [(1000, 0)] 5 (ArgsH.cons (LSub.refl _) ArgsH.nil) (by refine BlksH.cons (j := 0) rfl rfl ?_ ?_; exact CSub.refl _; exact BlksH.nil) hR rfl rfl ?_; rintro l' H' ⟨rfl, rfl⟩; conv => whnf) | (refine Br.dec2 (fun _ => ?_) (fun _ => ?_) <;> first | (exfalso; omega) | conv => whnf))
      exact ⟨_, .hd rfl (by simp), rfl⟩
     ·have hlt2 : (u - 1).toNat < (sheetOf p).l.length := by omega
      have hx2 : ((sheetOf p).l.map fun i => AV.agg i.cells)[(u - 1).toNat]? = some (.agg (sheetOf p).l[(u - 1).toNat].cells) := by rw [List.getElem?_map, List.getElem?_eq_getElem hlt2]; rfl
      have hu2 : (sheetOf p).l[(u - 1).toNat].up = upAt (sheetOf p) u := by unfold upAt; rw [List.getElem?_eq_getElem hlt2]; rfl
      have hur2 := up_rng p (id := u) (by omega)
      have h7 : upF (sheetOf p) k u = u :: upF (sheetOf p) (k - 1) (upAt (sheetOf p) u) := by
       cases k with
       | zero => exact absurd h4 (by omega)
       | succ k => rw [upF, if_neg h0]; rfl
      rw [h7] at h6
      conv => whnf
      repeat' (first | ((first | (refine And.intro rfl ?_) | (refine And.intro ⟨by decide, by decide⟩ ?_) | (refine BsK.pure (fun x hx => by rcases List.mem_singleton.1 hx with rfl; rfl) rfl ?_) | (refine Wr.i64 (by omega) (by omega) ?_) | (refine AppK.int1 (by simp) (by simp; omega) ?_) | (refine IdxK.at (by omega) hx2 rfl ?_)); conv => whnf) | (refine Br.dec2 (fun _ => ?_) (fun _ => ?_) <;> first | (exfalso; omega) | conv => whnf))
      all_goals first
       | (exfalso; omega)
       | exact ⟨(upAt (sheetOf p) u, o ++ [u], k - 1), ⟨⟨by simp only; omega, by simp only; omega⟩, by simp only; omega, by simp; omega, by rw [List.append_assoc]; exact h6⟩, by simp only; omega, Le.of_eq (by rw [← hu2]; simp only [List.length_append, List.map_append, List.length_map]; rfl)⟩
       | trace_state
open Go.Proofs
theorem follow_ex {n : Nat} {nx : List (List Int)} (hnx : ∀ a, ∀ x ∈ nx.getD a [], 0 ≤ x ∧ x < (n : Int)) : ∃ fm, FollowP n nx fm := by
 let F : Nat → Nat → Bool := fun a b => @decide (¬ Avd nx n b a) (Classical.propDecidable _)
 have hF : ∀ a b, F a b = true ↔ ¬ Avd nx n b a := fun a b => by simp only [F]; exact @decide_eq_true_iff _ (Classical.propDecidable _)
 have hrow : ∀ a, a < n → ((List.range n).map fun a => (List.range n).map fun b => F a b).getD a [] = (List.range n).map fun b => F a b := fun a ha => by
  rw [List.getD_eq_getElem?_getD, List.getElem?_map, List.getElem?_range ha]
  rfl
 have hbit : ∀ a b, a < n → b < n → bitF ((List.range n).map fun a => (List.range n).map fun b => F a b) a b = F a b := fun a b ha hb => by
  unfold bitF
  rw [hrow a ha, List.getD_eq_getElem?_getD, List.getElem?_map, List.getElem?_range hb]
  rfl
 have hfix : ∀ a b, a < n - 1 → b < n → F a b = (rowF n nx ((List.range n).map fun a => (List.range n).map fun b => F a b) a).getD b false := fun a b ha hb => by
  rw [rowF_get hb, Bool.eq_iff_iff, hF, Bool.or_eq_true, decide_eq_true_eq, shared_iff]
  constructor
  ·intro h
   by_cases hab : a = b
   ·exact .inl hab
   ·refine .inr fun t ht => ?_
    have hr := hnx a t ht
    rw [hbit _ _ (by omega) hb, hF]
    exact fun h2 => h (.step hab (by rw [Int.toNat_of_nonneg hr.1]; exact ht) h2)
  ·rintro h h2
   cases h2 with
   | exit hne => omega
   | @step _ t hab ht h3 =>
     have hr := hnx a _ ht
     rcases h with h | h
     ·exact hab h
     ·have h4 := h _ ht
      rw [Int.toNat_natCast, hbit _ _ (by omega) hb, hF] at h4
      exact h4 h3
 refine ⟨(List.range n).map fun a => (List.range n).map fun b => F a b, ⟨by simp, fun r hr => ?_, ?_, fun a b ha hb h => ?_, fun a b ha hb h => ?_⟩, fun a ha => ?_⟩
 ·obtain ⟨a, _, rfl⟩ := List.mem_map.1 hr
  simp
 ·cases n with
  | zero => rfl
  | succ n =>
    rw [hrow _ (by omega)]
    unfold filRow
    refine List.map_congr_left fun b hb => ?_
    rw [List.mem_range] at hb
    rw [Bool.eq_iff_iff, hF, Bool.or_eq_true, decide_eq_true_eq, decide_eq_true_eq]
    constructor
    ·intro h
     refine .inr (Classical.byContradiction fun he => h ?_)
     exact .exit fun e => he e.symm
    ·rintro (h | h) h2
     ·omega
     ·cases h2 with
      | exit hne => exact hne h.symm
      | step hab _ _ => exact hab h
 ·rw [hbit a b (by omega) hb, hfix a b ha hb]
  exact h
 ·rw [hbit a b ha hb] at h
  refine Classical.byContradiction fun h2 => ?_
  rw [(hF a b).2 h2] at h
  cases h
 ·rw [hrow a (by omega)]
  refine List.ext_getElem (by rw [rowF_len]; simp) fun b h1 h2 => ?_
  have hb : b < n := by simpa using h1
  have h3 := hfix a b ha hb
  rw [List.getD_eq_getElem?_getD, List.getElem?_eq_getElem h2] at h3
  simp only [List.getElem_map, List.getElem_range]
  exact h3
theorem nextR_get {n : Nat} {l : List (Int × Int)} (h : ∀ t ∈ l, (0 ≤ t.1 ∧ t.1 < n) ∧ 0 ≤ t.2 ∧ t.2 < n) : ∀ a, ∀ x ∈ (nextR n l).getD a [], 0 ≤ x ∧ x < (n : Int) := fun a x hx => by
 obtain ⟨t, ht, _, rfl⟩ := (nextR_mem fun t ht => (h t ht).1).1 hx
 exact (h t ht).2
def OkL (l : List Int) : Prop := l.Nodup ∧ ∀ x ∈ l, 0 ≤ x ∧ x ≤ 200
theorem OkL.len {l : List Int} (h : OkL l) : l.length ≤ 201 := by
 have := nodup_len (m := (List.range 201).map Int.ofNat) h.1 fun x hx => by
  have := h.2 x hx
  refine List.mem_map.2 ⟨x.toNat, List.mem_range.2 (by omega), ?_⟩
  show (x.toNat : Int) = x
  omega
 simpa using this
namespace Own
theorem cdep_By (p : Pg) (hf : Fit p) (n : Str) (id : Int) : SpecH Tryz.prog 43 [.p (.agg p.cells), .p (.str n), .p (.int .i64 id)] [] (fun r H => r = .hd 0 0 (byR p n id).length ∧ H = [(0, .own 3 1 ((byR p n id).map (.int .i64)))]) := by
 refine SpecH.body I_cdep_By tabOK Tryz.func43 rfl Tryz.call43 (by show 3 ≤ _; decide) ?_
 conv => whnf
 have hO := cdep_Of p hf n
 have hlen := decO_len p n
 have hB : byR p n id = ((decO p n).filter fun d => decide (d.2 = id)).map Prod.fst := rfl
 generalize decO p n = L at hO hlen hB
 generalize byR p n id = B at hB
 have hal : (avP L).length = L.length := by unfold avP; rw [List.length_map]
 repeat' ((first | (intro (_ : _ ≤ 9223372036854775807)) | (refine CallK.pure hO (.cons (Sub.refl _) (.cons (Sub.refl _) .nil)) ?_; rintro _ rfl)); conv => whnf)
 refine LoopK.inv tabOK (fun x : Nat × List Int => ⟨[(2, .p (.int .i64 id)), (7, .hd 0 0 x.2.length), (12, .p (.sl (avP L))), (13, .p (.int .i64 (avP L).length)), (14, .p (.int .i64 x.1))], [(0, .own 3 1 (x.2.map (.int .i64)))]⟩) (fun x => x.1 ≤ L.length ∧ x.2.length ≤ x.1 ∧ x.2 ++ ((L.drop x.1).filter fun d => decide (d.2 = id)).map Prod.fst = B) (fun x => L.length - x.1) (0, [])
  (Le.mk [(0, .own 3 1 [])] (by simp [Chunk.new0]; rfl) (by simp) (by simp) (.cons (.refl _) (.cons (.nil List.mem_cons_self) (.cons (.refl _) (.cons (.refl _) (.cons (.refl _) .nil))))) (.new List.mem_cons_self .nil)) ⟨Nat.zero_le _, Nat.le_refl _, hB.symm⟩ ?_
 rintro ⟨j, o⟩ ⟨h2, h4, h3⟩
 simp only at h2 h3 h4 ⊢
 rcases Nat.lt_or_ge j L.length with hj | hj
 ·rw [List.drop_eq_getElem_cons hj] at h3
  have hme : (avP L)[j]? = some (.agg [.int .i64 L[j].1, .int .i64 L[j].2]) := by simp [avP, hj]
  generalize L[j] = t at hme h3
  conv => whnf
  repeat' (first | ((first | (refine And.intro rfl ?_) | (refine And.intro ⟨by decide, by decide⟩ ?_) | (refine BsK.pure (fun x hx => by rcases List.mem_singleton.1 hx with rfl; rfl) rfl ?_) | (refine Wr.i64 (by omega) (by omega) ?_) | (refine IdxK.at (k := j) rfl hme rfl ?_) | (refine IdxL.mk 1 rfl (by decide) ?_) | (refine IdxL.mk 0 rfl (by decide) ?_) | (refine AppK.int1 (by simp) (by simp; omega) ?_)); conv => whnf) | (refine Br.dec (fun _ => ?_) (fun _ => ?_) <;> first | (exfalso; omega) | conv => whnf))
  all_goals first
   | (have e : decide (t.2 = id) = true := decide_eq_true (by assumption)
      rw [List.filter_cons_of_pos (by exact e), List.map_cons] at h3
      exact ⟨(j + 1, o ++ [t.1]), ⟨hj, by simp; omega, by rw [List.append_assoc]; exact h3⟩, by simp only; omega, Le.of_eq (by simp only [List.length_append, List.map_append, List.length_map]; rfl)⟩)
   | (have e : decide (t.2 = id) = false := decide_eq_false (by assumption)
      rw [List.filter_cons_of_neg (fun hh => by rw [e] at hh; cases hh)] at h3
      exact ⟨(j + 1, o), ⟨hj, by simp only; omega, h3⟩, by simp only; omega, Le.of_eq rfl⟩)
   | trace_state
 ·rw [List.drop_eq_nil_of_le hj] at h3
  simp only [List.filter_nil, List.map_nil, List.append_nil] at h3
  conv => whnf
  repeat' (refine Br.dec (fun _ => ?_) (fun _ => ?_) <;> first | (exfalso; omega) | conv => whnf)
  all_goals first
   | exact ⟨_, LSub.refl _, by rw [← h3], by rw [← h3]⟩
   | trace_state
end Own
open Go.Proofs
inductive Pth (R : Int → Int → Prop) (Q : Int → Prop) : Int → Int → Prop
 | refl (a : Int) : Pth R Q a a
 | head {a t b : Int} (hq : Q a) (hr : R a t) (h : Pth R Q t b) : Pth R Q a b
theorem Pth.one {R : Int → Int → Prop} {Q : Int → Prop} {a b : Int} (hq : Q a) (hr : R a b) : Pth R Q a b := .head hq hr (.refl b)
theorem Pth.trans {R : Int → Int → Prop} {Q : Int → Prop} {a b c : Int} (h : Pth R Q a b) (h' : Pth R Q b c) : Pth R Q a c := by
 induction h with
 | refl => exact h'
 | head hq hr _ ih => exact .head hq hr (ih h')
theorem Pth.mono {R : Int → Int → Prop} {Q Q' : Int → Prop} (hQ : ∀ v, Q v → Q' v) {a b : Int} (h : Pth R Q a b) : Pth R Q' a b := by
 induction h with
 | refl => exact .refl _
 | head hq hr _ ih => exact .head (hQ _ hq) hr ih
inductive AvdD (R : Int → Int → Prop) (D : Int → Prop) : Int → Prop
 | exit (h : ¬ D (-1)) : AvdD R D (-1)
 | step {a t : Int} (ha : ¬ D a) (hs : R a t) (h : AvdD R D t) : AvdD R D a
theorem AvdD.mono {R : Int → Int → Prop} {D D' : Int → Prop} (hD : ∀ v, D' v → D v) {a : Int} (h : AvdD R D a) : AvdD R D' a := by
 induction h with
 | exit h => exact .exit fun hd => h (hD _ hd)
 | step ha hs _ ih => exact .step (fun hd => ha (hD _ hd)) hs ih
theorem AvdD.one {R : Int → Int → Prop} {D : Int → Prop} {a b : Int} (hb : D b) (h : AvdD R D a) : AvdP R b a := by
 induction h with
 | exit h => exact .exit fun e => h (e ▸ hb)
 | step ha hs _ ih => exact .step (fun e => ha (e ▸ hb)) hs ih
theorem Pth.off {R : Int → Int → Prop} {Q D : Int → Prop} {a c : Int} (h : Pth R Q a c) (hQ : ∀ v, Q v → ¬ D v) (hc : AvdD R D c) : AvdD R D a := by
 induction h with
 | refl => exact hc
 | head hq hr _ ih => exact .step (hQ _ hq) hr (ih hc)
theorem avd_no_self {R : Int → Int → Prop} {b : Int} : ¬ AvdP R b b := fun h => by
 cases h with
 | exit h => exact h rfl
 | step h _ _ => exact h rfl
def stepI (sh : Sheet) (f : Pr) (R : Int → Int → Prop) (l : List Item) : Prop := ∀ it ∈ l, (∀ y ∈ goesI sh f it, R it.s.id y) ∧ (7 ≤ it.s.kind → R it.s.id it.next)
theorem stepI.sub {sh : Sheet} {f : Pr} {R : Int → Int → Prop} {l m : List Item} (h : stepI sh f R l) (hs : ∀ x ∈ m, x ∈ l) : stepI sh f R m := fun it hi => h it (hs it hi)
def rng (a b : Int) (v : Int) : Prop := a ≤ v ∧ v ≤ b
open Go.Proofs
theorem Wr.u64 {n : Int} {K : Int → Prop} (h1 : 0 ≤ n) (h2 : n ≤ 18446744073709551615) (hk : K n) : Wr .u64 n K :=
 .fit ⟨by simp [IntKind.min, IntKind.signed]; omega, by simp [IntKind.max, IntKind.signed, IntKind.bits]; omega⟩ hk
theorem ValO.half {P : Program} {hr : Bool} {s : St} {o : Oper} {K : LV → Prop} {t u : TypeId} {x y : Operand} (hop : o.op = .binOp .shr t x y u) {a : Int} (ha : 0 ≤ a) (hx : evalO s.sl x = .p (.int .u64 a)) (hy : evalO s.sl y = .p (.int .u64 1)) {m : Int} (hm : m = a / 2) (hK : K (.p (.int .u64 m))) : ValO P hr s o K := by
 subst hm
 refine ⟨fun σ β ac w hs _ => ⟨_, .int .u64 (a / 2), hK, .p (.int _ _), fun w' _ _ => ?_⟩⟩
 have h1 := evalO_rep hs x
 have h2 := evalO_rep hs y
 rw [hx] at h1
 rw [hy] at h2
 cases h1 with
 | p h1 =>
   cases h2 with
   | p h2 =>
     have key : ∀ (n : Int) (v : Value), Rep σ (.int .u64 n) v → v = .int .u64 n := fun n v hv => by
      cases hv
      rfl
     have e1 := key _ _ h1
     have e2 := key _ _ h2
     have e3 : a.fdiv (2 ^ 1) = a / 2 := Int.fdiv_eq_ediv_of_nonneg _ (by decide)
     have hg : (eqGuard .shr t x y (.int .u64 a) (.int .u64 1)).run P w' = .ok () w' := by unfold eqGuard; rfl
     simp only [execOp, hop, e1, e2, Sem.run_bind, hg, Result.andThen_ok, binOp, Op.shift]
     rw [if_neg (by decide)]
     simp only [show min (1 : Int).toNat IntKind.u64.bits = 1 by decide, e3]
     rfl
def rowN (l : List Int) : Heap := [(1000, .own 3 1 (l.map (.int .i64)))]
theorem row_get {l : List Int} {k : Nat} {x : Int} (h : l[k]? = some x) : (l.map (AV.int .i64))[k]? = some (.int .i64 x) := by rw [List.getElem?_map, h]; rfl
def swapM (P X Q Y S : List Int) (i : Nat) : List Int := P ++ (Y.take i ++ X.drop i) ++ Q ++ (X.take i ++ Y.drop i) ++ S
theorem swapM_len {P X Q Y S : List Int} (h : X.length = Y.length) (i : Nat) (hi : i ≤ X.length) : (swapM P X Q Y S i).length = P.length + X.length + Q.length + X.length + S.length := by
 unfold swapM
 simp only [List.length_append, List.length_take, List.length_drop]
 omega
theorem swapM_x {P X Q Y S : List Int} (h : X.length = Y.length) {i : Nat} (hi : i < X.length) : (swapM P X Q Y S i)[P.length + i]? = some X[i] := by
 unfold swapM
 have e1 : (Y.take i).length = i := by rw [List.length_take]; omega
 rw [List.append_assoc, List.append_assoc, List.append_assoc, List.getElem?_append_right (by omega), show P.length + i - P.length = i by omega, List.append_assoc, List.getElem?_append_right (by omega), e1, Nat.sub_self, List.getElem?_append_left (by rw [List.length_drop]; omega), List.getElem?_drop, Nat.add_zero, List.getElem?_eq_getElem hi]
theorem swapM_y {P X Q Y S : List Int} (h : X.length = Y.length) {i : Nat} (hi : i < X.length) : (swapM P X Q Y S i)[P.length + X.length + Q.length + i]? = some (Y[i]'(by omega)) := by
 unfold swapM
 have e1 : (Y.take i).length = i := by rw [List.length_take]; omega
 have e2 : (X.take i).length = i := by rw [List.length_take]; omega
 have e3 : (P ++ (Y.take i ++ X.drop i) ++ Q).length = P.length + X.length + Q.length := by
  simp only [List.length_append, List.length_drop, e1]
  omega
 rw [List.append_assoc, List.getElem?_append_right (by omega), e3, show P.length + X.length + Q.length + i - (P.length + X.length + Q.length) = i by omega, List.append_assoc, List.getElem?_append_right (by omega), e2, Nat.sub_self, List.getElem?_append_left (by rw [List.length_drop]; omega), List.getElem?_drop, Nat.add_zero, List.getElem?_eq_getElem (by omega)]
theorem set_mid (A B : List Int) (x y : Int) {k : Nat} (hk : k = A.length) : (A ++ x :: B).set k y = A ++ y :: B := by
 subst hk
 rw [List.set_append_right _ _ (Nat.le_refl _), Nat.sub_self, List.set_cons_zero]
theorem swapM_set {P X Q Y S : List Int} (h : X.length = Y.length) {i : Nat} (hi : i < X.length) : ((swapM P X Q Y S i).set (P.length + i) (Y[i]'(by omega))).set (P.length + X.length + Q.length + i) X[i] = swapM P X Q Y S (i + 1) := by
 have e1 : (Y.take i).length = i := by rw [List.length_take]; omega
 have e2 : (X.take i).length = i := by rw [List.length_take]; omega
 have d1 : X.drop i = X[i] :: X.drop (i + 1) := List.drop_eq_getElem_cons hi
 have d2 : Y.drop i = (Y[i]'(by omega)) :: Y.drop (i + 1) := List.drop_eq_getElem_cons (by omega)
 have t1 : X.take (i + 1) = X.take i ++ [X[i]] := List.take_succ_eq_append_getElem hi
 have t2 : Y.take (i + 1) = Y.take i ++ [Y[i]'(by omega)] := List.take_succ_eq_append_getElem (by omega)
 have dl : (X.drop (i + 1)).length = X.length - (i + 1) := List.length_drop
 unfold swapM
 rw [d1, d2, t1, t2]
 clear d1 d2 t1 t2
 generalize X[i] = x
 generalize Y[i]'(by omega) = y
 generalize Y.take i = a at e1
 generalize X.take i = b at e2
 generalize X.drop (i + 1) = c at dl
 generalize Y.drop (i + 1) = d
 have s1 : P ++ (a ++ x :: c) ++ Q ++ (b ++ y :: d) ++ S = (P ++ a) ++ x :: (c ++ Q ++ (b ++ y :: d) ++ S) := by simp
 rw [s1, set_mid _ _ _ _ (by rw [List.length_append]; omega)]
 have s2 : (P ++ a) ++ y :: (c ++ Q ++ (b ++ y :: d) ++ S) = (P ++ a ++ y :: c ++ Q ++ b) ++ y :: (d ++ S) := by simp
 rw [s2, set_mid _ _ _ _ (by simp only [List.length_append, List.length_cons]; omega)]
 simp
theorem slices_swapRangeCmpFunc_int_ (P X Q Y S : List Int) (h : X.length = Y.length) (c : AV) (hl : P.length + X.length + Q.length + Y.length + S.length ≤ 1000000) : SpecH Tryz.prog 322 [.hd 1000 0 (P.length+X.length+Q.length+X.length+S.length), .p (.int .i64 P.length), .p (.int .i64 (P.length+X.length+Q.length : Nat)), .p (.int .i64 X.length), .p c] (rowN (swapM P X Q Y S 0)) (fun r H => r = .p (.tup []) ∧ H = rowN (swapM P X Q Y S X.length)) := by
 refine SpecH.body I_slices_swapRangeCmpFunc_int_ tabOK Tryz.func322 rfl Tryz.call322 (by show 5 ≤ _; decide) ?_
 conv => whnf
 skip
 refine LoopK.inv tabOK (fun i : Nat => ⟨[(0, .hd 1000 0 (P.length+X.length+Q.length+X.length+S.length)), (1, .p (.int .i64 P.length)), (2, .p (.int .i64 (P.length+X.length+Q.length : Nat))), (3, .p (.int .i64 X.length)), (10, .p (.int .i64 i))], rowN (swapM P X Q Y S i)⟩) (fun i => i ≤ X.length) (fun i => X.length - i) 0 (Le.of_eq rfl) (Nat.zero_le _) ?_
 intro i h2
 rcases Nat.lt_or_ge i X.length with hi | hi
 ·have hlen := swapM_len (P := P) (Q := Q) (S := S) h i h2
  have g1 := row_get (swapM_x (P := P) (Q := Q) (S := S) h hi)
  have g2 := row_get (swapM_y (P := P) (Q := Q) (S := S) h hi)
  have hst := swapM_set (P := P) (Q := Q) (S := S) h hi
  generalize swapM P X Q Y S i = row at hlen g1 g2 hst ⊢
  generalize X[i] = x at g1 hst
  generalize Y[i]'(by omega) = y at g2 hst
  have g3 : ((row.map (AV.int .i64)).set (P.length + i) (.int .i64 y))[P.length + X.length + Q.length + i]? = some (.int .i64 y) := by rw [List.getElem?_set_ne (by omega)]; exact g2
  unfold rowN
  conv => whnf
  repeat' (first | ((first | (refine DrawK.auto tabOK mixed (by kernel_rfl) ?_) | (refine And.intro rfl ?_) | (refine Wr.i64 (by omega) (by omega) ?_) | (refine IdxL.mk (P.length+i) (by omega) (by omega) ?_) | (refine IdxL.mk (P.length+X.length+Q.length+i) (by omega) (by omega) ?_) | (refine LdOwn.mk (P.length+X.length+Q.length+i) 0 _ (by omega) g2 ?_) | (refine LdOwn.mk (P.length+i) 0 _ (by omega) g1 ?_) | (refine StOwn.mk (P.length+i) 0 _ (.int .i64 y) (by omega) g1 (Nat.le_refl _) rfl ?_) | (refine StOwn.mk (P.length+X.length+Q.length+i) 0 _ (.int .i64 x) (by omega) g3 (Nat.le_refl _) rfl ?_)); conv => whnf) | (refine Br.dec (fun _ => ?_) (fun _ => ?_) <;> first | (exfalso; omega) | conv => whnf))
  exact ⟨i + 1, by omega, by omega, Le.of_eq (by rw [← hst, List.map_set, List.map_set]; rfl)⟩
 ·have he : i = X.length := by omega
  subst he
  unfold rowN
  conv => whnf
  repeat' (refine Br.dec (fun _ => ?_) (fun _ => ?_) <;> first | (exfalso; omega) | conv => whnf)
  exact ⟨_, LSub.refl _, rfl, rfl⟩
end Go.Ab
