/- The reference's small program goes on where it should. -/
import Derived.Test.YtneccajakpeodaaGreatCdpW10
import Derived.Test.YtneccajakpeodaaGreatCdpW14
import Derived.Test.YtneccajakpeodaaGreatCdpW15
import Derived.Test.YtneccajakpeodaaGreatCdpW16
set_option linter.unusedSimpArgs false
set_option linter.unusedVariables false
set_option maxRecDepth 100000
set_option maxHeartbeats 16000000
namespace Go.Ab
open Go.Proofs
theorem some_fit : Fit someP := by unfold Fit; decide
theorem some_chk : chkB someP = true := by kernel_rfl
def f0 : Pr := someP.procs[0]'(by decide)
def f1 : Pr := someP.procs[1]'(by decide)
theorem norm0 : normS (stepsRaw someP 0 f0) = [⟨0, 1, 1⟩, ⟨1, 2, 1⟩, ⟨2, 3, 1⟩, ⟨3, 4, 1⟩, ⟨4, -1, 1⟩] := by
 have h1 : stepsRaw someP 0 f0 = [⟨0, 1, 1⟩, ⟨1, 2, 1⟩, ⟨2, 3, 1⟩, ⟨3, 4, 1⟩, ⟨4, -1, 1⟩] := by kernel_rfl
 unfold normS sortSt
 rw [h1, List.mergeSort_of_pairwise (by decide)]
 rfl
theorem norm1 : normS (stepsRaw someP 1 f1) = [⟨0, 5, 1⟩, ⟨5, 6, 1⟩, ⟨6, 7, 1⟩, ⟨6, 8, 1⟩, ⟨7, -1, 1⟩, ⟨8, -1, 1⟩] := by
 have h1 : stepsRaw someP 1 f1 = [⟨0, 5, 1⟩, ⟨5, 6, 1⟩, ⟨6, 7, 1⟩, ⟨6, 8, 1⟩, ⟨7, -1, 1⟩, ⟨8, -1, 1⟩] := by kernel_rfl
 unfold normS sortSt
 rw [h1, List.mergeSort_of_pairwise (by decide)]
 rfl
theorem some_way : wayO someP [112] = some (newWay someP 1 f1) := by
 unfold wayO
 rw [some_chk]
 rfl
open Go.Proofs
open Go.Proofs
open Go.Proofs
theorem tree_count : ∀ (k : Nat) (l : List S) (_ : cntL l < k) (_ : cntL l ≤ 1000000), SpecP Tryz.prog 80 [eSs l] (fun r => r = .int .i64 (cntL l)) := by
 intro k
 induction k with
 | zero => intro l h; omega
 | succ k ih =>
   intro l hk hl
   have hll := S.avs_len l
   have hlc : l.length ≤ cntL l := by
    clear hk hl hll
    induction l with
    | nil => simp
    | cons t r ihr => rw [cntL, cntS_eq, List.length_cons]; omega
   refine SpecP.body I_tree_count tabOK Tryz.func80 rfl Tryz.call80 (by show 1 ≤ _; decide) ?_
   conv => whnf
   repeat' (intro (_ : _ ≤ 9223372036854775807); conv => whnf)
   refine LoopK.inv tabOK (fun y : Nat × Nat => ⟨[(0, .p (eSs l)), (3, .p (.int .i64 y.2)), (8, .p (.int .i64 (S.avs l).length)), (9, .p (.int .i64 y.1))], []⟩) (fun y => y.1 ≤ l.length ∧ y.2 + cntL (l.drop y.1) = cntL l + (l.length - y.1)) (fun y => l.length - y.1) (0, l.length) (Le.of_eq (by simp only [S.avs_len]; rfl)) ⟨Nat.zero_le _, by simp; omega⟩ ?_
   rintro ⟨j, n⟩ ⟨h2, h3⟩
   simp only at h2 h3 ⊢
   rcases Nat.lt_or_ge j l.length with hj | hj
   ·have hst := cntL_step hj
    have hcs := cntS_eq l[j]
    have h4 : cntL (l.drop j) ≤ cntL l := by
     have : ∀ (l : List S) (j : Nat), cntL (l.drop j) ≤ cntL l := fun l => by
      induction l with
      | nil => intro j; simp
      | cons t r ihr =>
        intro j
        cases j with
        | zero => simp
        | succ j => rw [List.drop_succ_cons, cntL]; have := ihr j; omega
     exact this l j
    conv => whnf
    repeat' (first | ((first | (refine DrawK.auto tabOK mixed (by kernel_rfl) ?_) | (refine IdxK.ss (by omega) ?_) | (refine Wr.i64 (by omega) (by omega) ?_) | (refine CallK.pure (ih l[j].thn (by omega) (by omega)) (.cons (Sub.refl _) .nil) ?_; rintro _ rfl) | (refine CallK.pure (ih l[j].els (by omega) (by omega)) (.cons (Sub.refl _) .nil) ?_; rintro _ rfl)); conv => whnf) | (refine Br.dec (fun _ => ?_) (fun _ => ?_) <;> first | (exfalso; omega) | conv => whnf))
    all_goals exact ⟨(j + 1, n + (cntL l[j].thn + cntL l[j].els)), ⟨by simp only; omega, by simp only; omega⟩, by simp only; omega, Le.of_eq rfl⟩
   ·conv => whnf
    rw [List.drop_eq_nil_of_le hj, cntL] at h3
    repeat' (refine Br.dec (fun _ => ?_) (fun _ => ?_) <;> first | (exfalso; omega) | conv => whnf)
    exact RetK.int (by omega)
theorem tree_Count (p : Pg) (hc : cntP p.procs ≤ 1000) : SpecP Tryz.prog 18 [.agg p.cells] (fun r => r = .int .i64 (cntP p.procs)) := by
 refine SpecP.body I_tree_Count tabOK Tryz.func18 rfl Tryz.call18 (by show 1 ≤ _; decide) ?_
 conv => whnf
 have hl2 : (p.procs.map fun f => AV.agg f.cells).length = p.procs.length := List.length_map _
 repeat' (intro (_ : _ ≤ 9223372036854775807); conv => whnf)
 refine LoopK.inv tabOK (fun y : Nat × Nat => ⟨[(3, .p (.int .i64 y.2)), (7, .p (.sl (p.procs.map fun f => .agg f.cells))), (8, .p (.int .i64 (p.procs.map fun f => AV.agg f.cells).length)), (9, .p (.int .i64 y.1))], []⟩) (fun y => y.1 ≤ p.procs.length ∧ y.2 + cntP (p.procs.drop y.1) = cntP p.procs) (fun y => p.procs.length - y.1) (0, 0) (Le.of_eq rfl) ⟨Nat.zero_le _, by simp⟩ ?_
 rintro ⟨j, n⟩ ⟨h2, h3⟩
 simp only at h2 h3 ⊢
 rcases Nat.lt_or_ge j p.procs.length with hj | hj
 ·have hst := cntP_step hj
  have hcm := cntP_mem _ _ (List.getElem_mem hj)
  conv => whnf
  repeat' (first | ((first | (refine And.intro rfl ?_) | (refine IdxK.map (by omega) (fun _ => rfl) ?_) | (refine Wr.i64 (by omega) (by omega) ?_) | (refine CallK.pure (tree_count (cntL p.procs[j].body+1) p.procs[j].body (by omega) (by omega)) (.cons (Sub.refl _) .nil) ?_; rintro _ rfl)); conv => whnf) | (refine Br.dec (fun _ => ?_) (fun _ => ?_) <;> first | (exfalso; omega) | conv => whnf))
  exact ⟨(j + 1, n + cntL p.procs[j].body), ⟨by simp only; omega, by simp only; omega⟩, by simp only; omega, Le.of_eq rfl⟩
 ·conv => whnf
  rw [List.drop_eq_nil_of_le hj, cntP] at h3
  repeat' (refine Br.dec (fun _ => ?_) (fun _ => ?_) <;> first | (exfalso; omega) | conv => whnf)
  exact RetK.int (by omega)
def smallB (p : Pg) (most : Int) : Bool := chkB p && decide ((cntP p.procs : Int) ≤ most)
open Go.Proofs
def frR (steps : List Step) (at_ : Int) (but : List Int) (a b : Int) : Prop := (a = at_ ∨ hasI but a = false) ∧ ∃ s ∈ steps, s.src = a ∧ s.dst = b
structure FrI (steps : List Step) (at_ : Int) (but : List Int) (n : Nat) (l : List Int) : Prop where
 le : n ≤ l.length
 hd : l[0]? = some at_
 nd : l.Nodup
 sub : ∀ x ∈ l, x ∈ at_ :: steps.map Step.dst
 snd : ∀ x ∈ l, Rch (frR steps at_ but) at_ x
 cl : ∀ (m : Nat) (a : Int), m < n → l[m]? = some a → ∀ b, frR steps at_ but a b → b ∈ l
theorem FrI.len {steps : List Step} {at_ : Int} {but : List Int} {n : Nat} {l : List Int} (h : FrI steps at_ but n l) : l.length ≤ steps.length + 1 := by
 have := nodup_len h.nd h.sub
 simpa using this
theorem FrI.start (steps : List Step) (at_ : Int) (but : List Int) : FrI steps at_ but 0 [at_] := ⟨Nat.zero_le _, rfl, by simp, by simp, fun x hx => by rw [List.mem_singleton.1 hx]; exact .refl, fun m a hm => by omega⟩
theorem FrI.add {steps : List Step} {at_ : Int} {but : List Int} {n : Nat} {l : List Int} (h : FrI steps at_ but n l) {a b : Int} (ha : a ∈ l) (hb : frR steps at_ but a b) (hn : hasI l b = false) : FrI steps at_ but n (l ++ [b]) := by
 have hnm : b ∉ l := fun hm => by rw [hasI_iff.2 hm] at hn; cases hn
 have h0 : 0 < l.length := (List.getElem?_eq_some_iff.1 h.hd).1
 refine ⟨by rw [List.length_append]; have := h.le; omega, by rw [List.getElem?_append_left h0]; exact h.hd, ?_, fun x hx => ?_, fun x hx => ?_, fun m c hm hc d hd => ?_⟩
 ·rw [List.nodup_append]
  refine ⟨h.nd, by simp, fun x hx y hy => ?_⟩
  rw [List.mem_singleton.1 hy]
  exact fun e => hnm (e ▸ hx)
 ·rcases List.mem_append.1 hx with hx | hx
  ·exact h.sub x hx
  ·rw [List.mem_singleton.1 hx]
   obtain ⟨_, s, hs, _, h2⟩ := hb
   exact List.mem_cons_of_mem _ (List.mem_map.2 ⟨s, hs, h2⟩)
 ·rcases List.mem_append.1 hx with hx | hx
  ·exact h.snd x hx
  ·rw [List.mem_singleton.1 hx]
   exact .tail (h.snd a ha) hb
 ·rcases Nat.lt_or_ge m l.length with hml | hml
  ·rw [List.getElem?_append_left hml] at hc
   exact List.mem_append.2 (.inl (h.cl m c hm hc d hd))
  ·have := h.le
   omega
theorem FrI.fin {steps : List Step} {at_ : Int} {but : List Int} {l : List Int} (h : FrI steps at_ but l.length l) (x : Int) : x ∈ l ↔ Rch (frR steps at_ but) at_ x := by
 refine ⟨h.snd x, fun hr => hr.closed (S := fun x => x ∈ l) (fun a b ha hb => ?_) (List.mem_of_getElem? h.hd)⟩
 obtain ⟨m, hm⟩ := List.mem_iff_getElem?.1 ha
 exact h.cl m a (List.getElem?_eq_some_iff.1 hm).1 hm b hb
theorem FrI.next {steps : List Step} {at_ : Int} {but : List Int} {n : Nat} {l : List Int} (h : FrI steps at_ but n l) (hn : n < l.length) (hc : ∀ b, frR steps at_ but l[n] b → b ∈ l) : FrI steps at_ but (n + 1) l := by
 refine ⟨hn, h.hd, h.nd, h.sub, h.snd, fun m a hm ha b hb => ?_⟩
 rcases Nat.lt_or_ge m n with hmn | hmn
 ·exact h.cl m a hmn ha b hb
 ·obtain rfl : m = n := by omega
  rw [List.getElem?_eq_getElem hn] at ha
  cases ha
  exact hc b hb
open Go.Proofs
theorem DrawK.frz {P : Program} {T : Tab} {N : Nat} {ops : Array Oper} {info : Info} {id : Nat} {K : St → Prop} {s : St} (gs : List (List Nat)) (h : frzK gs s fun s' => DrawK P T N info id ops K s') : DrawK P T N info id ops K s := by
 obtain ⟨s', h1, h2⟩ := frzK_spec (N := N) h
 exact DrawK.le h2 h1
theorem stAt_own {p : Pg} (h : chkB p = true) {j : Nat} {f : Pr} (hj : p.procs[j]? = some f) {a : Int} (h1 : (offN p.procs j : Int) + 1 ≤ a) (h2 : a ≤ (offN p.procs j + cntL f.body : Nat)) : ∃ t ∈ flL f.body, stAt p a = some t ∧ t.id = a := by
 obtain ⟨it, h3, h4⟩ := sheet_its hj (k := (a - 1).toNat) (by omega) (by omega)
 refine ⟨it.s, its_s h4, by unfold stAt; rw [h3]; rfl, ?_⟩
 obtain ⟨_, _, _, hlen, hsp⟩ := sheet_spec p
 obtain ⟨_, _, hle, hd⟩ := hsp j f hj
 have hids := its_ids (chk_parts h).1 hj
 have h5 : (itsOf p j f)[(a - 1).toNat - offN p.procs j]? = some it := by
  unfold itsOf
  rw [← hd, List.getElem?_drop, List.getElem?_take, if_pos (by omega), show offN p.procs j + ((a - 1).toNat - offN p.procs j) = (a - 1).toNat by omega]
  exact h3
 have h6 : ((itsOf p j f).map fun it => it.s.id)[(a - 1).toNat - offN p.procs j]? = some it.s.id := by rw [List.getElem?_map, h5]; rfl
 rw [hids] at h6
 unfold idsN at h6
 rw [List.getElem?_map, List.getElem?_range' (by omega)] at h6
 simp at h6
 omega
open Go.Proofs
structure NoGo (sh : Sheet) (f : Pr) (lo hi : Nat) (T : Int → Prop) : Prop where
 cl : ∀ (k : Nat) (it : Item), lo ≤ k → k < hi → sh.l[k]? = some it → T it.s.id → it.s.kind ≠ 10 ∧ ∀ y ∈ goesI sh f it, T y
 id : ∀ (k : Nat) (it : Item), lo ≤ k → k < hi → sh.l[k]? = some it → it.s.id = (k : Int) + 1
 ld : ∀ (k : Nat) (it : Item), lo ≤ k → k < hi → sh.l[k]? = some it → it.s.kind = 7 ∨ it.s.kind = 8 → it.loop ≠ 0
 lp : ∀ (k : Nat) (it : Item), lo ≤ k → k < hi → sh.l[k]? = some it → it.loop = 0 ∨ ∃ u, sh.l[(it.loop - 1).toNat]? = some u
def escC (sh : Sheet) (T : Int → Prop) (nx lp : Int) : Prop := T nx ∨ T (-1) ∨ (lp ≠ 0 ∧ (T lp ∨ ∃ u, sh.l[(lp - 1).toNat]? = some u ∧ T u.next))
def atP (sh : Sheet) (n : Nat) (l : List Item) : Prop := ∀ (i : Nat) (it : Item), l[i]? = some it → sh.l[n + i]? = some it
theorem atP.left {sh : Sheet} {n : Nat} {a b : List Item} (h : atP sh n (a ++ b)) : atP sh n a := fun i it hi => h i it (by
 rw [List.getElem?_append_left (List.getElem?_eq_some_iff.1 hi).1]
 exact hi)
theorem atP.right {sh : Sheet} {n : Nat} {a b : List Item} (h : atP sh n (a ++ b)) : atP sh (n + a.length) b := fun i it hi => by
 rw [Nat.add_assoc]
 exact h (a.length + i) it (by rw [List.getElem?_append_right (by omega), Nat.add_sub_cancel_left]; exact hi)
theorem itL_hd (proc up nx lp : Int) (n : Nat) (v : S) (r : List S) : ∃ it ∈ itL proc up nx lp n (v :: r), it.s = v := by
 rw [itL, itS_eq]
 exact ⟨_, List.mem_append.2 (.inl List.mem_cons_self), rfl⟩
mutual
theorem escS {sh : Sheet} {f : Pr} {lo hi : Nat} {T : Int → Prop} (hT : NoGo sh f lo hi T) (proc : Int) : ∀ (t : S) (up nx lp : Int) (n : Nat), atP sh n (itS proc up nx lp n t) → lo ≤ n → n + cntS t ≤ hi → (∃ it ∈ itS proc up nx lp n t, T it.s.id) → escC sh T nx lp
 | .mk id kind labels name pr x has args thn els, up, nx, lp, n, hp, h1, h2, h3 => by
   rw [itS] at hp h3
   rw [cntS] at h2
   have hself : sh.l[n]? = some ⟨.mk id kind labels name pr x has args thn els, proc, up, nx, lp⟩ := hp 0 _ rfl
   have hcl := hT.cl n _ h1 (by omega) hself
   have hid := hT.id n _ h1 (by omega) hself
   have hld := hT.ld n _ h1 (by omega) hself
   have hlp := hT.lp n _ h1 (by omega) hself
   have hp1 : atP sh (n + 1) (itL proc (n + 1) (if kind = 6 then n + 1 else nx) (if kind = 6 then n + 1 else lp) (n + 1) thn ++ itL proc (n + 1) (if kind = 6 then n + 1 else nx) (if kind = 6 then n + 1 else lp) (n + 1 + cntL thn) els) := fun i it hi => by
    have := hp (i + 1) it (by simpa using hi)
    rwa [show n + (i + 1) = n + 1 + i by omega] at this
   have hw : kind = 6 → T ((n : Int) + 1) → T nx := fun hk h => by
    have h5 : T (S.mk id kind labels name pr x has args thn els).id := by
     rw [show (S.mk id kind labels name pr x has args thn els).id = (n : Int) + 1 from hid]
     exact h
    refine (hcl h5).2 nx ?_
    unfold goesI
    rw [if_neg (by show ¬ kind = 5; omega), if_pos (by exact hk)]
    simp
   have hin : escC sh T (if kind = 6 then ((n : Int) + 1) else nx) (if kind = 6 then ((n : Int) + 1) else lp) → escC sh T nx lp := fun h => by
    by_cases hk : kind = 6
    ·rw [if_pos hk, if_pos hk] at h
     rcases h with h | h | ⟨_, h | ⟨u, hu, h⟩⟩
     ·exact .inl (hw hk h)
     ·exact .inr (.inl h)
     ·exact .inl (hw hk h)
     ·rw [show ((n : Int) + 1 - 1).toNat = n by omega, hself] at hu
      cases hu
      exact .inl h
    ·rw [if_neg hk, if_neg hk] at h
     exact h
   have hthn : (∃ it ∈ itL proc (n + 1) (if kind = 6 then n + 1 else nx) (if kind = 6 then n + 1 else lp) (n + 1) thn, T it.s.id) → escC sh T nx lp := fun h =>
    hin (escL hT proc thn _ _ _ (n + 1) hp1.left (by omega) (by omega) h)
   obtain ⟨it, hit, hti⟩ := h3
   rcases List.mem_cons.1 hit with rfl | hit
   ·obtain ⟨hk10, hgo⟩ := hcl hti
    have hk10 : kind ≠ 10 := hk10
    by_cases hk5 : kind = 5
    ·cases thn with
     | nil =>
       refine .inl (hgo nx ?_)
       unfold goesI
       rw [if_pos (by exact hk5)]
       simp [headI, S.thn]
     | cons v r =>
       have : T v.id := by
        refine hgo v.id ?_
        unfold goesI
        rw [if_pos (by exact hk5)]
        simp [headI, S.thn]
       obtain ⟨iv, h5, h6⟩ := itL_hd proc (n + 1) (if kind = 6 then n + 1 else nx) (if kind = 6 then n + 1 else lp) (n + 1) v r
       exact hthn ⟨iv, h5, by rw [h6]; exact this⟩
    by_cases hk6 : kind = 6
    ·refine .inl (hw hk6 ?_)
     rw [← show (S.mk id kind labels name pr x has args thn els).id = (n : Int) + 1 from hid]
     exact hti
    by_cases hk7 : kind = 7
    ·have hl0 := hld (.inl hk7)
     rcases hlp with h5 | ⟨u, hu⟩
     ·exact absurd h5 hl0
     ·refine .inr (.inr ⟨hl0, .inr ⟨u, hu, hgo _ ?_⟩⟩)
      unfold goesI
      rw [if_neg (by exact hk5), if_neg (by exact hk6), if_pos (by exact hk7)]
      simp only at hu
      rw [hu]
      simp
    by_cases hk8 : kind = 8
    ·refine .inr (.inr ⟨hld (.inr hk8), .inl (hgo _ ?_)⟩)
     unfold goesI
     rw [if_neg (by exact hk5), if_neg (by exact hk6), if_neg (by exact hk7), if_pos (by exact hk8)]
     simp
    by_cases hk9 : kind = 9
    ·refine .inr (.inl (hgo _ ?_))
     unfold goesI
     rw [if_neg (by exact hk5), if_neg (by exact hk6), if_neg (by exact hk7), if_neg (by exact hk8), if_pos (by exact hk9)]
     simp
    ·refine .inl (hgo _ ?_)
     unfold goesI
     rw [if_neg (by exact hk5), if_neg (by exact hk6), if_neg (by exact hk7), if_neg (by exact hk8), if_neg (by exact hk9), if_neg (by exact hk10)]
     simp
   ·rcases List.mem_append.1 hit with hit | hit
    ·exact hthn ⟨it, hit, hti⟩
    ·have hp2 := hp1.right
     rw [itL_len] at hp2
     exact hin (escL hT proc els _ _ _ (n + 1 + cntL thn) hp2 (by omega) (by omega) ⟨it, hit, hti⟩)
theorem escL {sh : Sheet} {f : Pr} {lo hi : Nat} {T : Int → Prop} (hT : NoGo sh f lo hi T) (proc : Int) : ∀ (l : List S) (up nx lp : Int) (n : Nat), atP sh n (itL proc up nx lp n l) → lo ≤ n → n + cntL l ≤ hi → (∃ it ∈ itL proc up nx lp n l, T it.s.id) → escC sh T nx lp
 | [], up, nx, lp, n, hp, h1, h2, h3 => by
   rw [itL] at h3
   obtain ⟨it, hit, _⟩ := h3
   cases hit
 | t :: r, up, nx, lp, n, hp, h1, h2, h3 => by
   rw [itL] at hp h3
   rw [cntL] at h2
   have hp2 := hp.right
   rw [itS_len] at hp2
   have hr : (∃ it ∈ itL proc up nx lp (n + cntS t) r, T it.s.id) → escC sh T nx lp := fun h => escL hT proc r up nx lp (n + cntS t) hp2 (by omega) (by omega) h
   obtain ⟨it, hit, hti⟩ := h3
   rcases List.mem_append.1 hit with hit | hit
   ·have h5 := escS hT proc t up _ lp n hp.left h1 (by omega) ⟨it, hit, hti⟩
    cases r with
    | nil => exact h5
    | cons v r =>
      rcases h5 with h5 | h5
      ·refine hr ?_
       obtain ⟨iv, h6, h7⟩ : ∃ iv, (itL proc up nx lp (n + cntS t) (v :: r))[0]? = some iv ∧ iv.s = v := by
        rw [itL, itS_eq]
        exact ⟨_, rfl, rfl⟩
       have h8 := hp2 0 iv h6
       have h9 := hT.id (n + cntS t) iv (by omega) (by
        rw [cntL] at h2
        have : 1 ≤ cntS v := by cases v; rw [cntS]; omega
        omega) h8
       refine ⟨iv, List.mem_of_getElem? h6, ?_⟩
       rw [h9]
       simp only [List.isEmpty_cons] at h5
       have e : ((n + cntS t : Nat) : Int) + 1 = (n : Int) + 1 + cntS t := by omega
       rw [e]
       exact h5
      ·exact .inr h5
   ·exact hr ⟨it, hit, hti⟩
end
open Go.Proofs
theorem sheet_id {p : Pg} (h : chkB p = true) {j : Nat} {f : Pr} (hj : p.procs[j]? = some f) {k : Nat} {it : Item} (h1 : offN p.procs j ≤ k) (h2 : k < offN p.procs j + cntL f.body) (hk : (sheetOf p).l[k]? = some it) : it.s.id = (k : Int) + 1 := by
 obtain ⟨t, _, h4, h5⟩ := stAt_own h hj (a := (k : Int) + 1) (by omega) (by omega)
 unfold stAt at h4
 rw [show ((k : Int) + 1 - 1).toNat = k by omega, hk] at h4
 cases h4
 exact h5
theorem raw_go {p : Pg} {j : Nat} {f : Pr} {it : Item} (hi : it ∈ itsOf p j f) {y : Int} (hy : y ∈ goesI (sheetOf p) f it) : (⟨it.s.id, y, 1⟩ : Step) ∈ stepsRaw p j f := by
 unfold stepsRaw
 exact List.mem_cons_of_mem _ (List.mem_flatMap.2 ⟨it, hi, List.mem_map.2 ⟨y, hy, rfl⟩⟩)
theorem proc_exit {p : Pg} (h : chkB p = true) {j : Nat} {f : Pr} (hj : p.procs[j]? = some f) {T : Int → Prop} (hcl : ∀ a b, T a → stR (newWay p j f).real a b → T b) (hgo : ∀ t ∈ flL f.body, T t.id → t.kind ≠ 10) {t : S} (ht : t ∈ flL f.body) (hT : T t.id) : T (-1) := by
 obtain ⟨hm, hs, _, hjm, _⟩ := chk_parts h
 have hld := jump_leads_all hs hjm hj
 obtain ⟨_, _, _, hlen, hsp⟩ := sheet_spec p
 obtain ⟨_, _, hle, hd⟩ := hsp j f hj
 have hits : ∀ (k : Nat) (it : Item), offN p.procs j ≤ k → k < offN p.procs j + cntL f.body → (sheetOf p).l[k]? = some it → it ∈ itsOf p j f := fun k it h1 h2 hk => by
  obtain ⟨it', h3, h4⟩ := sheet_its hj h1 h2
  rw [hk] at h3
  cases h3
  exact h4
 have hn : NoGo (sheetOf p) f (offN p.procs j) (offN p.procs j + cntL f.body) T := by
  refine ⟨fun k it h1 h2 hk hT => ?_, fun k it h1 h2 hk => sheet_id h hj h1 h2 hk, fun k it h1 h2 hk hkd => ?_, fun k it h1 h2 hk => ?_⟩
  ·have hi := hits k it h1 h2 hk
   exact ⟨hgo _ (its_s hi) hT, fun y hy => hcl _ _ hT ⟨⟨it.s.id, y, 1⟩, ((real_spec h hj).2 _).2 (raw_go hi hy), rfl, rfl⟩⟩
  ·have hl := hld it (hits k it h1 h2 hk)
   unfold leadsB at hl
   rw [if_pos hkd] at hl
   intro h0
   rw [h0] at hl
   cases hl
  ·rcases (its_rng (hits k it h1 h2 hk)).2 with h0 | ⟨h3, h4⟩
   ·exact .inl h0
   ·have : (it.loop - 1).toNat < (sheetOf p).l.length := by omega
    exact .inr ⟨_, List.getElem?_eq_getElem this⟩
 obtain ⟨it, hit, hits2⟩ := it_of (p := p) (j := j) ht
 have hat : atP (sheetOf p) (offN p.procs j) (itL j 0 (-1) 0 (offN p.procs j) f.body) := fun i it hi => by
  rw [← hd, List.getElem?_drop, List.getElem?_take] at hi
  split at hi
  ·exact hi
  ·cases hi
 have := escL hn j f.body 0 (-1) 0 (offN p.procs j) hat (Nat.le_refl _) (Nat.le_refl _) ⟨it, hit, by rw [hits2]; exact hT⟩
 rcases this with h1 | h1 | ⟨h1, _⟩
 ·exact h1
 ·exact h1
 ·exact absurd rfl h1
theorem openF_iff {n : Nat} {part : List Int} (hp : ∀ k, k < n → 0 ≤ part.getD k 0 ∧ part.getD k 0 < n) {i : Nat} (hi : i < n) : ∀ (l : List (Int × Int)) {o : List Bool}, o.length = n → (∀ t ∈ l, 0 ≤ t.1 ∧ t.1 < n) →
  ((l.foldl (openS part) o).getD i false = true ↔ o.getD i false = true ∨ ∃ t ∈ l, part.getD t.1.toNat 0 ≠ part.getD t.2.toNat 0 ∧ part.getD t.1.toNat 0 = i)
 | [], o, _, _ => by simp
 | t :: r, o, ho, hr => by
   rw [List.foldl_cons, openF_iff hp hi r (by rw [openS_len]; exact ho) fun u hu => hr u (List.mem_cons_of_mem _ hu)]
   have h1 := hr t List.mem_cons_self
   have h2 := hp t.1.toNat (by omega)
   have key : (openS part o t).getD i false = true ↔ o.getD i false = true ∨ (part.getD t.1.toNat 0 ≠ part.getD t.2.toNat 0 ∧ part.getD t.1.toNat 0 = i) := by
    unfold openS
    split
    ·rename_i he
     constructor
     ·exact .inl
     ·rintro (h3 | ⟨h3, _⟩)
      ·exact h3
      ·exact absurd he h3
    ·rename_i he
     rw [getD_set (by omega)]
     split
     ·rename_i h3
      constructor
      ·intro _
       exact .inr ⟨he, by omega⟩
      ·intro _
       rfl
     ·rename_i h3
      constructor
      ·exact .inl
      ·rintro (h4 | ⟨_, h4⟩)
       ·exact h4
       ·exact absurd (by omega) h3
   rw [key, or_assoc]
   constructor
   ·rintro (h3 | ⟨h3, h4⟩ | ⟨u, hu, h3⟩)
    ·exact .inl h3
    ·exact .inr ⟨t, List.mem_cons_self, h3, h4⟩
    ·exact .inr ⟨u, List.mem_cons_of_mem _ hu, h3⟩
   ·rintro (h3 | ⟨u, hu, h3⟩)
    ·exact .inl h3
    ·rcases List.mem_cons.1 hu with rfl | hu
     ·exact .inr (.inl h3)
     ·exact .inr (.inr ⟨u, hu, h3⟩)
theorem open_iff {n : Nat} {part : List Int} (hn : 0 < n) (hp : ∀ k, k < n → 0 ≤ part.getD k 0 ∧ part.getD k 0 < n) {i : Nat} (hi : i < n) {l : List (Int × Int)} (hr : ∀ t ∈ l, 0 ≤ t.1 ∧ t.1 < n) :
  (openB n part l).getD i false = true ↔ part.getD 0 0 = i ∨ part.getD (n - 1) 0 = i ∨ ∃ t ∈ l, part.getD t.1.toNat 0 ≠ part.getD t.2.toNat 0 ∧ part.getD t.1.toNat 0 = i := by
 have h0 := hp 0 hn
 have h1 := hp (n - 1) (by omega)
 unfold openB
 rw [openF_iff hp hi l (by simp [open0]) hr]
 have key : (open0 n part).getD i false = true ↔ part.getD 0 0 = i ∨ part.getD (n - 1) 0 = i := by
  unfold open0
  rw [getD_set (by rw [List.length_set, List.length_replicate]; omega), getD_set (by rw [List.length_replicate]; omega)]
  split
  ·exact ⟨fun _ => .inr (by omega), fun _ => rfl⟩
  ·split
   ·exact ⟨fun _ => .inl (by omega), fun _ => rfl⟩
   ·have : (List.replicate n false).getD i false = false := by
     rw [List.getD_eq_getElem?_getD, List.getElem?_replicate]; split <;> rfl
    rw [this]
    constructor
    ·intro h; cases h
    ·rintro (h | h) <;> omega
 rw [key, or_assoc]
open Go.Proofs
section
variable {p : Pg} {j : Nat} {f : Pr}
theorem ix_place {i : Int} (h : 0 ≤ i ∧ i < (cntL f.body + 2 : Nat)) : plP p j f (placeI p j (cntL f.body + 2 : Nat) i) ∧ ixI p j f (placeI p j (cntL f.body + 2 : Nat) i) = i := by
 unfold placeI ixI indexI plP loI hiI
 constructor
 ·(repeat' split) <;> omega
 ·(repeat' split) <;> omega
theorem place_ix {x : Int} (h : plP p j f x) : placeI p j (cntL f.body + 2 : Nat) (ixI p j f x) = x := by
 have h1 := ix_place (p := p) (j := j) (f := f) (ix_rng h)
 exact ix_inj h1.1 h h1.2
theorem prs_new : prsW (newWay p j f) f = (newWay p j f).real.map (ixP p j f (cntL f.body + 2 : Nat)) := rfl
theorem prs_in (h : chkB p = true) (hj : p.procs[j]? = some f) : ∀ t ∈ prsW (newWay p j f) f, (0 ≤ t.1 ∧ t.1 < (cntL f.body + 2 : Nat)) ∧ 0 ≤ t.2 ∧ t.2 < (cntL f.body + 2 : Nat) := fun t ht => by
 rw [prs_new] at ht
 obtain ⟨s, hs, rfl⟩ := List.mem_map.1 ht
 obtain ⟨h1, h2⟩ := real_places h hj s hs
 exact ⟨ix_rng h1, ix_rng h2⟩
def wE (p : Pg) (j : Nat) (f : Pr) : Int → Int → Prop := rowE (graphE (cntL f.body + 2) (prsW (newWay p j f) f)).1
def wR (p : Pg) (j : Nat) (f : Pr) : Int → Int → Prop := stR (newWay p j f).real
theorem E_iff (h : chkB p = true) (hj : p.procs[j]? = some f) {i k : Int} : wE p j f i k ↔ ∃ a b, wR p j f a b ∧ ixI p j f a = i ∧ ixI p j f b = k := by
 unfold wE wR
 rw [graph_rowE]
 constructor
 ·rintro ⟨h1, _, _⟩
  rw [prs_new] at h1
  obtain ⟨s, hs, he⟩ := List.mem_map.1 h1
  exact ⟨s.src, s.dst, ⟨s, hs, rfl, rfl⟩, congrArg Prod.fst he, congrArg Prod.snd he⟩
 ·rintro ⟨a, b, ⟨s, hs, rfl, rfl⟩, rfl, rfl⟩
  obtain ⟨h1, h2⟩ := real_places h hj s hs
  exact ⟨List.mem_map.2 ⟨s, hs, rfl⟩, hasB_of (ix_rng h1), hasB_of (ix_rng h2)⟩
theorem R_pl (h : chkB p = true) (hj : p.procs[j]? = some f) {a b : Int} (hr : wR p j f a b) : plP p j f a ∧ plP p j f b := by
 obtain ⟨s, hs, rfl, rfl⟩ := hr
 exact real_places h hj s hs
theorem rch_pl (h : chkB p = true) (hj : p.procs[j]? = some f) {a b : Int} (ha : plP p j f a) (hr : Rch (wR p j f) a b) : plP p j f b :=
 hr.closed (S := plP p j f) (fun _ _ _ h1 => (R_pl h hj h1).2) ha
theorem rch_ix (h : chkB p = true) (hj : p.procs[j]? = some f) {a b : Int} (ha : plP p j f a) (hb : plP p j f b) : Rch (wE p j f) (ixI p j f a) (ixI p j f b) ↔ Rch (wR p j f) a b := by
 constructor
 ·intro hr
  obtain ⟨c, h1, h2, h3⟩ := hr.closed (S := fun k => ∃ c, plP p j f c ∧ ixI p j f c = k ∧ Rch (wR p j f) a c) (by
   rintro i k ⟨c, h1, h2, h3⟩ h4
   obtain ⟨x, y, h5, h6, h7⟩ := (E_iff h hj).1 h4
   have h8 := R_pl h hj h5
   have : x = c := ix_inj h8.1 h1 (by rw [h6, h2])
   subst this
   exact ⟨y, h8.2, h7, .tail h3 h5⟩) ⟨a, ha, rfl, .refl⟩
  rw [← ix_inj h1 hb h2]
  exact h3
 ·intro hr
  exact (hr.closed (S := fun c => plP p j f c ∧ Rch (wE p j f) (ixI p j f a) (ixI p j f c)) (fun x y ⟨h1, h2⟩ h3 => ⟨(R_pl h hj h3).2, .tail h2 ((E_iff h hj).2 ⟨x, y, h3, rfl, rfl⟩)⟩) ⟨ha, .refl⟩).2
theorem scc_ix (h : chkB p = true) (hj : p.procs[j]? = some f) {a b : Int} (ha : plP p j f a) (hb : plP p j f b) : sccP (wE p j f) (ixI p j f a) (ixI p j f b) ↔ sccP (wR p j f) a b := by
 unfold sccP
 rw [rch_ix h hj ha hb, rch_ix h hj hb ha]
def partI (p : Pg) (j : Nat) (f : Pr) (i : Int) : Int := (partW (newWay p j f) f).getD i.toNat 0
theorem partW_new : partW (newWay p j f) f = partR (cntL f.body + 2) (graphE (cntL f.body + 2) (prsW (newWay p j f) f)).1 := rfl
theorem part_min {i : Int} (hi : 0 ≤ i ∧ i < (cntL f.body + 2 : Nat)) : MinP (wE p j f) i (partI p j f i) := by
 unfold partI
 rw [partW_new]
 exact partR_spec (graphE_in _ _).1 hi
theorem part_rng {k : Nat} (hk : k < cntL f.body + 2) : 0 ≤ (partW (newWay p j f) f).getD k 0 ∧ (partW (newWay p j f) f).getD k 0 < (cntL f.body + 2 : Nat) := by
 rw [partW_new]
 exact partR_in (graphE_in _ _).1 hk
theorem part_len : (partW (newWay p j f) f).length = cntL f.body + 2 := by rw [partW_new, partR_len]
theorem MinP.same {E : Int → Int → Prop} {x y v : Int} (h : MinP E x v) (hs : sccP E x y) : MinP E y v := ⟨hs.symm.trans h.scc, fun z hz => h.le z (hs.trans hz)⟩
theorem part_iff {i k : Int} (hi : 0 ≤ i ∧ i < (cntL f.body + 2 : Nat)) (hk : 0 ≤ k ∧ k < (cntL f.body + 2 : Nat)) : partI p j f i = partI p j f k ↔ sccP (wE p j f) i k := by
 have h1 := part_min (p := p) (j := j) hi
 have h2 := part_min (p := p) (j := j) hk
 constructor
 ·intro he
  rw [← he] at h2
  exact h1.scc.trans h2.scc.symm
 ·intro hs
  exact (h1.same hs).uniq h2
theorem part_pl (h : chkB p = true) (hj : p.procs[j]? = some f) {a b : Int} (ha : plP p j f a) (hb : plP p j f b) : partI p j f (ixI p j f a) = partI p j f (ixI p j f b) ↔ sccP (wR p j f) a b := by
 rw [part_iff (ix_rng ha) (ix_rng hb), scc_ix h hj ha hb]
structure TrapP (p : Pg) (j : Nat) (f : Pr) (l : List Int) (r : Int) : Prop where
 pl : plP p j f r
 mem : ∀ b, b ∈ l ↔ plP p j f b ∧ sccP (wR p j f) r b
 cl : ∀ b c, sccP (wR p j f) r b → wR p j f b c → sccP (wR p j f) r c
 n0 : ¬ sccP (wR p j f) r 0
 nx : ¬ sccP (wR p j f) r (-1)
theorem trapR_mem {plc : Int → Int} {part : List Int} {i q : Nat} {b : Int} : b ∈ trapR plc part i q ↔ ∃ k : Nat, k < q ∧ part.getD k 0 = i ∧ plc k = b := by
 unfold trapR
 constructor
 ·intro h
  obtain ⟨k, hk, rfl⟩ := List.mem_map.1 h
  obtain ⟨h1, h2⟩ := List.mem_filter.1 hk
  exact ⟨k, List.mem_range.1 h1, beq_iff_eq.1 h2, rfl⟩
 ·rintro ⟨k, h1, h2, rfl⟩
  exact List.mem_map.2 ⟨k, List.mem_filter.2 ⟨List.mem_range.2 h1, beq_iff_eq.2 h2⟩, rfl⟩
theorem ix0 : ixI p j f 0 = 0 := by unfold ixI indexI; rw [if_pos rfl]
theorem ix1 : ixI p j f (-1) = ((cntL f.body + 2 : Nat) : Int) - 1 := by unfold ixI indexI; rw [if_neg (by omega), if_pos rfl]
theorem pl0 : plP p j f 0 := .inl rfl
theorem pl1 : plP p j f (-1) := .inr (.inl rfl)
theorem part_nat (k : Nat) : (partW (newWay p j f) f).getD k 0 = partI p j f k := by
 unfold partI
 rw [Int.toNat_natCast]
theorem open_pl (h : chkB p = true) (hj : p.procs[j]? = some f) {i : Nat} (hi : i < cntL f.body + 2) : (openB (cntL f.body + 2) (partW (newWay p j f) f) (prsW (newWay p j f) f)).getD i false = true ↔
  partI p j f (ixI p j f 0) = i ∨ partI p j f (ixI p j f (-1)) = i ∨ ∃ a b, wR p j f a b ∧ ¬ sccP (wR p j f) a b ∧ partI p j f (ixI p j f a) = i := by
 rw [open_iff (by omega) (fun k hk => part_rng hk) hi fun t ht => (prs_in h hj t ht).1, ix0, ix1]
 have e1 : (partW (newWay p j f) f).getD (cntL f.body + 2 - 1) 0 = partI p j f (((cntL f.body + 2 : Nat) : Int) - 1) := by
  unfold partI
  congr 1
  omega
 have e0 : (partW (newWay p j f) f).getD 0 0 = partI p j f 0 := rfl
 rw [e0, e1]
 refine or_congr Iff.rfl (or_congr Iff.rfl ?_)
 constructor
 ·rintro ⟨t, ht, h1, h2⟩
  rw [prs_new] at ht
  obtain ⟨s, hs, rfl⟩ := List.mem_map.1 ht
  obtain ⟨h3, h4⟩ := real_places h hj s hs
  exact ⟨s.src, s.dst, ⟨s, hs, rfl, rfl⟩, fun hsc => h1 ((part_pl h hj h3 h4).2 hsc), h2⟩
 ·rintro ⟨a, b, ⟨s, hs, rfl, rfl⟩, h1, h2⟩
  obtain ⟨h3, h4⟩ := real_places h hj s hs
  exact ⟨ixP p j f (cntL f.body + 2 : Nat) s, by rw [prs_new]; exact List.mem_map.2 ⟨s, hs, rfl⟩, fun he => h1 ((part_pl h hj h3 h4).1 he), h2⟩
theorem traps_mem {l : List Int} : l ∈ trapsW (newWay p j f) f ↔ ∃ i : Nat, i < cntL f.body + 2 ∧ partI p j f i = i ∧ (openB (cntL f.body + 2) (partW (newWay p j f) f) (prsW (newWay p j f) f)).getD i false = false ∧ l = trapR (placeI p j (cntL f.body + 2 : Nat)) (partW (newWay p j f) f) i (cntL f.body + 2) := by
 unfold trapsW trapL
 rw [part_len]
 constructor
 ·intro hl
  obtain ⟨i, hi, rfl⟩ := List.mem_map.1 hl
  obtain ⟨h1, h2⟩ := List.mem_filter.1 hi
  unfold trapT at h2
  rw [Bool.and_eq_true, beq_iff_eq, Bool.not_eq_true', part_nat] at h2
  exact ⟨i, List.mem_range.1 h1, h2.1, h2.2, rfl⟩
 ·rintro ⟨i, h1, h2, h3, rfl⟩
  refine List.mem_map.2 ⟨i, List.mem_filter.2 ⟨List.mem_range.2 h1, ?_⟩, rfl⟩
  unfold trapT
  rw [Bool.and_eq_true, beq_iff_eq, Bool.not_eq_true', part_nat]
  exact ⟨h2, h3⟩
theorem trap_mem (h : chkB p = true) (hj : p.procs[j]? = some f) {i : Nat} (hi : i < cntL f.body + 2) (hp : partI p j f i = i) (b : Int) :
  b ∈ trapR (placeI p j (cntL f.body + 2 : Nat)) (partW (newWay p j f) f) i (cntL f.body + 2) ↔ plP p j f b ∧ sccP (wR p j f) (placeI p j (cntL f.body + 2 : Nat) i) b := by
 obtain ⟨h1, h2⟩ := ix_place (p := p) (j := j) (f := f) (i := i) (by omega)
 rw [trapR_mem]
 constructor
 ·rintro ⟨k, h3, h4, rfl⟩
  obtain ⟨h5, h6⟩ := ix_place (p := p) (j := j) (f := f) (i := k) (by omega)
  refine ⟨h5, (part_pl h hj h1 h5).1 ?_⟩
  rw [h2, h6, hp, ← part_nat, h4]
 ·rintro ⟨h3, h4⟩
  have h5 := ix_rng h3
  refine ⟨(ixI p j f b).toNat, by omega, ?_, ?_⟩
  ·rw [part_nat, show (((ixI p j f b).toNat : Nat) : Int) = ixI p j f b by omega, ← (part_pl h hj h1 h3).2 h4, h2, hp]
  ·rw [show (((ixI p j f b).toNat : Nat) : Int) = ixI p j f b by omega, place_ix h3]
theorem trap_spec (h : chkB p = true) (hj : p.procs[j]? = some f) {l : List Int} (hl : l ∈ trapsW (newWay p j f) f) : ∃ r, TrapP p j f l r := by
 obtain ⟨i, hi, hp, ho, rfl⟩ := traps_mem.1 hl
 obtain ⟨h1, h2⟩ := ix_place (p := p) (j := j) (f := f) (i := i) (by omega)
 have ho2 : ¬ _ := fun hx => by
  have := (open_pl h hj hi).2 hx
  rw [ho] at this
  cases this
 have hpr : partI p j f (ixI p j f (placeI p j (cntL f.body + 2 : Nat) i)) = i := by rw [h2, hp]
 refine ⟨_, h1, trap_mem h hj hi hp, fun b c hb hbc => ?_, fun hs => ho2 (.inl ?_), fun hs => ho2 (.inr (.inl ?_))⟩
 ·have h3 := R_pl h hj hbc
  by_cases hsc : sccP (wR p j f) b c
  ·exact hb.trans hsc
  ·refine absurd (.inr (.inr ⟨b, c, hbc, hsc, ?_⟩)) ho2
   rw [← (part_pl h hj h1 h3.1).2 hb, hpr]
 ·rw [← (part_pl h hj h1 pl0).2 hs, hpr]
 ·rw [← (part_pl h hj h1 pl1).2 hs, hpr]
theorem trap_of (h : chkB p = true) (hj : p.procs[j]? = some f) {r : Int} (hr : plP p j f r) (hcl : ∀ b c, sccP (wR p j f) r b → wR p j f b c → sccP (wR p j f) r c) (h0 : ¬ sccP (wR p j f) r 0) (hx : ¬ sccP (wR p j f) r (-1)) :
  ∃ l ∈ trapsW (newWay p j f) f, ∀ b, b ∈ l ↔ plP p j f b ∧ sccP (wR p j f) r b := by
 have h1 := ix_rng hr
 have h2 := part_min (p := p) (j := j) (f := f) h1
 have h3 := part_rng (p := p) (j := j) (f := f) (k := (ixI p j f r).toNat) (by omega)
 have h4 : 0 ≤ partI p j f (ixI p j f r) ∧ partI p j f (ixI p j f r) < (cntL f.body + 2 : Nat) := h3
 generalize hi : partI p j f (ixI p j f r) = v at h2 h4
 obtain ⟨h5, h6⟩ := ix_place (p := p) (j := j) (f := f) (i := v) h4
 have hs : sccP (wR p j f) r (placeI p j (cntL f.body + 2 : Nat) v) := (scc_ix h hj hr h5).1 (by rw [h6]; exact h2.scc)
 have hpv : partI p j f v = v := (part_min (p := p) (j := j) (f := f) h4).uniq (h2.same h2.scc)
 have ev : ((v.toNat : Nat) : Int) = v := by omega
 refine ⟨_, traps_mem.2 ⟨v.toNat, by omega, by rw [ev]; exact hpv, ?_, rfl⟩, fun b => ?_⟩
 ·cases ho : (openB (cntL f.body + 2) (partW (newWay p j f) f) (prsW (newWay p j f) f)).getD v.toNat false with
  | false => rfl
  | true =>
    have := (open_pl h hj (by omega)).1 ho
    rw [ev, ← hi] at this
    rcases this with h7 | h7 | ⟨a, b, h7, h8, h9⟩
    ·exact absurd ((part_pl h hj hr pl0).1 h7.symm) h0
    ·exact absurd ((part_pl h hj hr pl1).1 h7.symm) hx
    ·have h10 := R_pl h hj h7
     have h11 := (part_pl h hj hr h10.1).1 h9.symm
     exact absurd (h11.symm.trans (hcl a b h11 h7)) h8
 ·rw [trap_mem h hj (by omega) (by rw [ev]; exact hpv), ev]
  exact and_congr Iff.rfl ⟨fun h7 => hs.trans h7, fun h7 => hs.symm.trans h7⟩
end
open Go.Proofs
theorem real_len {p : Pg} {j : Nat} {f : Pr} (hj : p.procs[j]? = some f) (hcn : cntP p.procs ≤ 200) : (newWay p j f).real.length ≤ 100000 := by
 obtain ⟨_, _, _, hlen, hsp⟩ := sheet_spec p
 obtain ⟨_, _, hle, _⟩ := hsp j f hj
 have h9 := normS_len (stepsRaw p j f)
 have h10 := stepsRaw_len p j f
 show (normS (stepsRaw p j f)).length ≤ 100000
 omega
theorem nextR_ok {p : Pg} (h : chkB p = true) {j : Nat} {f : Pr} (hj : p.procs[j]? = some f) : ∀ it ∈ itsOf p j f, ∀ s ∈ fOf it, okSt s := fun it hi s hs => by
 obtain ⟨hm, _⟩ := chk_parts h
 obtain ⟨_, _, hcn⟩ := chk_cnt h
 obtain ⟨_, _, _, hlen, hsp⟩ := sheet_spec p
 obtain ⟨_, _, hle, _⟩ := hsp j f hj
 have h1 := body_id hm hj (its_s hi)
 have h2 := (its_rng hi).1
 unfold fOf at hs
 split at hs
 ·rw [List.mem_singleton.1 hs]
  unfold okI at h2
  unfold okSt
  constructor
  ·show it.s.id ≠ _
   omega
  ·show it.next ≠ _
   omega
 ·cases hs
theorem trap_row {p : Pg} (h : chkB p = true) {j : Nat} {f : Pr} (hj : p.procs[j]? = some f) {l : List Int} (hl : l ∈ trapsW (newWay p j f) f) : l.length ≤ cntL f.body + 2 ∧ ∀ id ∈ l, (offN p.procs j : Int) + 1 ≤ id ∧ id ≤ (offN p.procs j + cntL f.body : Nat) := by
 constructor
 ·obtain ⟨i, _, _, _, rfl⟩ := traps_mem.1 hl
  exact trapR_len _ _ _ _
 ·intro id hid
  obtain ⟨r, ht⟩ := trap_spec h hj hl
  obtain ⟨h1, h2⟩ := (ht.mem id).1 hid
  rcases h1 with rfl | rfl | h1
  ·exact absurd h2 ht.n0
  ·exact absurd h2 ht.nx
  ·exact h1
theorem wayT {p : Pg} (h : chkB p = true) {j : Nat} {f : Pr} (hj : p.procs[j]? = some f) : WayT (newWay p j f) f (cntL f.body + 2) := by
 obtain ⟨_, _, hcn⟩ := chk_cnt h
 obtain ⟨_, _, _, hlen, hsp⟩ := sheet_spec p
 obtain ⟨_, _, hle, _⟩ := hsp j f hj
 refine ⟨rfl, hj, by show cntP p.procs ≤ 1000; omega, by omega, by omega, Nat.le_trans (real_len hj hcn) (by decide), prs_in h hj, ?_, fun l hl => ?_, fun s hs => (chk_way h hj).2.2 s (((real_spec h hj).2 s).1 hs), nextR_ok h hj⟩
 ·have := trapL_len (placeI p j (cntL f.body + 2 : Nat)) (partW (newWay p j f) f) (openB (cntL f.body + 2) (partW (newWay p j f) f) (prsW (newWay p j f) f)) (cntL f.body + 2)
  have e : trapsW (newWay p j f) f = trapL (placeI p j (cntL f.body + 2 : Nat)) (partW (newWay p j f) f) (openB (cntL f.body + 2) (partW (newWay p j f) f) (prsW (newWay p j f) f)) (cntL f.body + 2) := by
   unfold trapsW
   rw [part_len]
   rfl
  rw [e]
  omega
 ·obtain ⟨h1, h2⟩ := trap_row h hj hl
  refine ⟨by omega, fun id hid => ?_⟩
  have := h2 id hid
  show 1 ≤ id ∧ id ≤ (sheetOf p).l.length
  omega
def augO (p : Pg) (n : Str) : List Step := match wayO p n with
 | some w => (match w.p.procs[w.j]? with
   | some f => augW w f
   | none => [])
 | none => []
def dataO (p : Pg) (n : Str) : List Step := match wayO p n with
 | some w => (match w.p.procs[w.j]? with
   | some f => dataW w f
   | none => [])
 | none => []
def trapsO (p : Pg) (n : Str) : List (List Int) := match wayO p n with
 | some w => (match w.p.procs[w.j]? with
   | some f => trapsW w f
   | none => [])
 | none => []
theorem augO_some {p : Pg} {n : Str} {k : Nat} {f : Pr} (hw : wayO p n = some (newWay p k f)) (hk : p.procs[k]? = some f) : augO p n = augW (newWay p k f) f := by
 have h : (newWay p k f).p.procs[(newWay p k f).j]? = some f := hk
 unfold augO
 rw [hw]
 simp only
 rw [h]
theorem augO_none {p : Pg} {n : Str} (hw : wayO p n = none) : augO p n = [] := by
 unfold augO
 rw [hw]
theorem dataO_some {p : Pg} {n : Str} {k : Nat} {f : Pr} (hw : wayO p n = some (newWay p k f)) (hk : p.procs[k]? = some f) : dataO p n = dataW (newWay p k f) f := by
 have h : (newWay p k f).p.procs[(newWay p k f).j]? = some f := hk
 unfold dataO
 rw [hw]
 simp only
 rw [h]
theorem trapsO_some {p : Pg} {n : Str} {k : Nat} {f : Pr} (hw : wayO p n = some (newWay p k f)) (hk : p.procs[k]? = some f) : trapsO p n = trapsW (newWay p k f) f := by
 have h : (newWay p k f).p.procs[(newWay p k f).j]? = some f := hk
 unfold trapsO
 rw [hw]
 simp only
 rw [h]
theorem aug_Of (p : Pg) (hf : Fit p) (n : Str) : SpecP Tryz.prog 35 [.agg p.cells, .str n] (fun r => r = eSteps (augO p n)) := by
 refine SpecP.body I_aug_Of tabOK Tryz.func35 rfl Tryz.call35 (by show 2 ≤ _; decide) ?_
 conv => whnf
 have hW := way_Of p hf n
 cases hw : wayO p n with
 | none =>
   rw [augO_none hw]
   rw [hw] at hW
   repeat' (refine CallK.pure hW (.cons (Sub.refl _) (.cons (Sub.refl _) .nil)) ?_; rintro _ rfl; conv => whnf)
   exact ⟨_, .p Sub.nils, rfl⟩
 | some w =>
   obtain ⟨k, f, hkj, rfl, hc, _⟩ := wayO_some hw
   have hw0 := hw
   rw [hw] at hW
   repeat' ((first | (refine CallK.pure hW (.cons (Sub.refl _) (.cons (Sub.refl _) .nil)) ?_; rintro _ rfl) | (refine CallK.pure (way_Way_Aug (newWay p k f) f (cntL f.body+2) (wayT hc hkj)) (.cons (Sub.refl _) .nil) ?_; rintro _ rfl)); conv => whnf)
   exact RetK.p (by rw [augO_some hw0 hkj])
open Go.Proofs
instance (a b : Step) : Decidable (ltSt a b) := inferInstanceAs (Decidable (_ ∨ _))
instance : DecidableEq Step := fun a b => decidable_of_iff (a.src = b.src ∧ a.dst = b.dst ∧ a.kind = b.kind) ⟨fun h => Step.eq_of h.1 h.2.1 h.2.2, fun h => by rw [h]; exact ⟨rfl, rfl, rfl⟩⟩
theorem same_of {a b : Step} (ha : okSt a) (hb : okSt b) (h : stepLt b a = false) : (a.src = b.src ∧ a.dst = b.dst ∧ a.kind ≤ b.kind) ∨ ltSt a b := by
 rw [Bool.eq_false_iff, ne_eq, stepLt_iff] at h
 unfold ltSt
 by_cases h1 : rankI a.src = rankI b.src
 ·by_cases h2 : rankI a.dst = rankI b.dst
  ·exact .inl ⟨rankI_inj ha.1 hb.1 h1, rankI_inj ha.2 hb.2 h2, by omega⟩
  ·exact .inr (by omega)
 ·exact .inr (by omega)
theorem compFrom_gen : ∀ (l : List Step) (a : Step), okSt a → (∀ s ∈ l, okSt s) → (a :: l).Pairwise (fun a b => stepLt b a = false) →
  (∀ s ∈ compFrom a l, ltSt a s) ∧ (compFrom a l).Pairwise ltSt ∧ (∀ s ∈ compFrom a l, s ∈ l) ∧ ∀ s ∈ l, (s.src = a.src ∧ s.dst = a.dst ∧ a.kind ≤ s.kind) ∨ ∃ s' ∈ compFrom a l, s'.src = s.src ∧ s'.dst = s.dst ∧ s'.kind ≤ s.kind
 | [], a, _, _, _ => by simp [compFrom]
 | b :: r, a, ha, hl, h => by
   have hb := hl b List.mem_cons_self
   have hr : ∀ s ∈ r, okSt s := fun s hs => hl s (List.mem_cons_of_mem _ hs)
   rw [List.pairwise_cons] at h
   obtain ⟨h1, h2⟩ := h
   obtain ⟨i1, i2, i3, i4⟩ := compFrom_gen r b hb hr h2
   have hab := same_of ha hb (h1 b List.mem_cons_self)
   rw [compFrom]
   cases hs : sameStep b a with
   | true =>
     unfold sameStep at hs
     simp only [Bool.and_eq_true, decide_eq_true_eq] at hs
     have hk : a.kind ≤ b.kind := by
      rcases hab with h3 | h3
      ·exact h3.2.2
      ·unfold ltSt at h3
       rw [hs.1, hs.2] at h3
       omega
     rw [cond_true]
     refine ⟨fun s hs' => ?_, i2, fun s hs' => List.mem_cons_of_mem _ (i3 s hs'), fun s hs' => ?_⟩
     ·have := i1 s hs'
      unfold ltSt at this ⊢
      rwa [← hs.1, ← hs.2]
     ·rcases List.mem_cons.1 hs' with rfl | hs'
      ·exact .inl ⟨hs.1, hs.2, hk⟩
      ·rcases i4 s hs' with ⟨h3, h4, h5⟩ | h3
       ·exact .inl ⟨by rw [h3, hs.1], by rw [h4, hs.2], by omega⟩
       ·exact .inr h3
   | false =>
     have hlt : ltSt a b := by
      rcases hab with h3 | h3
      ·unfold sameStep at hs
       simp [h3.1, h3.2.1] at hs
      ·exact h3
     rw [cond_false]
     refine ⟨fun s hs' => ?_, List.pairwise_cons.2 ⟨i1, i2⟩, fun s hs' => ?_, fun s hs' => ?_⟩
     ·rcases List.mem_cons.1 hs' with rfl | hs'
      ·exact hlt
      ·exact ltSt_trans hlt (i1 s hs')
     ·rcases List.mem_cons.1 hs' with rfl | hs'
      ·exact List.mem_cons_self
      ·exact List.mem_cons_of_mem _ (i3 s hs')
     ·rcases List.mem_cons.1 hs' with rfl | hs'
      ·exact .inr ⟨s, List.mem_cons_self, rfl, rfl, Int.le_refl _⟩
      ·rcases i4 s hs' with ⟨h3, h4, h5⟩ | ⟨s', h3, h4⟩
       ·exact .inr ⟨b, List.mem_cons_self, h3.symm, h4.symm, h5⟩
       ·exact .inr ⟨s', List.mem_cons_of_mem _ h3, h4⟩
theorem normS_gen {l : List Step} (hok : ∀ s ∈ l, okSt s) : (normS l).Pairwise ltSt ∧ (∀ s ∈ normS l, s ∈ l) ∧ ∀ s ∈ l, ∃ s' ∈ normS l, s'.src = s.src ∧ s'.dst = s.dst ∧ s'.kind ≤ s.kind := by
 have hp : ∀ s, s ∈ sortSt l ↔ s ∈ l := fun s => (sortSt_perm l).mem_iff
 have hs := sortSt_sorted l
 unfold normS
 cases hq : sortSt l with
 | nil =>
   rw [hq] at hp
   refine ⟨by simp [compF], by simp [compF], fun s hs => ?_⟩
   have := (hp s).2 hs
   cases this
 | cons a r =>
   rw [hq] at hp hs
   have hok' : ∀ s ∈ a :: r, okSt s := fun s h => hok s ((hp s).1 h)
   obtain ⟨h1, h2, h3, h4⟩ := compFrom_gen r a (hok' a List.mem_cons_self) (fun s h => hok' s (List.mem_cons_of_mem _ h)) hs
   rw [compF]
   refine ⟨List.pairwise_cons.2 ⟨h1, h2⟩, fun s hs' => ?_, fun s hs' => ?_⟩
   ·rcases List.mem_cons.1 hs' with rfl | hs'
    ·exact (hp s).1 List.mem_cons_self
    ·exact (hp s).1 (List.mem_cons_of_mem _ (h3 s hs'))
   ·rcases List.mem_cons.1 ((hp s).2 hs') with rfl | hs'
    ·exact ⟨s, List.mem_cons_self, rfl, rfl, Int.le_refl _⟩
    ·rcases h4 s hs' with ⟨h5, h6, h7⟩ | ⟨s', h5, h6⟩
     ·exact ⟨a, List.mem_cons_self, h5.symm, h6.symm, h7⟩
     ·exact ⟨s', List.mem_cons_of_mem _ h5, h6⟩
theorem lt_uniq {l : List Step} (h : l.Pairwise ltSt) {a b : Step} (ha : a ∈ l) (hb : b ∈ l) (h1 : a.src = b.src) (h2 : a.dst = b.dst) : a = b := by
 have hn : ∀ {x y : Step}, x.src = y.src → x.dst = y.dst → ¬ ltSt x y := fun {x y} e1 e2 hlt => by
  unfold ltSt at hlt
  rw [e1, e2] at hlt
  omega
 induction h with
 | nil => cases ha
 | @cons c r hc hr ih =>
   rcases List.mem_cons.1 ha with e1 | ha'
   ·rcases List.mem_cons.1 hb with e2 | hb'
    ·rw [e1, e2]
    ·exact absurd (hc b hb') (by rw [← e1]; exact hn h1 h2)
   ·rcases List.mem_cons.1 hb with e2 | hb'
    ·exact absurd (hc a ha') (by rw [← e2]; exact hn h1.symm h2.symm)
    ·exact ih ha' hb'
theorem normS_eq {l m : List Step} (hok : ∀ s ∈ l, okSt s) (h1 : m.Pairwise ltSt) (h2 : ∀ s ∈ m, s ∈ l) (h3 : ∀ s ∈ l, ∃ s' ∈ m, s'.src = s.src ∧ s'.dst = s.dst ∧ s'.kind ≤ s.kind) : normS l = m := by
 obtain ⟨g1, g2, g3⟩ := normS_gen hok
 refine sorted_ext g1 h1 fun s => ⟨fun hs => ?_, fun hs => ?_⟩
 ·obtain ⟨a, ha, h4, h5, h6⟩ := h3 s (g2 s hs)
  obtain ⟨b, hb, h7, h8, h9⟩ := g3 a (h2 a ha)
  have := lt_uniq g1 hb hs (h7.trans h4) (h8.trans h5)
  subst this
  have : a = b := Step.eq_of h4 h5 (by omega)
  rw [← this]
  exact ha
 ·obtain ⟨a, ha, h4, h5, h6⟩ := g3 s (h2 s hs)
  obtain ⟨b, hb, h7, h8, h9⟩ := h3 a (g2 a ha)
  have := lt_uniq h1 hb hs (h7.trans h4) (h8.trans h5)
  subst this
  have : a = b := Step.eq_of h4 h5 (by omega)
  rw [← this]
  exact ha
open Go.Proofs
theorem real1 : (newWay someP 1 f1).real = [⟨0, 5, 1⟩, ⟨5, 6, 1⟩, ⟨6, 7, 1⟩, ⟨6, 8, 1⟩, ⟨7, -1, 1⟩, ⟨8, -1, 1⟩] := norm1
theorem real0 : (newWay someP 0 f0).real = [⟨0, 1, 1⟩, ⟨1, 2, 1⟩, ⟨2, 3, 1⟩, ⟨3, 4, 1⟩, ⟨4, -1, 1⟩] := norm0
theorem prs1 : prsW (newWay someP 1 f1) f1 = [(0, 1), (1, 2), (2, 3), (2, 4), (3, 5), (4, 5)] := by
 unfold prsW
 rw [real1]
 kernel_rfl
theorem prs0 : prsW (newWay someP 0 f0) f0 = [(0, 1), (1, 2), (2, 3), (3, 4), (4, 5)] := by
 unfold prsW
 rw [real0]
 kernel_rfl
theorem traps1 : trapsW (newWay someP 1 f1) f1 = [] := by
 unfold trapsW partW
 rw [prs1]
 kernel_rfl
theorem traps0 : trapsW (newWay someP 0 f0) f0 = [] := by
 unfold trapsW partW
 rw [prs0]
 kernel_rfl
theorem aug1 : augW (newWay someP 1 f1) f1 = [⟨0, 5, 1⟩, ⟨0, -1, 2⟩, ⟨5, 6, 1⟩, ⟨6, 7, 1⟩, ⟨6, 8, 1⟩, ⟨7, 8, 2⟩, ⟨7, -1, 1⟩, ⟨8, -1, 1⟩] := by
 have h1 : augRaw (newWay someP 1 f1) f1 = [⟨0, 5, 1⟩, ⟨5, 6, 1⟩, ⟨6, 7, 1⟩, ⟨6, 8, 1⟩, ⟨7, -1, 1⟩, ⟨8, -1, 1⟩, ⟨0, -1, 2⟩, ⟨7, 8, 2⟩, ⟨8, -1, 2⟩] := by
  unfold augRaw virtW
  rw [traps1, real1]
  kernel_rfl
 unfold augW
 rw [h1]
 exact normS_eq (by unfold okSt; decide) (by decide) (by decide) (by decide)
theorem aug0 : augW (newWay someP 0 f0) f0 = [⟨0, 1, 1⟩, ⟨0, -1, 2⟩, ⟨1, 2, 1⟩, ⟨2, 3, 1⟩, ⟨3, 4, 1⟩, ⟨4, -1, 1⟩] := by
 have h1 : augRaw (newWay someP 0 f0) f0 = [⟨0, 1, 1⟩, ⟨1, 2, 1⟩, ⟨2, 3, 1⟩, ⟨3, 4, 1⟩, ⟨4, -1, 1⟩, ⟨0, -1, 2⟩] := by
  unfold augRaw virtW
  rw [traps0, real0]
  kernel_rfl
 unfold augW
 rw [h1]
 exact normS_eq (by unfold okSt; decide) (by decide) (by decide) (by decide)
theorem some_way0 : wayO someP [109, 97, 105, 110] = some (newWay someP 0 f0) := by
 unfold wayO
 rw [some_chk]
 rfl
open Go.Proofs
theorem sink {R : Int → Int → Prop} {PL : List Int} (hPL : ∀ x y, x ∈ PL → R x y → y ∈ PL) : ∀ (k : Nat) {x : Int}, x ∈ PL → (∀ c : Int → Nat, (∀ y, c y = 0 ∨ c y = 1) → (∀ y, c y = 1 → Rch R x y) → (PL.map c).sum < k) → ∃ y, Rch R x y ∧ ∀ z, Rch R y z → Rch R z y
 | 0, x, _, hk => absurd (hk (fun _ => 0) (fun _ => .inl rfl) (fun _ h => by cases h)) (Nat.not_lt_zero _)
 | k + 1, x, hx, hk => by
   by_cases h : ∀ z, Rch R x z → Rch R z x
   ·exact ⟨x, .refl, h⟩
   ·obtain ⟨z, hz⟩ := Classical.not_forall.1 h
    obtain ⟨h1, h2⟩ := Classical.not_imp.1 hz
    have hzp : z ∈ PL := h1.closed (S := fun y => y ∈ PL) hPL hx
    obtain ⟨y, h3, h4⟩ := sink hPL k hzp fun c hc hr => by
     have hcx : c x = 0 := by
      rcases hc x with h5 | h5
      ·exact h5
      ·exact absurd (hr x h5) h2
     have h6 : (PL.map c).sum < (PL.map fun y => if y = x then 1 else c y).sum := sum_lt (fun y _ => by
      split
      ·rename_i e
       rw [e, hcx]
       exact Nat.zero_le _
      ·exact Nat.le_refl _) ⟨x, hx, by simp [hcx]⟩
     have h7 := hk (fun y => if y = x then 1 else c y) (fun y => by
      split
      ·exact .inr rfl
      ·exact hc y) (fun y hy => by
      split at hy
      ·rename_i e
       rw [e]
       exact .refl
      ·exact h1.trans (hr y hy))
     omega
    exact ⟨y, h1.trans h3, h4⟩
theorem sum_one {c : Int → Nat} (h : ∀ y, c y = 0 ∨ c y = 1) : ∀ l : List Int, (l.map c).sum ≤ l.length
 | [] => by simp
 | a :: r => by
   have h1 := sum_one h r
   have h2 := h a
   simp only [List.map_cons, List.sum_cons, List.length_cons]
   omega
def plL (p : Pg) (j : Nat) (f : Pr) : List Int := 0 :: (-1) :: idsN (offN p.procs j) (cntL f.body)
theorem plL_mem {p : Pg} {j : Nat} {f : Pr} {x : Int} : x ∈ plL p j f ↔ plP p j f x := by
 unfold plL plP
 simp only [List.mem_cons]
 refine or_congr Iff.rfl (or_congr Iff.rfl ⟨fun h => ?_, fun h => idsN_has h.1 h.2⟩)
 have := idsN_mem h
 omega
theorem to_sink {p : Pg} (h : chkB p = true) {j : Nat} {f : Pr} (hj : p.procs[j]? = some f) {x : Int} (hx : plP p j f x) : ∃ y, Rch (wR p j f) x y ∧ ∀ z, Rch (wR p j f) y z → Rch (wR p j f) z y :=
 sink (PL := plL p j f) (fun a b _ hab => plL_mem.2 (R_pl h hj hab).2) ((plL p j f).length + 1) (plL_mem.2 hx) fun _ hc _ => Nat.lt_succ_of_le (sum_one hc _)
theorem no_entry {p : Pg} (h : chkB p = true) {j : Nat} {f : Pr} (hj : p.procs[j]? = some f) {a : Int} : ¬ wR p j f a 0 := fun ⟨s, hs, _, hd⟩ => by
 have h1 := ((chk_way h hj).2.1 s (((real_spec h hj).2 s).1 hs)).2
 unfold okI at h1
 omega
theorem rch_entry {p : Pg} (h : chkB p = true) {j : Nat} {f : Pr} (hj : p.procs[j]? = some f) {a : Int} (hr : Rch (wR p j f) a 0) : a = 0 := by
 cases hr with
 | refl => rfl
 | tail _ h2 => exact absurd h2 (no_entry h hj)
theorem entry_go {p : Pg} (h : chkB p = true) {j : Nat} {f : Pr} (hj : p.procs[j]? = some f) : wR p j f 0 (fstI p j f) := ⟨⟨0, fstI p j f, 1⟩, ((real_spec h hj).2 _).2 (by unfold stepsRaw fstI; exact List.mem_cons_self), rfl, rfl⟩
theorem trap_goto {p : Pg} (h : chkB p = true) {j : Nat} {f : Pr} (hj : p.procs[j]? = some f) {r : Int} (hr : plP p j f r) (hcl : ∀ b c, sccP (wR p j f) r b → wR p j f b c → sccP (wR p j f) r c) (h0 : ¬ sccP (wR p j f) r 0) (hx : ¬ sccP (wR p j f) r (-1)) : ∃ t ∈ flL f.body, sccP (wR p j f) r t.id ∧ t.kind = 10 := by
 refine Classical.byContradiction fun hno => hx ?_
 have hrr : (offN p.procs j : Int) + 1 ≤ r ∧ r ≤ (offN p.procs j + cntL f.body : Nat) := by
  rcases hr with rfl | rfl | h1
  ·exact absurd (sccP.refl 0) h0
  ·exact absurd (sccP.refl (-1)) hx
  ·exact h1
 obtain ⟨t, ht, _, hti⟩ := stAt_own h hj hrr.1 hrr.2
 exact proc_exit h hj (T := fun y => sccP (wR p j f) r y) (fun a b ha hab => hcl a b ha hab) (fun u hu hs hk => hno ⟨u, hu, hs, hk⟩) ht (by rw [hti]; exact sccP.refl r)
theorem stAt_id {p : Pg} (h : chkB p = true) {j : Nat} {f : Pr} (hj : p.procs[j]? = some f) {t : S} (ht : t ∈ flL f.body) : stAt p t.id = some t := by
 have hb := body_id (chk_parts h).1 hj ht
 obtain ⟨u, hu, h1, h2⟩ := stAt_own h hj hb.1 hb.2
 obtain ⟨it, hi, rfl⟩ := it_of (p := p) (j := j) ht
 obtain ⟨iu, hiu, rfl⟩ := it_of (p := p) (j := j) hu
 rw [it_inj (chk_parts h).1 hj hiu hi h2] at h1
 exact h1
theorem virt_mem {p : Pg} (h : chkB p = true) {j : Nat} {f : Pr} (hj : p.procs[j]? = some f) {s : Step} : s ∈ virtW (newWay p j f) f ↔ ∃ l ∈ trapsW (newWay p j f) f, ∃ t ∈ flL f.body, t.id ∈ l ∧ t.kind = 10 ∧ s = ⟨t.id, -1, 3⟩ := by
 unfold virtW
 constructor
 ·intro hs
  obtain ⟨l, hl, hs⟩ := List.mem_flatMap.1 hs
  obtain ⟨id, hid, hs⟩ := List.mem_flatMap.1 hs
  have hb := (trap_row h hj hl).2 id hid
  obtain ⟨t, ht, h1, h2⟩ := stAt_own h hj hb.1 hb.2
  have e : (newWay p j f).p = p := rfl
  unfold vOf at hs
  rw [e, h1] at hs
  simp only at hs
  split at hs
  ·rename_i hk
   exact ⟨l, hl, t, ht, by rw [h2]; exact hid, hk, by rw [h2]; simpa using hs⟩
  ·cases hs
 ·rintro ⟨l, hl, t, ht, hid, hk, rfl⟩
  refine List.mem_flatMap.2 ⟨l, hl, List.mem_flatMap.2 ⟨t.id, hid, ?_⟩⟩
  have e : (newWay p j f).p = p := rfl
  unfold vOf
  rw [e, stAt_id h hj ht]
  simp [hk]
theorem data_ok {p : Pg} (h : chkB p = true) {j : Nat} {f : Pr} (hj : p.procs[j]? = some f) : ∀ s ∈ virtW (newWay p j f) f ++ (newWay p j f).real, okSt s := fun s hs =>
 (List.mem_append.1 hs).elim ((wayT h hj).virt_ok s) ((wayT h hj).hok s)
theorem data_of {p : Pg} (h : chkB p = true) {j : Nat} {f : Pr} (hj : p.procs[j]? = some f) {s : Step} (hs : s ∈ virtW (newWay p j f) f ++ (newWay p j f).real) : stR (dataW (newWay p j f) f) s.src s.dst := by
 obtain ⟨s', h1, h2, h3, _⟩ := (normS_gen (data_ok h hj)).2.2 s hs
 exact ⟨s', h1, h2, h3⟩
theorem data_exit {p : Pg} (h : chkB p = true) {j : Nat} {f : Pr} (hj : p.procs[j]? = some f) {x : Int} (hx : plP p j f x) : Rch (stR (dataW (newWay p j f) f)) x (-1) := by
 have hm : ∀ a b, wR p j f a b → stR (dataW (newWay p j f) f) a b := fun a b ⟨s, hs, h1, h2⟩ => by
  rw [← h1, ← h2]
  exact data_of h hj (List.mem_append.2 (.inr hs))
 obtain ⟨y, h1, h2⟩ := to_sink h hj hx
 have hy := rch_pl h hj hx h1
 have hcl : ∀ b c, sccP (wR p j f) y b → wR p j f b c → sccP (wR p j f) y c := fun b c hb hbc => by
  have h3 : Rch (wR p j f) y c := .tail hb.1 hbc
  exact ⟨h3, h2 c h3⟩
 by_cases hxe : sccP (wR p j f) y (-1)
 ·exact (h1.trans hxe.1).mono hm
 have h0 : ¬ sccP (wR p j f) y 0 := fun hs => by
  have hy0 := rch_entry h hj hs.1
  subst hy0
  have h3 := h2 _ (.tail .refl (entry_go h hj))
  have h4 := rch_entry h hj h3
  have h5 := entry_go h hj
  rw [h4] at h5
  exact no_entry h hj h5
 obtain ⟨l, hl, hlm⟩ := trap_of h hj hy hcl h0 hxe
 obtain ⟨t, ht, h3, h4⟩ := trap_goto h hj hy hcl h0 hxe
 have hv : (⟨t.id, -1, 3⟩ : Step) ∈ virtW (newWay p j f) f := (virt_mem h hj).2 ⟨l, hl, t, ht, (hlm _).2 ⟨rch_pl h hj hy h3.1, h3⟩, h4, rfl⟩
 exact .tail ((h1.trans h3.1).mono hm) (data_of h hj (List.mem_append.2 (.inl hv)))
open Go.Proofs
theorem procAt_way {p : Pg} (h : chkB p = true) (n : Int) : ∃ (k : Nat) (f : Pr), p.procs[k]? = some f ∧ wayO p (procAtR p n) = some (newWay p k f) ∧ procR p (procAtR p n) = (f, true) := by
 have hne : 0 < p.procs.length := by
  obtain ⟨_, hb, _⟩ := scope_ok (chk_parts h).2.1
  cases hp : p.procs with
  | nil =>
    unfold mainBad procsN at hb
    rw [hp] at hb
    simp at hb
  | cons a r => simp
 have hr := modI_rng (n := n) (k := p.procs.length) (by omega)
 have hlt : (modI n p.procs.length).toNat < p.procs.length := by omega
 have e : procAtR p n = (p.procs[(modI n p.procs.length).toNat]).name := by unfold procAtR; rw [List.getElem?_eq_getElem hlt]
 cases hw : wayO p (procAtR p n) with
 | none =>
   exfalso
   unfold wayO at hw
   rw [h, cond_true] at hw
   cases hf : p.procs.find? (fun f => f.name == procAtR p n) with
   | none =>
     have := List.find?_eq_none.1 hf _ (List.getElem_mem hlt)
     simp [e] at this
   | some g => rw [hf] at hw; cases hw
 | some w =>
   obtain ⟨k, f, hkj, rfl, _, hfn, hfind⟩ := wayO_some hw
   exact ⟨k, f, hkj, rfl, by unfold procR; rw [hfind]⟩
theorem flat_pl {p : Pg} (h : chkB p = true) {j : Nat} {f : Pr} (hj : p.procs[j]? = some f) {x : RI} (hx : x ∈ flatR f) : x.s ∈ flL f.body := by
 rw [flatR_eq (chk_parts h).1 (List.mem_of_getElem? hj)] at hx
 rw [← show (flatU f).map RI.s = flL f.body from fuL_s 1 0 false f.body]
 exact List.mem_map.2 ⟨x, hx, rfl⟩
open Go.Proofs
def RI0 : RI := ⟨.mk 0 0 [] [] [] (.mk 0 0 [] []) false [] [] [], 0, 0, false⟩
def findF (id : Int) (f : Pr) : Option (RI × Str) := ((flatR f).find? fun x => decide (x.s.id = id)).map fun x => (x, f.name)
def findR (p : Pg) (id : Int) : Option (RI × Str) := p.procs.findSome? (findF id)
def findO (p : Pg) (id : Int) : RI × Str × Bool := match findR p id with
 | some (x, n) => (x, n, true)
 | none => (RI0, [], false)
theorem sub_RI0 : Sub (.agg [.int .i64 0, .int .i64 0, .nils, .str [], .str [], .int .i64 0, .int .i64 0, .str [], .nils, .ff, .nils, .nils, .nils, .int .i64 0, .int .i64 0, .ff]) (.agg RI0.cells) :=
 Sub.agg (by repeat' (first | exact SubL.nil | refine SubL.cons ?_ ?_ | exact Sub.nils | exact Sub.ff rfl | exact Sub.refl _))
theorem drop_find {l : List RI} {q : RI → Bool} {k : Nat} (hk : k < l.length) : (l.drop k).find? q = if q l[k] then some l[k] else (l.drop (k + 1)).find? q := by
 rw [drop_cons hk, List.find?_cons]
 cases q l[k] <;> rfl
theorem whittlerref6_Find (p : Pg) (id : Int) : SpecP Tryz.prog 84 [.agg p.cells, .int .i64 id] (fun r => r = .tup [.agg (findO p id).1.cells, .str (findO p id).2.1, .bool (findO p id).2.2]) := by
 refine SpecP.body I_whittlerref6_Find tabOK Tryz.func84 rfl Tryz.call84 (by show 2 ≤ _; decide) ?_
 conv => whnf
 have hpl : (p.procs.map fun f => AV.agg f.cells).length = p.procs.length := List.length_map _
 repeat' (intro (_ : _ ≤ 9223372036854775807); conv => whnf)
 refine LoopK.inv tabOK (fun j : Nat => ⟨[(1, .p (.int .i64 id)), (4, .ptr 1 0), (12, .p (.sl (p.procs.map fun f => .agg f.cells))), (13, .p (.int .i64 (p.procs.map fun f => AV.agg f.cells).length)), (14, .p (.int .i64 j))], [(1, .obj 103 [.p (.int .i64 0), .p (.int .i64 0), .p .nils, .p (.str []), .p (.str []), .p (.int .i64 0), .p (.int .i64 0), .p (.str []), .p .nils, .p .ff, .p .nils, .p .nils, .p .nils, .p (.int .i64 0), .p (.int .i64 0), .p .ff])]⟩) (fun j => j ≤ p.procs.length ∧ (p.procs.drop j).findSome? (findF id) = findR p id) (fun j => p.procs.length - j) 0 (Le.of_eq rfl) ⟨Nat.zero_le _, rfl⟩ ?_
 rintro j ⟨h2, h3⟩
 rcases Nat.lt_or_ge j p.procs.length with hj | hj
 rotate_left 1
 ·rw [List.drop_eq_nil_of_le hj, List.findSome?_nil] at h3
  have hO : findO p id = (RI0, [], false) := by unfold findO; rw [← h3]
  rw [hO]
  conv => whnf
  repeat' (first | (refine And.intro rfl ?_; conv => whnf) | (refine Br.dec (fun _ => ?_) (fun _ => ?_) <;> first | (exfalso; omega) | conv => whnf))
  exact ⟨_, .p (Sub.tup (SubL.cons sub_RI0 (SubL.cons (Sub.refl _) (SubL.cons (Sub.ff rfl) SubL.nil)))), rfl⟩
 rw [drop_cons hj, List.findSome?_cons] at h3
 conv => whnf
 repeat' (first | ((first | (intro (_ : _ ≤ 9223372036854775807)) | (refine And.intro rfl ?_) | (refine IdxK.map (by omega) (fun _ => rfl) ?_) | (refine CallK.pure (whittlerref3_Flat _) (.cons (Sub.refl _) .nil) ?_; rintro _ rfl)); conv => whnf) | (refine Br.dec (fun _ => ?_) (fun _ => ?_) <;> first | (exfalso; omega) | conv => whnf))
 have hrl : ((flatR p.procs[j]).map fun i => AV.agg i.cells).length = (flatR p.procs[j]).length := List.length_map _
 have hff : findF id p.procs[j] = ((flatR p.procs[j]).find? fun x => decide (x.s.id = id)).map fun x => (x, p.procs[j].name) := rfl
 rw [hff] at h3
 have hfl := flatR_len p.procs[j]
 generalize flatR p.procs[j] = F at hrl hfl h3 ⊢
 refine LoopK.inv tabOK (fun k : Nat => ⟨[(1, .p (.int .i64 id)), (4, .ptr 1 0), (8, .p (.ip p.procs[j].cells)), (12, .p (.sl (p.procs.map fun f => .agg f.cells))), (13, .p (.int .i64 (p.procs.map fun f => AV.agg f.cells).length)), (14, .p (.int .i64 j)), (19, .p (eRIs F)), (20, .p (.int .i64 (F.map fun i => AV.agg i.cells).length)), (21, .p (.int .i64 k))], [(1, .obj 103 [.p (.int .i64 0), .p (.int .i64 0), .p .nils, .p (.str []), .p (.str []), .p (.int .i64 0), .p (.int .i64 0), .p (.str []), .p .nils, .p .ff, .p .nils, .p .nils, .p .nils, .p (.int .i64 0), .p (.int .i64 0), .p .ff])]⟩) (fun k => k ≤ F.length ∧ (F.drop k).find? (fun x => decide (x.s.id = id)) = F.find? fun x => decide (x.s.id = id)) (fun k => F.length - k) 0 (Le.of_eq rfl) ⟨Nat.zero_le _, rfl⟩ ?_
 rintro k ⟨h4, h5⟩
 rcases Nat.lt_or_ge k F.length with hk | hk
 rotate_left 1
 ·rw [List.drop_eq_nil_of_le hk, List.find?_nil] at h5
  rw [← h5] at h3
  conv => whnf
  repeat' (first | (refine Wr.i64 (by omega) (by omega) ?_; conv => whnf) | (refine Br.dec (fun _ => ?_) (fun _ => ?_) <;> first | (exfalso; omega) | conv => whnf))
  exact ⟨j + 1, ⟨hj, h3⟩, by omega, Le.of_eq rfl⟩
 rw [drop_find hk] at h5
 conv => whnf
 repeat' (first | ((first | (refine DrawK.auto tabOK mixed (by kernel_rfl) ?_) | (refine And.intro rfl ?_) | (refine IdxK.map (by omega) (fun _ => rfl) ?_) | (refine Wr.i64 (by omega) (by omega) ?_)); conv => whnf) | (refine Br.dec (fun _ => ?_) (fun _ => ?_) <;> first | (exfalso; omega) | conv => whnf))
 ·have hid : F[k].s.id = id := by assumption
  rw [if_pos (decide_eq_true hid)] at h5
  rw [← h5] at h3
  have hO : findO p id = (F[k], p.procs[j].name, true) := by unfold findO; rw [← h3]; rfl
  rw [hO]
  exact ⟨_, .p (Sub.tup (SubL.cons (Sub.refl _) (SubL.cons (Sub.refl _) (SubL.cons (Sub.tt rfl) SubL.nil)))), rfl⟩
 ·have hid : ¬ F[k].s.id = id := by assumption
  rw [if_neg (by simpa using hid)] at h5
  exact ⟨k + 1, ⟨hk, h5⟩, by omega, Le.of_eq rfl⟩
def stmtR (p : Pg) (id : Int) : S := (findO p id).1.s
theorem whittlerref6_Stmt (p : Pg) (id : Int) : SpecP Tryz.prog 50 [.agg p.cells, .int .i64 id] (fun r => r = .agg (stmtR p id).cells) := by
 refine SpecP.body I_whittlerref6_Stmt tabOK Tryz.func50 rfl Tryz.call50 (by show 2 ≤ _; decide) ?_
 conv => whnf
 repeat' ((first | (refine CallK.pure (whittlerref6_Find _ _) (by repeat' (first | exact ArgP.nil | refine ArgP.cons ?_ ?_ | exact Sub.refl _ | exact Sub.tt rfl | exact Sub.ff rfl)) ?_; rintro _ rfl) | (refine And.intro rfl ?_)); conv => whnf)
 exact RetK.p rfl
open Go.Proofs
def revI (l : List Int) (i : Nat) : List Int := (List.range l.length).map fun k => if k < i ∨ l.length - i ≤ k then l.getD (l.length - 1 - k) 0 else l.getD k 0
theorem revI_len (l : List Int) (i : Nat) : (revI l i).length = l.length := by unfold revI; simp
theorem revI_get {l : List Int} {i k : Nat} (hk : k < l.length) : (revI l i)[k]? = some (if k < i ∨ l.length - i ≤ k then l.getD (l.length - 1 - k) 0 else l.getD k 0) := by
 unfold revI
 rw [List.getElem?_map, List.getElem?_range hk]
 rfl
theorem revI_zero (l : List Int) : revI l 0 = l := by
 refine List.ext_getElem? fun k => ?_
 rcases Nat.lt_or_ge k l.length with hk | hk
 ·rw [revI_get hk, if_neg (by omega), List.getD_eq_getElem?_getD, List.getElem?_eq_getElem hk]
  rfl
 ·rw [List.getElem?_eq_none (by rw [revI_len]; exact hk), List.getElem?_eq_none hk]
theorem revI_end {l : List Int} {i : Nat} (h : l.length ≤ 2 * i + 1) : revI l i = l.reverse := by
 refine List.ext_getElem? fun k => ?_
 rcases Nat.lt_or_ge k l.length with hk | hk
 ·rw [revI_get hk, List.getElem?_reverse hk, List.getElem?_eq_getElem (by omega)]
  split
  ·rw [List.getD_eq_getElem?_getD, List.getElem?_eq_getElem (by omega)]
   rfl
  ·rw [List.getD_eq_getElem?_getD, List.getElem?_eq_getElem (by omega)]
   simp only [Option.getD_some]
   congr 2
   omega
 ·rw [List.getElem?_eq_none (by rw [revI_len]; exact hk), List.getElem?_eq_none (by rw [List.length_reverse]; exact hk)]
theorem revI_step {l : List Int} {i : Nat} (h : 2 * i + 1 < l.length) : ((revI l i).set i (l.getD (l.length - 1 - i) 0)).set (l.length - 1 - i) (l.getD i 0) = revI l (i + 1) := by
 refine List.ext_getElem? fun k => ?_
 rcases Nat.lt_or_ge k l.length with hk | hk
 ·rw [revI_get hk, List.getElem?_set, List.getElem?_set]
  simp only [List.length_set, revI_len]
  by_cases h1 : l.length - 1 - i = k
  ·rw [if_pos h1, if_pos (by omega), if_pos (by omega)]
   congr 2
   omega
  ·rw [if_neg h1]
   by_cases h2 : i = k
   ·rw [if_pos h2, if_pos (by omega), if_pos (by omega)]
    congr 2
    omega
   ·rw [if_neg h2, revI_get hk]
    by_cases h3 : k < i ∨ l.length - i ≤ k
    ·rw [if_pos h3, if_pos (by omega)]
    ·rw [if_neg h3, if_neg (by omega)]
 ·rw [List.getElem?_eq_none (by simp [revI_len]; exact hk), List.getElem?_eq_none (by rw [revI_len]; exact hk)]
theorem slices_Reverse_int_int_ (l : List Int) (hl : l.length ≤ 1000000) : SpecH Tryz.prog 110 [.hd 1000 0 l.length] [(1000, .own 3 1 (l.map (.int .i64)))] (fun r H => r = .p (.tup []) ∧ H = [(1000, .own 3 1 (l.reverse.map (.int .i64)))]) := by
 refine SpecH.body I_slices_Reverse_int_int_ tabOK Tryz.func110 rfl Tryz.call110 (by show 1 ≤ _; decide) ?_
 conv => whnf
 repeat' ((first | (intro (_ : _ ≤ 9223372036854775807)) | (refine Wr.i64 (by omega) (by omega) ?_)); conv => whnf)
 refine LoopK.inv tabOK (fun i : Nat => ⟨[(0, .hd 1000 0 l.length), (2, .p (.int .i64 i)), (3, .p (.int .i64 ((l.length : Int) - 1 - i)))], [(1000, .own 3 1 ((revI l i).map (.int .i64)))]⟩) (fun i => i ≤ l.length) (fun i => l.length - i) 0 (Le.of_eq (by rw [revI_zero, show (l.length : Int) - 1 - ((0 : Nat) : Int) = (l.length : Int) - 1 by omega]; rfl)) (Nat.zero_le _) ?_
 intro i h2
 have hlr := revI_len l i
 by_cases h3 : 2 * i + 1 < l.length
 ·have e1 : ((revI l i).map (AV.int .i64))[i]? = some (.int .i64 (l.getD i 0)) := by rw [List.getElem?_map, revI_get (by omega), if_neg (by omega)]; rfl
  have e2 : ((revI l i).map (AV.int .i64))[l.length - 1 - i]? = some (.int .i64 (l.getD (l.length - 1 - i) 0)) := by rw [List.getElem?_map, revI_get (by omega), if_neg (by omega)]; rfl
  have hst := revI_step h3
  generalize revI l i = row at hlr e1 e2 hst ⊢
  generalize l.getD i 0 = x at e1 hst
  generalize l.getD (l.length - 1 - i) 0 = y at e2 hst
  have e3 : ((row.map (AV.int .i64)).set i (.int .i64 y))[l.length - 1 - i]? = some (.int .i64 y) := by rw [List.getElem?_set_ne (by omega)]; exact e2
  conv => whnf
  repeat' (first | ((first | (refine DrawK.auto tabOK mixed (by kernel_rfl) ?_) | (refine And.intro rfl ?_) | (refine Wr.i64 (by omega) (by omega) ?_) | (refine IdxL.mk (l.length-1-i) (by omega) (by omega) ?_) | (refine IdxL.mk i rfl (by omega) ?_) | (refine LdOwn.mk (l.length-1-i) 0 _ (by show (0+(l.length-1-i))*1 = (l.length-1-i)*1+0; omega) e2 ?_) | (refine LdOwn.mk i 0 _ (by show (0+i)*1 = i*1+0; omega) e1 ?_) | (refine StOwn.mk i 0 _ (.int .i64 y) (by show (0+i)*1 = i*1+0; omega) e1 (Nat.le_refl _) rfl ?_) | (refine StOwn.mk (l.length-1-i) 0 _ (.int .i64 x) (by show (0+(l.length-1-i))*1 = (l.length-1-i)*1+0; omega) e3 (Nat.le_refl _) rfl ?_)); conv => whnf) | (refine Br.dec (fun _ => ?_) (fun _ => ?_) <;> first | (exfalso; omega) | conv => whnf))
  exact ⟨i + 1, by omega, by omega, Le.of_eq (by rw [← hst, List.map_set, List.map_set, show (l.length : Int) - 1 - ((i + 1 : Nat) : Int) = (l.length : Int) - 1 - i - 1 by omega]; rfl)⟩
 ·have hre := revI_end (l := l) (i := i) (by omega)
  rw [hre] at hlr ⊢
  conv => whnf
  repeat' (refine Br.dec (fun _ => ?_) (fun _ => ?_) <;> first | (exfalso; omega) | conv => whnf)
  exact ⟨_, LSub.refl _, rfl, rfl⟩
theorem whittlerref14_Has (l : List Int) (x : Int) : SpecP Tryz.prog 54 [eInts l, .int .i64 x] (fun r => r = .bool (hasI l x)) := by
 refine SpecP.body I_whittlerref14_Has tabOK Tryz.func54 rfl Tryz.call54 (by show 2 ≤ _; decide) ?_
 conv => whnf
 repeat' (refine CallK.pure (whittlerref14_has _ _) (by repeat' (first | exact ArgP.nil | refine ArgP.cons ?_ ?_ | exact Sub.refl _ | exact Sub.tt rfl | exact Sub.ff rfl)) ?_; rintro _ rfl; conv => whnf)
 exact RetK.bool rfl
theorem whittlerlaw18_small (p : Pg) (hf : Fit p) (most : Int) : SpecP Tryz.prog 46 [.agg p.cells, .int .i64 most] (fun r => r = .bool (smallB p most)) := by
 refine SpecP.body I_whittlerlaw18_small tabOK Tryz.func46 rfl Tryz.call46 (by show 2 ≤ _; decide) ?_
 conv => whnf
 have hC := check_May p hf
 unfold smallB
 cases hc : chkB p with
 | false =>
   rw [hc] at hC
   repeat' (first | (refine CallK.pure hC (.cons (Sub.refl _) .nil) ?_; rintro _ rfl; conv => whnf) | (refine Br.b (fun _ => ?_) (fun _ => ?_) <;> conv => whnf))
   all_goals first
    | contradiction
    | exact RetK.ff rfl
 | true =>
   rw [hc] at hC
   have hcn := (chk_cnt hc).2.2
   repeat' (first | ((first | (refine CallK.pure hC (.cons (Sub.refl _) .nil) ?_; rintro _ rfl) | (refine CallK.pure (tree_Count p (by omega)) (.cons (Sub.refl _) .nil) ?_; rintro _ rfl)); conv => whnf) | (refine Br.b (fun _ => ?_) (fun _ => ?_) <;> conv => whnf))
   all_goals first
    | contradiction
    | exact RetK.bool (by simp)
open Go.Proofs
theorem stmt_own {p : Pg} (h : chkB p = true) {j : Nat} {f : Pr} (hj : p.procs[j]? = some f) {t : S} (ht : t ∈ flL f.body) : stmtR p t.id = t := by
 have hm := (chk_parts h).1
 have hf := List.mem_of_getElem? hj
 have e4 : (flatU f).map RI.s = flL f.body := fuL_s 1 0 false f.body
 have ex : ∃ x ∈ flatR f, x.s = t := by
  rw [flatR_eq hm hf]
  rw [← e4] at ht
  obtain ⟨x, hx, hs⟩ := List.mem_map.1 ht
  exact ⟨x, hx, hs⟩
 obtain ⟨x, hx, hs⟩ := ex
 unfold stmtR findO
 cases hr : findR p t.id with
 | none =>
   exfalso
   unfold findR at hr
   have h1 := List.findSome?_eq_none_iff.1 hr f hf
   unfold findF at h1
   rw [Option.map_eq_none_iff, List.find?_eq_none] at h1
   exact h1 x hx (by simp [hs])
 | some y =>
   obtain ⟨y, n⟩ := y
   unfold findR at hr
   obtain ⟨g, hg, h1⟩ := List.exists_of_findSome?_eq_some hr
   unfold findF at h1
   rw [Option.map_eq_some_iff] at h1
   obtain ⟨z, h2, h3⟩ := h1
   obtain rfl : z = y := congrArg Prod.fst h3
   obtain ⟨k, hk⟩ := List.mem_iff_getElem?.1 hg
   have h4 := flat_pl h hk (List.mem_of_find?_eq_some h2)
   have h5 : z.s.id = t.id := by simpa using List.find?_some h2
   have h6 := stAt_id h hk h4
   have h7 := stAt_id h hj ht
   rw [h5, h7] at h6
   exact (Option.some.inj h6).symm
open Go.Proofs
theorem aug_ok {p : Pg} (h : chkB p = true) {j : Nat} {f : Pr} (hj : p.procs[j]? = some f) : ∀ s ∈ augRaw (newWay p j f) f, okSt s := fun s hs => by
 unfold augRaw at hs
 rcases List.mem_append.1 hs with hs | hs
 ·rcases List.mem_append.1 hs with hs | hs
  ·exact data_ok h hj s hs
  ·rw [List.mem_singleton.1 hs]
   exact ⟨by decide, by decide⟩
 ·obtain ⟨it, hi, hs⟩ := List.mem_flatMap.1 hs
  exact nextR_ok h hj it hi s hs
open Go.Proofs
mutual
def onS (b : Bool) : S → S
 | .mk id kind labels name proc x has args thn els => if kind = 4 ∨ (7 ≤ kind ∧ b = false) then .mk 0 3 (if b then labels else []) [] [] (.mk 1 7 [] []) false [] (onL b thn) (onL b els) else .mk id kind (if b then labels else []) name proc x has args (onL b thn) (onL b els)
def onL (b : Bool) : List S → List S
 | [] => []
 | t :: r => onS b t :: onL b r
end
open Go.Proofs
structure Ren (a b : Str) : Prop where
 na : isName a = true
 nb : isName b = true
 ma : a ≠ mainS
 mb : b ≠ mainS
theorem name_ne {s : Str} (h : isName s = true) : s ≠ [] := fun he => by
 subst he
 unfold isName at h
 rw [dif_neg (by simp)] at h
 cases h
theorem Ren.nil {a b : Str} (h : Ren a b) : otherS a b [] = [] := by
 unfold otherS
 rw [if_neg (by simpa using fun e => name_ne h.na e), if_neg (by simpa using fun e => name_ne h.nb e)]
theorem Ren.name {a b : Str} (h : Ren a b) (s : Str) : isName (otherS a b s) = isName s := by
 unfold otherS
 by_cases h1 : s = a
 ·subst h1
  simp [h.na, h.nb]
 ·rw [if_neg (by simpa using h1)]
  by_cases h2 : s = b
  ·subst h2
   simp [h.na, h.nb]
  ·rw [if_neg (by simpa using h2)]
open Go.Proofs
open Go.Proofs
def onPr (b : Bool) (f : Pr) : Pr := ⟨f.name, f.params, f.vars, onL b f.body, if b then f.fin else []⟩
def nmPrs (n : Nat) : List Pr → List Pr
 | [] => []
 | f :: r => ⟨f.name, f.params, f.vars, nmL n f.body, f.fin⟩ :: nmPrs (n + cntL f.body) r
def nmPg (p : Pg) : Pg := ⟨p.globals, nmPrs 0 p.procs⟩
def onlyRaw (b : Bool) (p : Pg) : Pg := ⟨p.globals, (p.procs.filter fun f => f.name == mainS).map (onPr b)⟩
def onlyPg (b : Bool) (p : Pg) : Pg := nmPg (onlyRaw b p)
structure OnR (s t : S) : Prop where
 labels : t.labels = []
 off : s.kind = 4 ∨ 7 ≤ s.kind → t.kind = 3 ∧ t.name = [] ∧ t.x = .mk 1 7 [] [] ∧ t.args = []
 on : ¬ (s.kind = 4 ∨ 7 ≤ s.kind) → t.kind = s.kind ∧ t.name = s.name ∧ t.x = s.x ∧ t.args = s.args
section
variable {p : Pg} {k : Nat} {f : Pr}
theorem OnR.kind {s t : S} (h : OnR s t) : t.kind ≠ 4 ∧ t.kind < 7 := by
 by_cases hk : s.kind = 4 ∨ 7 ≤ s.kind
 ·have := (h.off hk).1
  omega
 ·have := (h.on hk).1
  omega
end
open Go.Proofs
def closedI (sh : Sheet) (f : Pr) (R : Int → Prop) (l : List Item) : Prop := ∀ it ∈ l, R it.s.id → ∀ y ∈ goesI sh f it, R y
theorem closedI.sub {sh : Sheet} {f : Pr} {R : Int → Prop} {l m : List Item} (h : closedI sh f R l) (hs : ∀ x ∈ m, x ∈ l) : closedI sh f R m := fun it hi => h it (hs it hi)
mutual
theorem liveS {sh : Sheet} {f : Pr} {R : Int → Prop} (proc : Int) : ∀ (t : S) {nest m : Int} (up nx lp : Int) (n : Nat), rowS nest n t = some m → (∀ u ∈ flS t, u.kind < 7) → closedI sh f R (itS proc up nx lp n t) → R t.id → (∀ it ∈ itS proc up nx lp n t, R it.s.id) ∧ R nx
 | .mk id kind labels name pr x has args thn els, nest, m, up, nx, lp, n, h, hk, hc, h0 => by
   obtain ⟨h1, hid, m1, h3, h4⟩ := rowS_parts h
   have hF := one_facts h1
   have hid : id = (n : Int) + 1 := hid
   have hm1 := rowL_cnt _ _ thn h3
   rw [itS] at hc ⊢
   have hg : ∀ y ∈ (if kind = 5 then [headI thn nx, headI els nx] else if kind = 6 then [headI thn id, nx] else if kind = 7 then [((sh.l[(lp - 1).toNat]?).map Item.next).getD 0] else if kind = 8 then [lp] else if kind = 9 then [-1] else if kind = 10 then [(atB f name).1] else [nx]), R y := hc _ List.mem_cons_self h0
   have hkt : ∀ u ∈ flL thn, u.kind < 7 := fun u hu => hk u (by rw [flS]; exact List.mem_cons_of_mem _ (List.mem_append.2 (.inl hu)))
   have hke : ∀ u ∈ flL els, u.kind < 7 := fun u hu => hk u (by rw [flS]; exact List.mem_cons_of_mem _ (List.mem_append.2 (.inr hu)))
   have hk0 : kind < 7 := by
    have := hk (.mk id kind labels name pr x has args thn els) (by rw [flS]; exact List.mem_cons_self)
    exact this
   have h3' : rowL (nest + 1) ((n + 1 : Nat) : Int) thn = some m1 := by rw [← h3]; rfl
   have h4' : rowL (nest + 1) ((n + 1 + cntL thn : Nat) : Int) els = some m := by
    rw [← h4, hm1]
    congr 1
   have hct := closedI.sub hc (m := itL proc (n + 1) (if kind = 6 then n + 1 else nx) (if kind = 6 then n + 1 else lp) (n + 1) thn) fun x hx => List.mem_cons_of_mem _ (List.mem_append.2 (.inl hx))
   have hce := closedI.sub hc (m := itL proc (n + 1) (if kind = 6 then n + 1 else nx) (if kind = 6 then n + 1 else lp) (n + 1 + cntL thn) els) fun x hx => List.mem_cons_of_mem _ (List.mem_append.2 (.inr hx))
   have fin : R nx → R (headI thn (if kind = 6 then n + 1 else nx)) → R (headI els (if kind = 6 then n + 1 else nx)) → (∀ it ∈ (⟨.mk id kind labels name pr x has args thn els, proc, up, nx, lp⟩ : Item) :: (itL proc (n + 1) (if kind = 6 then n + 1 else nx) (if kind = 6 then n + 1 else lp) (n + 1) thn ++ itL proc (n + 1) (if kind = 6 then n + 1 else nx) (if kind = 6 then n + 1 else lp) (n + 1 + cntL thn) els), R it.s.id) ∧ R nx := fun hn ht he => by
    have q1 := liveL' proc thn (n + 1) _ _ (n + 1) h3' hkt hct ht
    have q2 := liveL' proc els (n + 1) _ _ (n + 1 + cntL thn) h4' hke hce he
    refine ⟨fun it hi => ?_, hn⟩
    rcases List.mem_cons.1 hi with rfl | hi
    ·exact h0
    ·rcases List.mem_append.1 hi with hi | hi
     ·exact q1.1 it hi
     ·exact q2.1 it hi
   by_cases k5 : kind = 5
   ·rw [if_pos k5] at hg
    have hne : ¬ kind = 6 := by omega
    simp only [if_neg hne] at hct hce fin ⊢
    have a1 := hg _ List.mem_cons_self
    have a2 := hg _ (List.mem_cons_of_mem _ List.mem_cons_self)
    have q1 := liveL' proc thn (n + 1) _ _ (n + 1) h3' hkt hct a1
    exact fin q1.2 a1 a2
   ·rw [if_neg k5] at hg
    have he0 : els = [] := List.eq_nil_of_length_eq_zero (hF.els.resolve_right k5)
    by_cases k6 : kind = 6
    ·rw [if_pos k6] at hg
     simp only [if_pos k6] at hct hce fin ⊢
     have a1 := hg _ List.mem_cons_self
     have a2 := hg _ (List.mem_cons_of_mem _ List.mem_cons_self)
     have e0 : R ((n : Int) + 1) := by rw [← hid]; exact h0
     refine fin a2 ?_ ?_
     ·rw [← hid]; exact a1
     ·rw [he0]; exact e0
    ·rw [if_neg k6, if_neg (by omega), if_neg (by omega), if_neg (by omega), if_neg (by omega)] at hg
     simp only [if_neg k6] at hct hce fin ⊢
     have a1 := hg _ List.mem_cons_self
     have ht0 : thn = [] := List.eq_nil_of_length_eq_zero (by rcases hF.thn with h | h | h; exact h; exact absurd h k5; exact absurd h k6)
     exact fin a1 (by rw [ht0]; exact a1) (by rw [he0]; exact a1)
theorem liveL' {sh : Sheet} {f : Pr} {R : Int → Prop} (proc : Int) : ∀ (l : List S) {nest m : Int} (up nx lp : Int) (n : Nat), rowL nest n l = some m → (∀ u ∈ flL l, u.kind < 7) → closedI sh f R (itL proc up nx lp n l) → R (headI l nx) → (∀ it ∈ itL proc up nx lp n l, R it.s.id) ∧ R nx
 | [], nest, m, up, nx, lp, n, h, hk, hc, h0 => by
   rw [itL]
   exact ⟨fun it hi => (by cases hi), h0⟩
 | t :: r, nest, m, up, nx, lp, n, h, hk, hc, h0 => by
   obtain ⟨_, m1, h1, h2⟩ := rowL_parts h
   have hm1 := rowS_cnt _ _ t h1
   have h2' : rowL nest ((n + cntS t : Nat) : Int) r = some m := by rw [← h2, hm1]; rfl
   rw [itL] at hc ⊢
   have q1 := liveS proc t up _ lp n h1 (fun u hu => hk u (by rw [flL]; exact List.mem_append.2 (.inl hu))) (closedI.sub hc fun x hx => List.mem_append.2 (.inl hx)) h0
   have hr0 : R (headI r nx) := by
    cases r with
    | nil => exact q1.2
    | cons u r =>
      have h3 := q1.2
      obtain ⟨_, m2, h4, _⟩ := rowL_parts h2'
      obtain ⟨_, hid, _⟩ := rowS_parts h4
      rw [if_neg (by simp)] at h3
      show R u.id
      rw [hid]
      have : ((n + cntS t : Nat) : Int) + 1 = (n : Int) + 1 + cntS t := by omega
      rw [this]
      exact h3
   have q2 := liveL' proc r up nx lp (n + cntS t) h2' (fun u hu => hk u (by rw [flL]; exact List.mem_append.2 (.inr hu))) (closedI.sub hc fun x hx => List.mem_append.2 (.inr hx)) hr0
   refine ⟨fun it hi => ?_, q2.2⟩
   rcases List.mem_append.1 hi with hi | hi
   ·exact q1.1 it hi
   ·exact q2.1 it hi
end
theorem mayPrs_row : ∀ (l : List Pr) {n : Nat} {m : Int}, mayPrs n l = some m → ∀ (j : Nat) (f : Pr), l[j]? = some f → ∃ m', rowL 1 ((n + offN l j : Nat) : Int) f.body = some m'
 | [], _, _, _, j, f, hj => by simp at hj
 | g :: r, n, m, h, j, f, hj => by
   rw [mayPrs] at h
   cases hm : mayPr g <;> rw [hm] at h
   ·cases h
   simp only [cond_true] at h
   split at h
   ·rename_i m1 h1
    cases j with
    | zero =>
      cases hj
      exact ⟨m1, h1⟩
    | succ j =>
      have h2 := rowL_cnt _ _ g.body h1
      have h' : mayPrs ((n + cntL g.body : Nat) : Int) r = some m := by rw [← h, h2]; rfl
      obtain ⟨m', h3⟩ := mayPrs_row r h' j f (by simpa using hj)
      exact ⟨m', by rw [← h3, offN]; congr 1; omega⟩
   ·cases h
theorem may_row {p : Pg} (h : mayB p = true) {j : Nat} {f : Pr} (hj : p.procs[j]? = some f) : ∃ m, rowL 1 ((offN p.procs j : Nat) : Int) f.body = some m := by
 unfold mayB at h
 simp only [Bool.and_eq_true] at h
 obtain ⟨m, hm⟩ := Option.isSome_iff_exists.1 h.2
 obtain ⟨m', h'⟩ := mayPrs_row p.procs (n := 0) hm j f hj
 exact ⟨m', by rw [← h']; congr 1; omega⟩
theorem all_live {p : Pg} (h : chkB p = true) {j : Nat} {f : Pr} (hj : p.procs[j]? = some f) (hk : ∀ u ∈ flL f.body, u.kind < 7) : (∀ t ∈ flL f.body, Rch (wR p j f) 0 t.id) ∧ Rch (wR p j f) 0 (-1) := by
 obtain ⟨hm, _⟩ := chk_parts h
 obtain ⟨m, hr⟩ := may_row hm hj
 have hc : closedI (sheetOf p) f (Rch (wR p j f) 0) (itL (j : Nat) 0 (-1) 0 (offN p.procs j) f.body) := fun it hi h0 y hy => .tail h0 ⟨⟨it.s.id, y, 1⟩, ((real_spec h hj).2 _).2 (raw_go hi hy), rfl, rfl⟩
 have h0 : Rch (wR p j f) 0 (headI f.body (-1)) := by
  rw [← fst_head h hj]
  exact .tail .refl (entry_go h hj)
 obtain ⟨q1, q2⟩ := liveL' (j : Nat) f.body 0 (-1) 0 (offN p.procs j) hr hk hc h0
 refine ⟨fun t ht => ?_, q2⟩
 rw [← itL_s (j : Nat) 0 (-1) 0 (offN p.procs j)] at ht
 obtain ⟨it, hi, rfl⟩ := List.mem_map.1 ht
 exact q1 it hi
theorem setAll_get : ∀ (l : List Int) (b : List Bool) (i : Nat), i < b.length → ((setAll l b).getD i false = true ↔ b.getD i false = true ∨ ∃ a ∈ l, a.toNat = i)
 | [], b, i, hi => by simp [setAll]
 | a :: r, b, i, hi => by
   have ih := setAll_get r (b.set a.toNat true) i (by rw [List.length_set]; exact hi)
   have e : setAll (a :: r) b = setAll r (b.set a.toNat true) := rfl
   rw [e, ih]
   simp only [List.mem_cons, exists_eq_or_imp]
   by_cases ha : a.toNat = i
   ·simp [ha, hi, List.getD_eq_getElem?_getD, List.getElem?_set]
   ·simp [ha, List.getD_eq_getElem?_getD, List.getElem?_set]
theorem live_iff {p : Pg} (h : chkB p = true) {j : Nat} {f : Pr} (hj : p.procs[j]? = some f) {y : Int} (hy : plP p j f y) : (newWay p j f).live.getD (ixI p j f y).toNat false = true ↔ Rch (wR p j f) 0 y := by
 have hrng := ix_rng hy
 have hl : (newWay p j f).live = setAll (lstI 0 (reachB (graphE (cntL f.body + 2) ((newWay p j f).real.map (ixP p j f (cntL f.body + 2 : Nat)))).1 [0])) (List.replicate (cntL f.body + 2) false) := rfl
 rw [hl, setAll_get _ _ _ (by rw [List.length_replicate]; omega)]
 have h0 : (List.replicate (cntL f.body + 2) false).getD (ixI p j f y).toNat false = false := by
  rw [List.getD_eq_getElem?_getD, List.getElem?_replicate]
  split <;> rfl
 rw [h0]
 have hs := step_reach (F := (newWay p j f).real) (real_places h hj) hy
 unfold wR
 rw [← hs]
 constructor
 ·rintro (h1 | ⟨a, h1, h2⟩)
  ·cases h1
  ·have ha := lstI_mem _ _ _ h1
   rwa [show ixI p j f y = a by omega]
 ·exact fun h1 => .inr ⟨_, h1, rfl⟩
theorem live_len {p : Pg} (h : chkB p = true) {j : Nat} {f : Pr} (hj : p.procs[j]? = some f) (hk : ∀ u ∈ flL f.body, u.kind < 7) : (liveL (newWay p j f)).length = cntL f.body := by
 obtain ⟨h1, _⟩ := all_live h hj hk
 unfold liveL
 rw [List.length_map, List.filter_eq_self.2 fun i hi => ?_, List.length_range']
 ·show (((cntL f.body + 2 : Nat) : Int) - 2).toNat = _
  omega
 ·obtain ⟨q, hq, rfl⟩ := List.mem_range'.1 hi
  have hq : q < (((cntL f.body + 2 : Nat) : Int) - 2).toNat := hq
  have hm := (chk_parts h).1
  have hids := may_ids hm hj
  have hmem : ((offN p.procs j : Nat) : Int) + (1 + 1 * q : Nat) ∈ idsN (offN p.procs j) (cntL f.body) := idsN_has (by omega) (by omega)
  rw [← hids] at hmem
  obtain ⟨t, ht, hte⟩ := List.mem_map.1 hmem
  have hl := h1 t ht
  have hpl : plP p j f t.id := by
   unfold plP
   rw [hte]
   omega
  have := (live_iff h hj hpl).2 hl
  have e : (ixI p j f t.id).toNat = 1 + 1 * q := by
   unfold ixI indexI loI hiI
   rw [hte, if_neg (by omega), if_neg (by omega), if_pos (by omega)]
   omega
  rwa [e] at this
section
variable {p : Pg} {k : Nat} {f : Pr}
end
end Go.Ab
