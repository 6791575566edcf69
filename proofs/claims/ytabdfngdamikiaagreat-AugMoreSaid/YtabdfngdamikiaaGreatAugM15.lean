/- aug: whoever never jumps by goto comes to the exit. -/
import Derived.Test.YtabdfngdamikiaaGreatAugM14
set_option linter.unusedSimpArgs false
set_option linter.unusedVariables false
namespace Go.Ab
open Go.Proofs
/-- What is closed under a procedure's steps, in which nobody jumps by goto. -/
structure NoGo (sh : Sheet) (f : Pr) (lo hi : Nat) (T : Int → Prop) : Prop where
  cl : ∀ (k : Nat) (it : Item), lo ≤ k → k < hi → sh.l[k]? = some it → T it.s.id → it.s.kind ≠ 10 ∧ ∀ y ∈ goesI sh f it, T y
  id : ∀ (k : Nat) (it : Item), lo ≤ k → k < hi → sh.l[k]? = some it → it.s.id = (k : Int) + 1
  ld : ∀ (k : Nat) (it : Item), lo ≤ k → k < hi → sh.l[k]? = some it → it.s.kind = 7 ∨ it.s.kind = 8 → it.loop ≠ 0
  lp : ∀ (k : Nat) (it : Item), lo ≤ k → k < hi → sh.l[k]? = some it → it.loop = 0 ∨ ∃ u, sh.l[(it.loop - 1).toNat]? = some u
def escC (sh : Sheet) (T : Int → Prop) (nx lp : Int) : Prop := T nx ∨ T (-1) ∨ (lp ≠ 0 ∧ (T lp ∨ ∃ u, sh.l[(lp - 1).toNat]? = some u ∧ T u.next))
def atP (sh : Sheet) (n : Nat) (l : List Item) : Prop := ∀ (i : Nat) (it : Item), l[i]? = some it → sh.l[n + i]? = some it
theorem atP.left {sh : Sheet} {n : Nat} {a b : List Item} (h : atP sh n (a ++ b)) : atP sh n a := fun i it hi => h i it (by
  rw [List.getElem?_append_left (List.getElem?_eq_some_iff.1 hi).1]
  exact hi)
theorem atP.right {sh : Sheet} {n : Nat} {a b : List Item} (h : atP sh n (a ++ b)) : atP sh (n + a.length) b := fun i it hi => by
  rw [Nat.add_assoc]
  exact h (a.length + i) it (by rw [List.getElem?_append_right (by omega), Nat.add_sub_cancel_left]; exact hi)
theorem itL_hd (proc up nx lp : Int) (n : Nat) (v : S) (r : List S) : ∃ it ∈ itL proc up nx lp n (v :: r), it.s = v := by
  rw [itL, itS_eq]
  exact ⟨_, List.mem_append.2 (.inl List.mem_cons_self), rfl⟩
mutual
theorem escS {sh : Sheet} {f : Pr} {lo hi : Nat} {T : Int → Prop} (hT : NoGo sh f lo hi T) (proc : Int) : ∀ (t : S) (up nx lp : Int) (n : Nat), atP sh n (itS proc up nx lp n t) → lo ≤ n → n + cntS t ≤ hi → (∃ it ∈ itS proc up nx lp n t, T it.s.id) → escC sh T nx lp
  | .mk id kind labels name pr x has args thn els, up, nx, lp, n, hp, h1, h2, h3 => by
    rw [itS] at hp h3
    rw [cntS] at h2
    have hself : sh.l[n]? = some ⟨.mk id kind labels name pr x has args thn els, proc, up, nx, lp⟩ := hp 0 _ rfl
    have hcl := hT.cl n _ h1 (by omega) hself
    have hid := hT.id n _ h1 (by omega) hself
    have hld := hT.ld n _ h1 (by omega) hself
    have hlp := hT.lp n _ h1 (by omega) hself
    have hp1 : atP sh (n + 1) (itL proc (n + 1) (if kind = 6 then n + 1 else nx) (if kind = 6 then n + 1 else lp) (n + 1) thn ++ itL proc (n + 1) (if kind = 6 then n + 1 else nx) (if kind = 6 then n + 1 else lp) (n + 1 + cntL thn) els) := fun i it hi => by
      have := hp (i + 1) it (by simpa using hi)
      rwa [show n + (i + 1) = n + 1 + i by omega] at this
    have hw : kind = 6 → T ((n : Int) + 1) → T nx := fun hk h => by
      have h5 : T (S.mk id kind labels name pr x has args thn els).id := by
        rw [show (S.mk id kind labels name pr x has args thn els).id = (n : Int) + 1 from hid]
        exact h
      refine (hcl h5).2 nx ?_
      unfold goesI
      rw [if_neg (by show ¬ kind = 5; omega), if_pos (by exact hk)]
      simp
    have hin : escC sh T (if kind = 6 then ((n : Int) + 1) else nx) (if kind = 6 then ((n : Int) + 1) else lp) → escC sh T nx lp := fun h => by
      by_cases hk : kind = 6
      · rw [if_pos hk, if_pos hk] at h
        rcases h with h | h | ⟨_, h | ⟨u, hu, h⟩⟩
        · exact .inl (hw hk h)
        · exact .inr (.inl h)
        · exact .inl (hw hk h)
        · rw [show ((n : Int) + 1 - 1).toNat = n by omega, hself] at hu
          cases hu
          exact .inl h
      · rw [if_neg hk, if_neg hk] at h
        exact h
    have hthn : (∃ it ∈ itL proc (n + 1) (if kind = 6 then n + 1 else nx) (if kind = 6 then n + 1 else lp) (n + 1) thn, T it.s.id) → escC sh T nx lp := fun h =>
      hin (escL hT proc thn _ _ _ (n + 1) hp1.left (by omega) (by omega) h)
    obtain ⟨it, hit, hti⟩ := h3
    rcases List.mem_cons.1 hit with rfl | hit
    · obtain ⟨hk10, hgo⟩ := hcl hti
      have hk10 : kind ≠ 10 := hk10
      by_cases hk5 : kind = 5
      · cases thn with
        | nil =>
          refine .inl (hgo nx ?_)
          unfold goesI
          rw [if_pos (by exact hk5)]
          simp [headI, S.thn]
        | cons v r =>
          have : T v.id := by
            refine hgo v.id ?_
            unfold goesI
            rw [if_pos (by exact hk5)]
            simp [headI, S.thn]
          obtain ⟨iv, h5, h6⟩ := itL_hd proc (n + 1) (if kind = 6 then n + 1 else nx) (if kind = 6 then n + 1 else lp) (n + 1) v r
          exact hthn ⟨iv, h5, by rw [h6]; exact this⟩
      by_cases hk6 : kind = 6
      · refine .inl (hw hk6 ?_)
        rw [← show (S.mk id kind labels name pr x has args thn els).id = (n : Int) + 1 from hid]
        exact hti
      by_cases hk7 : kind = 7
      · have hl0 := hld (.inl hk7)
        rcases hlp with h5 | ⟨u, hu⟩
        · exact absurd h5 hl0
        · refine .inr (.inr ⟨hl0, .inr ⟨u, hu, hgo _ ?_⟩⟩)
          unfold goesI
          rw [if_neg (by exact hk5), if_neg (by exact hk6), if_pos (by exact hk7)]
          simp only at hu
          rw [hu]
          simp
      by_cases hk8 : kind = 8
      · refine .inr (.inr ⟨hld (.inr hk8), .inl (hgo _ ?_)⟩)
        unfold goesI
        rw [if_neg (by exact hk5), if_neg (by exact hk6), if_neg (by exact hk7), if_pos (by exact hk8)]
        simp
      by_cases hk9 : kind = 9
      · refine .inr (.inl (hgo _ ?_))
        unfold goesI
        rw [if_neg (by exact hk5), if_neg (by exact hk6), if_neg (by exact hk7), if_neg (by exact hk8), if_pos (by exact hk9)]
        simp
      · refine .inl (hgo _ ?_)
        unfold goesI
        rw [if_neg (by exact hk5), if_neg (by exact hk6), if_neg (by exact hk7), if_neg (by exact hk8), if_neg (by exact hk9), if_neg (by exact hk10)]
        simp
    · rcases List.mem_append.1 hit with hit | hit
      · exact hthn ⟨it, hit, hti⟩
      · have hp2 := hp1.right
        rw [itL_len] at hp2
        exact hin (escL hT proc els _ _ _ (n + 1 + cntL thn) hp2 (by omega) (by omega) ⟨it, hit, hti⟩)
theorem escL {sh : Sheet} {f : Pr} {lo hi : Nat} {T : Int → Prop} (hT : NoGo sh f lo hi T) (proc : Int) : ∀ (l : List S) (up nx lp : Int) (n : Nat), atP sh n (itL proc up nx lp n l) → lo ≤ n → n + cntL l ≤ hi → (∃ it ∈ itL proc up nx lp n l, T it.s.id) → escC sh T nx lp
  | [], up, nx, lp, n, hp, h1, h2, h3 => by
    rw [itL] at h3
    obtain ⟨it, hit, _⟩ := h3
    cases hit
  | t :: r, up, nx, lp, n, hp, h1, h2, h3 => by
    rw [itL] at hp h3
    rw [cntL] at h2
    have hp2 := hp.right
    rw [itS_len] at hp2
    have hr : (∃ it ∈ itL proc up nx lp (n + cntS t) r, T it.s.id) → escC sh T nx lp := fun h => escL hT proc r up nx lp (n + cntS t) hp2 (by omega) (by omega) h
    obtain ⟨it, hit, hti⟩ := h3
    rcases List.mem_append.1 hit with hit | hit
    · have h5 := escS hT proc t up _ lp n hp.left h1 (by omega) ⟨it, hit, hti⟩
      cases r with
      | nil => exact h5
      | cons v r =>
        rcases h5 with h5 | h5
        · refine hr ?_
          obtain ⟨iv, h6, h7⟩ : ∃ iv, (itL proc up nx lp (n + cntS t) (v :: r))[0]? = some iv ∧ iv.s = v := by
            rw [itL, itS_eq]
            exact ⟨_, rfl, rfl⟩
          have h8 := hp2 0 iv h6
          have h9 := hT.id (n + cntS t) iv (by omega) (by
            rw [cntL] at h2
            have : 1 ≤ cntS v := by cases v; rw [cntS]; omega
            omega) h8
          refine ⟨iv, List.mem_of_getElem? h6, ?_⟩
          rw [h9]
          simp only [List.isEmpty_cons] at h5
          have e : ((n + cntS t : Nat) : Int) + 1 = (n : Int) + 1 + cntS t := by omega
          rw [e]
          exact h5
        · exact .inr h5
    · exact hr ⟨it, hit, hti⟩
end
end Go.Ab
namespace Go.Ab
open Go.Proofs
theorem sheet_id {p : Pg} (h : chkB p = true) {j : Nat} {f : Pr} (hj : p.procs[j]? = some f) {k : Nat} {it : Item} (h1 : offN p.procs j ≤ k) (h2 : k < offN p.procs j + cntL f.body) (hk : (sheetOf p).l[k]? = some it) : it.s.id = (k : Int) + 1 := by
  obtain ⟨t, _, h4, h5⟩ := stAt_own h hj (a := (k : Int) + 1) (by omega) (by omega)
  unfold stAt at h4
  rw [show ((k : Int) + 1 - 1).toNat = k by omega, hk] at h4
  cases h4
  exact h5
theorem raw_go {p : Pg} {j : Nat} {f : Pr} {it : Item} (hi : it ∈ itsOf p j f) {y : Int} (hy : y ∈ goesI (sheetOf p) f it) : (⟨it.s.id, y, 1⟩ : Step) ∈ stepsRaw p j f := by
  unfold stepsRaw
  exact List.mem_cons_of_mem _ (List.mem_flatMap.2 ⟨it, hi, List.mem_map.2 ⟨y, hy, rfl⟩⟩)
/-- Whatever is closed under a procedure's steps, has a statement and none that jumps by goto, has the exit. -/
theorem proc_exit {p : Pg} (h : chkB p = true) {j : Nat} {f : Pr} (hj : p.procs[j]? = some f) {T : Int → Prop} (hcl : ∀ a b, T a → stR (newWay p j f).real a b → T b) (hgo : ∀ t ∈ flL f.body, T t.id → t.kind ≠ 10) {t : S} (ht : t ∈ flL f.body) (hT : T t.id) : T (-1) := by
  obtain ⟨hm, hs, _, hjm, _⟩ := chk_parts h
  have hld := jump_leads_all hs hjm hj
  obtain ⟨_, _, _, hlen, hsp⟩ := sheet_spec p
  obtain ⟨_, _, hle, hd⟩ := hsp j f hj
  have hits : ∀ (k : Nat) (it : Item), offN p.procs j ≤ k → k < offN p.procs j + cntL f.body → (sheetOf p).l[k]? = some it → it ∈ itsOf p j f := fun k it h1 h2 hk => by
    obtain ⟨it', h3, h4⟩ := sheet_its hj h1 h2
    rw [hk] at h3
    cases h3
    exact h4
  have hn : NoGo (sheetOf p) f (offN p.procs j) (offN p.procs j + cntL f.body) T := by
    refine ⟨fun k it h1 h2 hk hT => ?_, fun k it h1 h2 hk => sheet_id h hj h1 h2 hk, fun k it h1 h2 hk hkd => ?_, fun k it h1 h2 hk => ?_⟩
    · have hi := hits k it h1 h2 hk
      exact ⟨hgo _ (its_s hi) hT, fun y hy => hcl _ _ hT ⟨⟨it.s.id, y, 1⟩, ((real_spec h hj).2 _).2 (raw_go hi hy), rfl, rfl⟩⟩
    · have hl := hld it (hits k it h1 h2 hk)
      unfold leadsB at hl
      rw [if_pos hkd] at hl
      intro h0
      rw [h0] at hl
      cases hl
    · rcases (its_rng (hits k it h1 h2 hk)).2 with h0 | ⟨h3, h4⟩
      · exact .inl h0
      · have : (it.loop - 1).toNat < (sheetOf p).l.length := by omega
        exact .inr ⟨_, List.getElem?_eq_getElem this⟩
  obtain ⟨it, hit, hits2⟩ := it_of (p := p) (j := j) ht
  have hat : atP (sheetOf p) (offN p.procs j) (itL j 0 (-1) 0 (offN p.procs j) f.body) := fun i it hi => by
    rw [← hd, List.getElem?_drop, List.getElem?_take] at hi
    split at hi
    · exact hi
    · cases hi
  have := escL hn j f.body 0 (-1) 0 (offN p.procs j) hat (Nat.le_refl _) (Nat.le_refl _) ⟨it, hit, by rw [hits2]; exact hT⟩
  rcases this with h1 | h1 | ⟨h1, _⟩
  · exact h1
  · exact h1
  · exact absurd rfl h1
theorem openF_iff {n : Nat} {part : List Int} (hp : ∀ k, k < n → 0 ≤ part.getD k 0 ∧ part.getD k 0 < n) {i : Nat} (hi : i < n) : ∀ (l : List (Int × Int)) {o : List Bool}, o.length = n → (∀ t ∈ l, 0 ≤ t.1 ∧ t.1 < n) →
    ((l.foldl (openS part) o).getD i false = true ↔ o.getD i false = true ∨ ∃ t ∈ l, part.getD t.1.toNat 0 ≠ part.getD t.2.toNat 0 ∧ part.getD t.1.toNat 0 = i)
  | [], o, _, _ => by simp
  | t :: r, o, ho, hr => by
    rw [List.foldl_cons, openF_iff hp hi r (by rw [openS_len]; exact ho) fun u hu => hr u (List.mem_cons_of_mem _ hu)]
    have h1 := hr t List.mem_cons_self
    have h2 := hp t.1.toNat (by omega)
    have key : (openS part o t).getD i false = true ↔ o.getD i false = true ∨ (part.getD t.1.toNat 0 ≠ part.getD t.2.toNat 0 ∧ part.getD t.1.toNat 0 = i) := by
      unfold openS
      split
      · rename_i he
        constructor
        · exact .inl
        · rintro (h3 | ⟨h3, _⟩)
          · exact h3
          · exact absurd he h3
      · rename_i he
        rw [getD_set (by omega)]
        split
        · rename_i h3
          constructor
          · intro _
            exact .inr ⟨he, by omega⟩
          · intro _
            rfl
        · rename_i h3
          constructor
          · exact .inl
          · rintro (h4 | ⟨_, h4⟩)
            · exact h4
            · exact absurd (by omega) h3
    rw [key, or_assoc]
    constructor
    · rintro (h3 | ⟨h3, h4⟩ | ⟨u, hu, h3⟩)
      · exact .inl h3
      · exact .inr ⟨t, List.mem_cons_self, h3, h4⟩
      · exact .inr ⟨u, List.mem_cons_of_mem _ hu, h3⟩
    · rintro (h3 | ⟨u, hu, h3⟩)
      · exact .inl h3
      · rcases List.mem_cons.1 hu with rfl | hu
        · exact .inr (.inl h3)
        · exact .inr (.inr ⟨u, hu, h3⟩)
theorem open_iff {n : Nat} {part : List Int} (hn : 0 < n) (hp : ∀ k, k < n → 0 ≤ part.getD k 0 ∧ part.getD k 0 < n) {i : Nat} (hi : i < n) {l : List (Int × Int)} (hr : ∀ t ∈ l, 0 ≤ t.1 ∧ t.1 < n) :
    (openB n part l).getD i false = true ↔ part.getD 0 0 = i ∨ part.getD (n - 1) 0 = i ∨ ∃ t ∈ l, part.getD t.1.toNat 0 ≠ part.getD t.2.toNat 0 ∧ part.getD t.1.toNat 0 = i := by
  have h0 := hp 0 hn
  have h1 := hp (n - 1) (by omega)
  unfold openB
  rw [openF_iff hp hi l (by simp [open0]) hr]
  have key : (open0 n part).getD i false = true ↔ part.getD 0 0 = i ∨ part.getD (n - 1) 0 = i := by
    unfold open0
    rw [getD_set (by rw [List.length_set, List.length_replicate]; omega), getD_set (by rw [List.length_replicate]; omega)]
    split
    · exact ⟨fun _ => .inr (by omega), fun _ => rfl⟩
    · split
      · exact ⟨fun _ => .inl (by omega), fun _ => rfl⟩
      · have : (List.replicate n false).getD i false = false := by
          rw [List.getD_eq_getElem?_getD, List.getElem?_replicate]; split <;> rfl
        rw [this]
        constructor
        · intro h; cases h
        · rintro (h | h) <;> omega
  rw [key, or_assoc]
end Go.Ab
namespace Go.Ab
open Go.Proofs
section
variable {p : Pg} {j : Nat} {f : Pr}
theorem ix_place {i : Int} (h : 0 ≤ i ∧ i < (cntL f.body + 2 : Nat)) : plP p j f (placeI p j (cntL f.body + 2 : Nat) i) ∧ ixI p j f (placeI p j (cntL f.body + 2 : Nat) i) = i := by
  unfold placeI ixI indexI plP loI hiI
  constructor
  · (repeat' split) <;> omega
  · (repeat' split) <;> omega
theorem place_ix {x : Int} (h : plP p j f x) : placeI p j (cntL f.body + 2 : Nat) (ixI p j f x) = x := by
  have h1 := ix_place (p := p) (j := j) (f := f) (ix_rng h)
  exact ix_inj h1.1 h h1.2
theorem prs_new : prsW (newWay p j f) f = (newWay p j f).real.map (ixP p j f (cntL f.body + 2 : Nat)) := rfl
theorem prs_in (h : chkB p = true) (hj : p.procs[j]? = some f) : ∀ t ∈ prsW (newWay p j f) f, (0 ≤ t.1 ∧ t.1 < (cntL f.body + 2 : Nat)) ∧ 0 ≤ t.2 ∧ t.2 < (cntL f.body + 2 : Nat) := fun t ht => by
  rw [prs_new] at ht
  obtain ⟨s, hs, rfl⟩ := List.mem_map.1 ht
  obtain ⟨h1, h2⟩ := real_places h hj s hs
  exact ⟨ix_rng h1, ix_rng h2⟩
/-- The procedure's graph, by numbers. -/
def wE (p : Pg) (j : Nat) (f : Pr) : Int → Int → Prop := rowE (graphE (cntL f.body + 2) (prsW (newWay p j f) f)).1
def wR (p : Pg) (j : Nat) (f : Pr) : Int → Int → Prop := stR (newWay p j f).real
theorem E_iff (h : chkB p = true) (hj : p.procs[j]? = some f) {i k : Int} : wE p j f i k ↔ ∃ a b, wR p j f a b ∧ ixI p j f a = i ∧ ixI p j f b = k := by
  unfold wE wR
  rw [graph_rowE]
  constructor
  · rintro ⟨h1, _, _⟩
    rw [prs_new] at h1
    obtain ⟨s, hs, he⟩ := List.mem_map.1 h1
    exact ⟨s.src, s.dst, ⟨s, hs, rfl, rfl⟩, congrArg Prod.fst he, congrArg Prod.snd he⟩
  · rintro ⟨a, b, ⟨s, hs, rfl, rfl⟩, rfl, rfl⟩
    obtain ⟨h1, h2⟩ := real_places h hj s hs
    exact ⟨List.mem_map.2 ⟨s, hs, rfl⟩, hasB_of (ix_rng h1), hasB_of (ix_rng h2)⟩
theorem R_pl (h : chkB p = true) (hj : p.procs[j]? = some f) {a b : Int} (hr : wR p j f a b) : plP p j f a ∧ plP p j f b := by
  obtain ⟨s, hs, rfl, rfl⟩ := hr
  exact real_places h hj s hs
theorem rch_pl (h : chkB p = true) (hj : p.procs[j]? = some f) {a b : Int} (ha : plP p j f a) (hr : Rch (wR p j f) a b) : plP p j f b :=
  hr.closed (S := plP p j f) (fun _ _ _ h1 => (R_pl h hj h1).2) ha
theorem rch_ix (h : chkB p = true) (hj : p.procs[j]? = some f) {a b : Int} (ha : plP p j f a) (hb : plP p j f b) : Rch (wE p j f) (ixI p j f a) (ixI p j f b) ↔ Rch (wR p j f) a b := by
  constructor
  · intro hr
    obtain ⟨c, h1, h2, h3⟩ := hr.closed (S := fun k => ∃ c, plP p j f c ∧ ixI p j f c = k ∧ Rch (wR p j f) a c) (by
      rintro i k ⟨c, h1, h2, h3⟩ h4
      obtain ⟨x, y, h5, h6, h7⟩ := (E_iff h hj).1 h4
      have h8 := R_pl h hj h5
      have : x = c := ix_inj h8.1 h1 (by rw [h6, h2])
      subst this
      exact ⟨y, h8.2, h7, .tail h3 h5⟩) ⟨a, ha, rfl, .refl⟩
    rw [← ix_inj h1 hb h2]
    exact h3
  · intro hr
    exact (hr.closed (S := fun c => plP p j f c ∧ Rch (wE p j f) (ixI p j f a) (ixI p j f c)) (fun x y ⟨h1, h2⟩ h3 => ⟨(R_pl h hj h3).2, .tail h2 ((E_iff h hj).2 ⟨x, y, h3, rfl, rfl⟩)⟩) ⟨ha, .refl⟩).2
theorem scc_ix (h : chkB p = true) (hj : p.procs[j]? = some f) {a b : Int} (ha : plP p j f a) (hb : plP p j f b) : sccP (wE p j f) (ixI p j f a) (ixI p j f b) ↔ sccP (wR p j f) a b := by
  unfold sccP
  rw [rch_ix h hj ha hb, rch_ix h hj hb ha]
/-- A place's part. -/
def partI (p : Pg) (j : Nat) (f : Pr) (i : Int) : Int := (partW (newWay p j f) f).getD i.toNat 0
theorem partW_new : partW (newWay p j f) f = partR (cntL f.body + 2) (graphE (cntL f.body + 2) (prsW (newWay p j f) f)).1 := rfl
theorem part_min {i : Int} (hi : 0 ≤ i ∧ i < (cntL f.body + 2 : Nat)) : MinP (wE p j f) i (partI p j f i) := by
  unfold partI
  rw [partW_new]
  exact partR_spec (graphE_in _ _).1 hi
theorem part_rng {k : Nat} (hk : k < cntL f.body + 2) : 0 ≤ (partW (newWay p j f) f).getD k 0 ∧ (partW (newWay p j f) f).getD k 0 < (cntL f.body + 2 : Nat) := by
  rw [partW_new]
  exact partR_in (graphE_in _ _).1 hk
theorem part_len : (partW (newWay p j f) f).length = cntL f.body + 2 := by rw [partW_new, partR_len]
theorem MinP.same {E : Int → Int → Prop} {x y v : Int} (h : MinP E x v) (hs : sccP E x y) : MinP E y v := ⟨hs.symm.trans h.scc, fun z hz => h.le z (hs.trans hz)⟩
theorem part_iff {i k : Int} (hi : 0 ≤ i ∧ i < (cntL f.body + 2 : Nat)) (hk : 0 ≤ k ∧ k < (cntL f.body + 2 : Nat)) : partI p j f i = partI p j f k ↔ sccP (wE p j f) i k := by
  have h1 := part_min (p := p) (j := j) hi
  have h2 := part_min (p := p) (j := j) hk
  constructor
  · intro he
    rw [← he] at h2
    exact h1.scc.trans h2.scc.symm
  · intro hs
    exact (h1.same hs).uniq h2
theorem part_pl (h : chkB p = true) (hj : p.procs[j]? = some f) {a b : Int} (ha : plP p j f a) (hb : plP p j f b) : partI p j f (ixI p j f a) = partI p j f (ixI p j f b) ↔ sccP (wR p j f) a b := by
  rw [part_iff (ix_rng ha) (ix_rng hb), scc_ix h hj ha hb]
/-- A trap: a part out of which no step goes, without the entry and the exit. -/
structure TrapP (p : Pg) (j : Nat) (f : Pr) (l : List Int) (r : Int) : Prop where
  pl : plP p j f r
  mem : ∀ b, b ∈ l ↔ plP p j f b ∧ sccP (wR p j f) r b
  cl : ∀ b c, sccP (wR p j f) r b → wR p j f b c → sccP (wR p j f) r c
  n0 : ¬ sccP (wR p j f) r 0
  nx : ¬ sccP (wR p j f) r (-1)
theorem trapR_mem {plc : Int → Int} {part : List Int} {i q : Nat} {b : Int} : b ∈ trapR plc part i q ↔ ∃ k : Nat, k < q ∧ part.getD k 0 = i ∧ plc k = b := by
  unfold trapR
  constructor
  · intro h
    obtain ⟨k, hk, rfl⟩ := List.mem_map.1 h
    obtain ⟨h1, h2⟩ := List.mem_filter.1 hk
    exact ⟨k, List.mem_range.1 h1, beq_iff_eq.1 h2, rfl⟩
  · rintro ⟨k, h1, h2, rfl⟩
    exact List.mem_map.2 ⟨k, List.mem_filter.2 ⟨List.mem_range.2 h1, beq_iff_eq.2 h2⟩, rfl⟩
theorem ix0 : ixI p j f 0 = 0 := by unfold ixI indexI; rw [if_pos rfl]
theorem ix1 : ixI p j f (-1) = ((cntL f.body + 2 : Nat) : Int) - 1 := by unfold ixI indexI; rw [if_neg (by omega), if_pos rfl]
theorem pl0 : plP p j f 0 := .inl rfl
theorem pl1 : plP p j f (-1) := .inr (.inl rfl)
theorem part_nat (k : Nat) : (partW (newWay p j f) f).getD k 0 = partI p j f k := by
  unfold partI
  rw [Int.toNat_natCast]
theorem open_pl (h : chkB p = true) (hj : p.procs[j]? = some f) {i : Nat} (hi : i < cntL f.body + 2) : (openB (cntL f.body + 2) (partW (newWay p j f) f) (prsW (newWay p j f) f)).getD i false = true ↔
    partI p j f (ixI p j f 0) = i ∨ partI p j f (ixI p j f (-1)) = i ∨ ∃ a b, wR p j f a b ∧ ¬ sccP (wR p j f) a b ∧ partI p j f (ixI p j f a) = i := by
  rw [open_iff (by omega) (fun k hk => part_rng hk) hi fun t ht => (prs_in h hj t ht).1, ix0, ix1]
  have e1 : (partW (newWay p j f) f).getD (cntL f.body + 2 - 1) 0 = partI p j f (((cntL f.body + 2 : Nat) : Int) - 1) := by
    unfold partI
    congr 1
    omega
  have e0 : (partW (newWay p j f) f).getD 0 0 = partI p j f 0 := rfl
  rw [e0, e1]
  refine or_congr Iff.rfl (or_congr Iff.rfl ?_)
  constructor
  · rintro ⟨t, ht, h1, h2⟩
    rw [prs_new] at ht
    obtain ⟨s, hs, rfl⟩ := List.mem_map.1 ht
    obtain ⟨h3, h4⟩ := real_places h hj s hs
    exact ⟨s.src, s.dst, ⟨s, hs, rfl, rfl⟩, fun hsc => h1 ((part_pl h hj h3 h4).2 hsc), h2⟩
  · rintro ⟨a, b, ⟨s, hs, rfl, rfl⟩, h1, h2⟩
    obtain ⟨h3, h4⟩ := real_places h hj s hs
    exact ⟨ixP p j f (cntL f.body + 2 : Nat) s, by rw [prs_new]; exact List.mem_map.2 ⟨s, hs, rfl⟩, fun he => h1 ((part_pl h hj h3 h4).1 he), h2⟩
/-- The traps that are told, by the root. -/
theorem traps_mem {l : List Int} : l ∈ trapsW (newWay p j f) f ↔ ∃ i : Nat, i < cntL f.body + 2 ∧ partI p j f i = i ∧ (openB (cntL f.body + 2) (partW (newWay p j f) f) (prsW (newWay p j f) f)).getD i false = false ∧ l = trapR (placeI p j (cntL f.body + 2 : Nat)) (partW (newWay p j f) f) i (cntL f.body + 2) := by
  unfold trapsW trapL
  rw [part_len]
  constructor
  · intro hl
    obtain ⟨i, hi, rfl⟩ := List.mem_map.1 hl
    obtain ⟨h1, h2⟩ := List.mem_filter.1 hi
    unfold trapT at h2
    rw [Bool.and_eq_true, beq_iff_eq, Bool.not_eq_true', part_nat] at h2
    exact ⟨i, List.mem_range.1 h1, h2.1, h2.2, rfl⟩
  · rintro ⟨i, h1, h2, h3, rfl⟩
    refine List.mem_map.2 ⟨i, List.mem_filter.2 ⟨List.mem_range.2 h1, ?_⟩, rfl⟩
    unfold trapT
    rw [Bool.and_eq_true, beq_iff_eq, Bool.not_eq_true', part_nat]
    exact ⟨h2, h3⟩
theorem trap_mem (h : chkB p = true) (hj : p.procs[j]? = some f) {i : Nat} (hi : i < cntL f.body + 2) (hp : partI p j f i = i) (b : Int) :
    b ∈ trapR (placeI p j (cntL f.body + 2 : Nat)) (partW (newWay p j f) f) i (cntL f.body + 2) ↔ plP p j f b ∧ sccP (wR p j f) (placeI p j (cntL f.body + 2 : Nat) i) b := by
  obtain ⟨h1, h2⟩ := ix_place (p := p) (j := j) (f := f) (i := i) (by omega)
  rw [trapR_mem]
  constructor
  · rintro ⟨k, h3, h4, rfl⟩
    obtain ⟨h5, h6⟩ := ix_place (p := p) (j := j) (f := f) (i := k) (by omega)
    refine ⟨h5, (part_pl h hj h1 h5).1 ?_⟩
    rw [h2, h6, hp, ← part_nat, h4]
  · rintro ⟨h3, h4⟩
    have h5 := ix_rng h3
    refine ⟨(ixI p j f b).toNat, by omega, ?_, ?_⟩
    · rw [part_nat, show (((ixI p j f b).toNat : Nat) : Int) = ixI p j f b by omega, ← (part_pl h hj h1 h3).2 h4, h2, hp]
    · rw [show (((ixI p j f b).toNat : Nat) : Int) = ixI p j f b by omega, place_ix h3]
theorem trap_spec (h : chkB p = true) (hj : p.procs[j]? = some f) {l : List Int} (hl : l ∈ trapsW (newWay p j f) f) : ∃ r, TrapP p j f l r := by
  obtain ⟨i, hi, hp, ho, rfl⟩ := traps_mem.1 hl
  obtain ⟨h1, h2⟩ := ix_place (p := p) (j := j) (f := f) (i := i) (by omega)
  have ho2 : ¬ _ := fun hx => by
    have := (open_pl h hj hi).2 hx
    rw [ho] at this
    cases this
  have hpr : partI p j f (ixI p j f (placeI p j (cntL f.body + 2 : Nat) i)) = i := by rw [h2, hp]
  refine ⟨_, h1, trap_mem h hj hi hp, fun b c hb hbc => ?_, fun hs => ho2 (.inl ?_), fun hs => ho2 (.inr (.inl ?_))⟩
  · have h3 := R_pl h hj hbc
    by_cases hsc : sccP (wR p j f) b c
    · exact hb.trans hsc
    · refine absurd (.inr (.inr ⟨b, c, hbc, hsc, ?_⟩)) ho2
      rw [← (part_pl h hj h1 h3.1).2 hb, hpr]
  · rw [← (part_pl h hj h1 pl0).2 hs, hpr]
  · rw [← (part_pl h hj h1 pl1).2 hs, hpr]
end
end Go.Ab
namespace Go.Ab
open Go.Proofs
theorem real_len {p : Pg} {j : Nat} {f : Pr} (hj : p.procs[j]? = some f) (hcn : cntP p.procs ≤ 200) : (newWay p j f).real.length ≤ 100000 := by
  obtain ⟨_, _, _, hlen, hsp⟩ := sheet_spec p
  obtain ⟨_, _, hle, _⟩ := hsp j f hj
  have h9 := normS_len (stepsRaw p j f)
  have h10 := stepsRaw_len p j f
  show (normS (stepsRaw p j f)).length ≤ 100000
  omega
theorem nextR_ok {p : Pg} (h : chkB p = true) {j : Nat} {f : Pr} (hj : p.procs[j]? = some f) : ∀ it ∈ itsOf p j f, ∀ s ∈ fOf it, okSt s := fun it hi s hs => by
  obtain ⟨hm, _⟩ := chk_parts h
  obtain ⟨_, _, hcn⟩ := chk_cnt h
  obtain ⟨_, _, _, hlen, hsp⟩ := sheet_spec p
  obtain ⟨_, _, hle, _⟩ := hsp j f hj
  have h1 := body_id hm hj (its_s hi)
  have h2 := (its_rng hi).1
  unfold fOf at hs
  split at hs
  · rw [List.mem_singleton.1 hs]
    unfold okI at h2
    unfold okSt
    constructor
    · show it.s.id ≠ _
      omega
    · show it.next ≠ _
      omega
  · cases hs
theorem trap_row {p : Pg} (h : chkB p = true) {j : Nat} {f : Pr} (hj : p.procs[j]? = some f) {l : List Int} (hl : l ∈ trapsW (newWay p j f) f) : l.length ≤ cntL f.body + 2 ∧ ∀ id ∈ l, (offN p.procs j : Int) + 1 ≤ id ∧ id ≤ (offN p.procs j + cntL f.body : Nat) := by
  constructor
  · obtain ⟨i, _, _, _, rfl⟩ := traps_mem.1 hl
    exact trapR_len _ _ _ _
  · intro id hid
    obtain ⟨r, ht⟩ := trap_spec h hj hl
    obtain ⟨h1, h2⟩ := (ht.mem id).1 hid
    rcases h1 with rfl | rfl | h1
    · exact absurd h2 ht.n0
    · exact absurd h2 ht.nx
    · exact h1
theorem wayT {p : Pg} (h : chkB p = true) {j : Nat} {f : Pr} (hj : p.procs[j]? = some f) : WayT (newWay p j f) f (cntL f.body + 2) := by
  obtain ⟨_, _, hcn⟩ := chk_cnt h
  obtain ⟨_, _, _, hlen, hsp⟩ := sheet_spec p
  obtain ⟨_, _, hle, _⟩ := hsp j f hj
  refine ⟨rfl, hj, by show cntP p.procs ≤ 1000; omega, by omega, by omega, Nat.le_trans (real_len hj hcn) (by decide), prs_in h hj, ?_, fun l hl => ?_, fun s hs => (chk_way h hj).2.2 s (((real_spec h hj).2 s).1 hs), nextR_ok h hj⟩
  · have := trapL_len (placeI p j (cntL f.body + 2 : Nat)) (partW (newWay p j f) f) (openB (cntL f.body + 2) (partW (newWay p j f) f) (prsW (newWay p j f) f)) (cntL f.body + 2)
    have e : trapsW (newWay p j f) f = trapL (placeI p j (cntL f.body + 2 : Nat)) (partW (newWay p j f) f) (openB (cntL f.body + 2) (partW (newWay p j f) f) (prsW (newWay p j f) f)) (cntL f.body + 2) := by
      unfold trapsW
      rw [part_len]
      rfl
    rw [e]
    omega
  · obtain ⟨h1, h2⟩ := trap_row h hj hl
    refine ⟨by omega, fun id hid => ?_⟩
    have := h2 id hid
    show 1 ≤ id ∧ id ≤ (sheetOf p).l.length
    omega
def augO (p : Pg) (n : Str) : List Step := match wayO p n with
  | some w => (match w.p.procs[w.j]? with
    | some f => augW w f
    | none => [])
  | none => []
def dataO (p : Pg) (n : Str) : List Step := match wayO p n with
  | some w => (match w.p.procs[w.j]? with
    | some f => dataW w f
    | none => [])
  | none => []
def trapsO (p : Pg) (n : Str) : List (List Int) := match wayO p n with
  | some w => (match w.p.procs[w.j]? with
    | some f => trapsW w f
    | none => [])
  | none => []
theorem augO_some {p : Pg} {n : Str} {k : Nat} {f : Pr} (hw : wayO p n = some (newWay p k f)) (hk : p.procs[k]? = some f) : augO p n = augW (newWay p k f) f := by
  have h : (newWay p k f).p.procs[(newWay p k f).j]? = some f := hk
  unfold augO
  rw [hw]
  simp only
  rw [h]
theorem augO_none {p : Pg} {n : Str} (hw : wayO p n = none) : augO p n = [] := by
  unfold augO
  rw [hw]
theorem dataO_some {p : Pg} {n : Str} {k : Nat} {f : Pr} (hw : wayO p n = some (newWay p k f)) (hk : p.procs[k]? = some f) : dataO p n = dataW (newWay p k f) f := by
  have h : (newWay p k f).p.procs[(newWay p k f).j]? = some f := hk
  unfold dataO
  rw [hw]
  simp only
  rw [h]
theorem dataO_none {p : Pg} {n : Str} (hw : wayO p n = none) : dataO p n = [] := by
  unfold dataO
  rw [hw]
theorem trapsO_some {p : Pg} {n : Str} {k : Nat} {f : Pr} (hw : wayO p n = some (newWay p k f)) (hk : p.procs[k]? = some f) : trapsO p n = trapsW (newWay p k f) f := by
  have h : (newWay p k f).p.procs[(newWay p k f).j]? = some f := hk
  unfold trapsO
  rw [hw]
  simp only
  rw [h]
theorem trapsO_none {p : Pg} {n : Str} (hw : wayO p n = none) : trapsO p n = [] := by
  unfold trapsO
  rw [hw]
set_option maxRecDepth 100000 in
theorem aug_Of (p : Pg) (hf : Fit p) (n : Str) : SpecP Tryz.prog 43 [.agg p.cells, .str n] (fun r => r = eSteps (augO p n)) := by
  refine SpecP.body I_aug_Of tabOK Tryz.func43 rfl Tryz.call43 (by show 2 ≤ _; decide) ?_
  conv => whnf
  have hW := way_Of p hf n
  cases hw : wayO p n with
  | none =>
    rw [augO_none hw]
    rw [hw] at hW
    repeat' (refine CallK.pure hW (.cons (Sub.refl _) (.cons (Sub.refl _) .nil)) ?_; rintro _ rfl; conv => whnf)
    exact ⟨_, .p Sub.nils, rfl⟩
  | some w =>
    obtain ⟨k, f, hkj, rfl, hc, _⟩ := wayO_some hw
    have hw0 := hw
    rw [hw] at hW
    repeat' ((first | (refine CallK.pure hW (.cons (Sub.refl _) (.cons (Sub.refl _) .nil)) ?_; rintro _ rfl) | (refine CallK.pure (way_Way_Aug (newWay p k f) f (cntL f.body+2) (wayT hc hkj)) (.cons (Sub.refl _) .nil) ?_; rintro _ rfl)); conv => whnf)
    exact RetK.p (by rw [augO_some hw0 hkj])
set_option maxRecDepth 100000 in
theorem aug_Data (p : Pg) (hf : Fit p) (n : Str) : SpecP Tryz.prog 44 [.agg p.cells, .str n] (fun r => r = eSteps (dataO p n)) := by
  refine SpecP.body I_aug_Data tabOK Tryz.func44 rfl Tryz.call44 (by show 2 ≤ _; decide) ?_
  conv => whnf
  have hW := way_Of p hf n
  cases hw : wayO p n with
  | none =>
    rw [dataO_none hw]
    rw [hw] at hW
    repeat' (refine CallK.pure hW (.cons (Sub.refl _) (.cons (Sub.refl _) .nil)) ?_; rintro _ rfl; conv => whnf)
    exact ⟨_, .p Sub.nils, rfl⟩
  | some w =>
    obtain ⟨k, f, hkj, rfl, hc, _⟩ := wayO_some hw
    have hw0 := hw
    rw [hw] at hW
    repeat' ((first | (refine CallK.pure hW (.cons (Sub.refl _) (.cons (Sub.refl _) .nil)) ?_; rintro _ rfl) | (refine CallK.pure (way_Way_Data (newWay p k f) f (cntL f.body+2) (wayT hc hkj)) (.cons (Sub.refl _) .nil) ?_; rintro _ rfl)); conv => whnf)
    exact RetK.p (by rw [dataO_some hw0 hkj])
set_option maxRecDepth 100000 in
theorem aug_Traps (p : Pg) (hf : Fit p) (n : Str) : SpecP Tryz.prog 45 [.agg p.cells, .str n] (fun r => r = eMat (trapsO p n)) := by
  refine SpecP.body I_aug_Traps tabOK Tryz.func45 rfl Tryz.call45 (by show 2 ≤ _; decide) ?_
  conv => whnf
  have hW := way_Of p hf n
  cases hw : wayO p n with
  | none =>
    rw [trapsO_none hw]
    rw [hw] at hW
    repeat' (refine CallK.pure hW (.cons (Sub.refl _) (.cons (Sub.refl _) .nil)) ?_; rintro _ rfl; conv => whnf)
    exact ⟨_, .p Sub.nils, rfl⟩
  | some w =>
    obtain ⟨k, f, hkj, rfl, hc, _⟩ := wayO_some hw
    have hw0 := hw
    have hT := wayT hc hkj
    rw [hw] at hW
    repeat' ((first | (refine CallK.pure hW (.cons (Sub.refl _) (.cons (Sub.refl _) .nil)) ?_; rintro _ rfl) | (refine CallK.pure (way_Way_Traps (newWay p k f) f (cntL f.body+2) hT.hw hT.hj hT.hc hT.hn hT.hn2 hT.hlen hT.hr) (.cons (Sub.refl _) .nil) ?_; rintro _ rfl)); conv => whnf)
    exact RetK.p (by rw [trapsO_some hw0 hkj])
set_option maxRecDepth 100000 in
theorem whittlerlaw16_small (p : Pg) (hf : Fit p) (most : Int) : SpecP Tryz.prog 46 [.agg p.cells, .int .i64 most] (fun r => r = .bool (smallB p most)) := by
  refine SpecP.body I_whittlerlaw16_small tabOK Tryz.func46 rfl Tryz.call46 (by show 2 ≤ _; decide) ?_
  conv => whnf
  have hC := check_May p hf
  unfold smallB
  cases hc : chkB p with
  | false =>
    rw [hc] at hC
    repeat' (first | (refine CallK.pure hC (.cons (Sub.refl _) .nil) ?_; rintro _ rfl; conv => whnf) | (refine Br.b (fun _ => ?_) (fun _ => ?_) <;> conv => whnf))
    all_goals first
      | contradiction
      | exact RetK.ff rfl
  | true =>
    rw [hc] at hC
    have hcn := (chk_cnt hc).2.2
    repeat' (first | ((first | (refine CallK.pure hC (.cons (Sub.refl _) .nil) ?_; rintro _ rfl) | (refine CallK.pure (tree_Count p (by omega)) (.cons (Sub.refl _) .nil) ?_; rintro _ rfl)); conv => whnf) | (refine Br.b (fun _ => ?_) (fun _ => ?_) <;> conv => whnf))
    all_goals first
      | contradiction
      | exact RetK.bool (by simp)
end Go.Ab
namespace Go.Ab
open Go.Proofs
instance (a b : Step) : Decidable (ltSt a b) := inferInstanceAs (Decidable (_ ∨ _))
instance : DecidableEq Step := fun a b => decidable_of_iff (a.src = b.src ∧ a.dst = b.dst ∧ a.kind = b.kind) ⟨fun h => Step.eq_of h.1 h.2.1 h.2.2, fun h => by rw [h]; exact ⟨rfl, rfl, rfl⟩⟩
theorem same_of {a b : Step} (ha : okSt a) (hb : okSt b) (h : stepLt b a = false) : (a.src = b.src ∧ a.dst = b.dst ∧ a.kind ≤ b.kind) ∨ ltSt a b := by
  rw [Bool.eq_false_iff, ne_eq, stepLt_iff] at h
  unfold ltSt
  by_cases h1 : rankI a.src = rankI b.src
  · by_cases h2 : rankI a.dst = rankI b.dst
    · exact .inl ⟨rankI_inj ha.1 hb.1 h1, rankI_inj ha.2 hb.2 h2, by omega⟩
    · exact .inr (by omega)
  · exact .inr (by omega)
theorem compFrom_gen : ∀ (l : List Step) (a : Step), okSt a → (∀ s ∈ l, okSt s) → (a :: l).Pairwise (fun a b => stepLt b a = false) →
    (∀ s ∈ compFrom a l, ltSt a s) ∧ (compFrom a l).Pairwise ltSt ∧ (∀ s ∈ compFrom a l, s ∈ l) ∧ ∀ s ∈ l, (s.src = a.src ∧ s.dst = a.dst ∧ a.kind ≤ s.kind) ∨ ∃ s' ∈ compFrom a l, s'.src = s.src ∧ s'.dst = s.dst ∧ s'.kind ≤ s.kind
  | [], a, _, _, _ => by simp [compFrom]
  | b :: r, a, ha, hl, h => by
    have hb := hl b List.mem_cons_self
    have hr : ∀ s ∈ r, okSt s := fun s hs => hl s (List.mem_cons_of_mem _ hs)
    rw [List.pairwise_cons] at h
    obtain ⟨h1, h2⟩ := h
    obtain ⟨i1, i2, i3, i4⟩ := compFrom_gen r b hb hr h2
    have hab := same_of ha hb (h1 b List.mem_cons_self)
    rw [compFrom]
    cases hs : sameStep b a with
    | true =>
      unfold sameStep at hs
      simp only [Bool.and_eq_true, decide_eq_true_eq] at hs
      have hk : a.kind ≤ b.kind := by
        rcases hab with h3 | h3
        · exact h3.2.2
        · unfold ltSt at h3
          rw [hs.1, hs.2] at h3
          omega
      rw [cond_true]
      refine ⟨fun s hs' => ?_, i2, fun s hs' => List.mem_cons_of_mem _ (i3 s hs'), fun s hs' => ?_⟩
      · have := i1 s hs'
        unfold ltSt at this ⊢
        rwa [← hs.1, ← hs.2]
      · rcases List.mem_cons.1 hs' with rfl | hs'
        · exact .inl ⟨hs.1, hs.2, hk⟩
        · rcases i4 s hs' with ⟨h3, h4, h5⟩ | h3
          · exact .inl ⟨by rw [h3, hs.1], by rw [h4, hs.2], by omega⟩
          · exact .inr h3
    | false =>
      have hlt : ltSt a b := by
        rcases hab with h3 | h3
        · unfold sameStep at hs
          simp [h3.1, h3.2.1] at hs
        · exact h3
      rw [cond_false]
      refine ⟨fun s hs' => ?_, List.pairwise_cons.2 ⟨i1, i2⟩, fun s hs' => ?_, fun s hs' => ?_⟩
      · rcases List.mem_cons.1 hs' with rfl | hs'
        · exact hlt
        · exact ltSt_trans hlt (i1 s hs')
      · rcases List.mem_cons.1 hs' with rfl | hs'
        · exact List.mem_cons_self
        · exact List.mem_cons_of_mem _ (i3 s hs')
      · rcases List.mem_cons.1 hs' with rfl | hs'
        · exact .inr ⟨s, List.mem_cons_self, rfl, rfl, Int.le_refl _⟩
        · rcases i4 s hs' with ⟨h3, h4, h5⟩ | ⟨s', h3, h4⟩
          · exact .inr ⟨b, List.mem_cons_self, h3.symm, h4.symm, h5⟩
          · exact .inr ⟨s', List.mem_cons_of_mem _ h3, h4⟩
theorem normS_gen {l : List Step} (hok : ∀ s ∈ l, okSt s) : (normS l).Pairwise ltSt ∧ (∀ s ∈ normS l, s ∈ l) ∧ ∀ s ∈ l, ∃ s' ∈ normS l, s'.src = s.src ∧ s'.dst = s.dst ∧ s'.kind ≤ s.kind := by
  have hp : ∀ s, s ∈ sortSt l ↔ s ∈ l := fun s => (sortSt_perm l).mem_iff
  have hs := sortSt_sorted l
  unfold normS
  cases hq : sortSt l with
  | nil =>
    rw [hq] at hp
    refine ⟨by simp [compF], by simp [compF], fun s hs => ?_⟩
    have := (hp s).2 hs
    cases this
  | cons a r =>
    rw [hq] at hp hs
    have hok' : ∀ s ∈ a :: r, okSt s := fun s h => hok s ((hp s).1 h)
    obtain ⟨h1, h2, h3, h4⟩ := compFrom_gen r a (hok' a List.mem_cons_self) (fun s h => hok' s (List.mem_cons_of_mem _ h)) hs
    rw [compF]
    refine ⟨List.pairwise_cons.2 ⟨h1, h2⟩, fun s hs' => ?_, fun s hs' => ?_⟩
    · rcases List.mem_cons.1 hs' with rfl | hs'
      · exact (hp s).1 List.mem_cons_self
      · exact (hp s).1 (List.mem_cons_of_mem _ (h3 s hs'))
    · rcases List.mem_cons.1 ((hp s).2 hs') with rfl | hs'
      · exact ⟨s, List.mem_cons_self, rfl, rfl, Int.le_refl _⟩
      · rcases h4 s hs' with ⟨h5, h6, h7⟩ | ⟨s', h5, h6⟩
        · exact ⟨a, List.mem_cons_self, h5.symm, h6.symm, h7⟩
        · exact ⟨s', List.mem_cons_of_mem _ h5, h6⟩
theorem lt_uniq {l : List Step} (h : l.Pairwise ltSt) {a b : Step} (ha : a ∈ l) (hb : b ∈ l) (h1 : a.src = b.src) (h2 : a.dst = b.dst) : a = b := by
  have hn : ∀ {x y : Step}, x.src = y.src → x.dst = y.dst → ¬ ltSt x y := fun {x y} e1 e2 hlt => by
    unfold ltSt at hlt
    rw [e1, e2] at hlt
    omega
  induction h with
  | nil => cases ha
  | @cons c r hc hr ih =>
    rcases List.mem_cons.1 ha with e1 | ha'
    · rcases List.mem_cons.1 hb with e2 | hb'
      · rw [e1, e2]
      · exact absurd (hc b hb') (by rw [← e1]; exact hn h1 h2)
    · rcases List.mem_cons.1 hb with e2 | hb'
      · exact absurd (hc a ha') (by rw [← e2]; exact hn h1.symm h2.symm)
      · exact ih ha' hb'
theorem normS_eq {l m : List Step} (hok : ∀ s ∈ l, okSt s) (h1 : m.Pairwise ltSt) (h2 : ∀ s ∈ m, s ∈ l) (h3 : ∀ s ∈ l, ∃ s' ∈ m, s'.src = s.src ∧ s'.dst = s.dst ∧ s'.kind ≤ s.kind) : normS l = m := by
  obtain ⟨g1, g2, g3⟩ := normS_gen hok
  refine sorted_ext g1 h1 fun s => ⟨fun hs => ?_, fun hs => ?_⟩
  · obtain ⟨a, ha, h4, h5, h6⟩ := h3 s (g2 s hs)
    obtain ⟨b, hb, h7, h8, h9⟩ := g3 a (h2 a ha)
    have := lt_uniq g1 hb hs (h7.trans h4) (h8.trans h5)
    subst this
    have : a = b := Step.eq_of h4 h5 (by omega)
    rw [← this]
    exact ha
  · obtain ⟨a, ha, h4, h5, h6⟩ := g3 s (h2 s hs)
    obtain ⟨b, hb, h7, h8, h9⟩ := h3 a (g2 a ha)
    have := lt_uniq h1 hb hs (h7.trans h4) (h8.trans h5)
    subst this
    have : a = b := Step.eq_of h4 h5 (by omega)
    rw [← this]
    exact ha
end Go.Ab
namespace Go.Ab
open Go.Proofs
theorem real1 : (newWay someP 1 f1).real = [⟨0, 5, 1⟩, ⟨5, 6, 1⟩, ⟨6, 7, 1⟩, ⟨6, 8, 1⟩, ⟨7, -1, 1⟩, ⟨8, -1, 1⟩] := norm1
theorem real0 : (newWay someP 0 f0).real = [⟨0, 1, 1⟩, ⟨1, 2, 1⟩, ⟨2, 3, 1⟩, ⟨3, 4, 1⟩, ⟨4, -1, 1⟩] := norm0
theorem prs1 : prsW (newWay someP 1 f1) f1 = [(0, 1), (1, 2), (2, 3), (2, 4), (3, 5), (4, 5)] := by
  unfold prsW
  rw [real1]
  kernel_rfl
theorem prs0 : prsW (newWay someP 0 f0) f0 = [(0, 1), (1, 2), (2, 3), (3, 4), (4, 5)] := by
  unfold prsW
  rw [real0]
  kernel_rfl
theorem traps1 : trapsW (newWay someP 1 f1) f1 = [] := by
  unfold trapsW partW
  rw [prs1]
  kernel_rfl
theorem traps0 : trapsW (newWay someP 0 f0) f0 = [] := by
  unfold trapsW partW
  rw [prs0]
  kernel_rfl
theorem aug1 : augW (newWay someP 1 f1) f1 = [⟨0, 5, 1⟩, ⟨0, -1, 2⟩, ⟨5, 6, 1⟩, ⟨6, 7, 1⟩, ⟨6, 8, 1⟩, ⟨7, 8, 2⟩, ⟨7, -1, 1⟩, ⟨8, -1, 1⟩] := by
  have h1 : augRaw (newWay someP 1 f1) f1 = [⟨0, 5, 1⟩, ⟨5, 6, 1⟩, ⟨6, 7, 1⟩, ⟨6, 8, 1⟩, ⟨7, -1, 1⟩, ⟨8, -1, 1⟩, ⟨0, -1, 2⟩, ⟨7, 8, 2⟩, ⟨8, -1, 2⟩] := by
    unfold augRaw virtW
    rw [traps1, real1]
    kernel_rfl
  unfold augW
  rw [h1]
  exact normS_eq (by unfold okSt; decide) (by decide) (by decide) (by decide)
theorem aug0 : augW (newWay someP 0 f0) f0 = [⟨0, 1, 1⟩, ⟨0, -1, 2⟩, ⟨1, 2, 1⟩, ⟨2, 3, 1⟩, ⟨3, 4, 1⟩, ⟨4, -1, 1⟩] := by
  have h1 : augRaw (newWay someP 0 f0) f0 = [⟨0, 1, 1⟩, ⟨1, 2, 1⟩, ⟨2, 3, 1⟩, ⟨3, 4, 1⟩, ⟨4, -1, 1⟩, ⟨0, -1, 2⟩] := by
    unfold augRaw virtW
    rw [traps0, real0]
    kernel_rfl
  unfold augW
  rw [h1]
  exact normS_eq (by unfold okSt; decide) (by decide) (by decide) (by decide)
theorem data1 : dataW (newWay someP 1 f1) f1 = [⟨0, 5, 1⟩, ⟨5, 6, 1⟩, ⟨6, 7, 1⟩, ⟨6, 8, 1⟩, ⟨7, -1, 1⟩, ⟨8, -1, 1⟩] := by
  unfold dataW virtW
  rw [traps1, real1]
  exact normS_eq (by unfold okSt; decide) (by decide) (by decide) (by decide)
theorem some_way0 : wayO someP [109, 97, 105, 110] = some (newWay someP 0 f0) := by
  unfold wayO
  rw [some_chk]
  rfl
set_option maxHeartbeats 2000000 in
set_option maxRecDepth 100000 in
theorem whittlerlaw16_more : SpecP Tryz.prog 42 [] (fun r => r = .tt) := by
  have hA := aug_Of someP some_fit [112]
  rw [augO_some (f := f1) some_way rfl, aug1] at hA
  have hM := aug_Of someP some_fit [109, 97, 105, 110]
  rw [augO_some (f := f0) some_way0 rfl, aug0] at hM
  have hD := aug_Data someP some_fit [112]
  rw [dataO_some (f := f1) some_way rfl, data1] at hD
  refine SpecP.body I_whittlerlaw16_more tabOK Tryz.func42 rfl Tryz.call42 (by show 0 ≤ _; decide) ?_
  conv => whnf
  repeat' (first | ((first | (intro (_ : _ ≤ 9223372036854775807)) | (refine And.intro rfl ?_) | (refine CallK.pure whittlerref3_Some .nil ?_; rintro _ rfl) | (refine CallK.pure hA (.cons (Sub.refl _) (.cons (Sub.refl _) .nil)) ?_; rintro _ rfl) | (refine CallK.pure hM (.cons (Sub.refl _) (.cons (Sub.refl _) .nil)) ?_; rintro _ rfl) | (refine CallK.pure hD (.cons (Sub.refl _) (.cons (Sub.refl _) .nil)) ?_; rintro _ rfl)); conv => whnf) | (refine Br.dec (fun _ => ?_) (fun _ => ?_) <;> first | (exfalso; omega) | conv => whnf))
  · refine IdxK.at (k := 1) (e := .agg (Step.mk 0 (-1) 2).cells) rfl rfl rfl ?_
    conv => whnf
    skip
    all_goals first
      | exact RetK.tt rfl
      | exact ⟨_, .p (Sub.tt' rfl), rfl⟩
      | (rename_i h; exact absurd rfl h)
      | trace_state
  all_goals
    rename_i h
    exact absurd rfl h
end Go.Ab
namespace Go.Ab
open Go.Proofs
/-- In a trap somebody jumps by goto. -/
theorem trap_goto {p : Pg} (h : chkB p = true) {j : Nat} {f : Pr} (hj : p.procs[j]? = some f) {r : Int} (hr : plP p j f r) (hcl : ∀ b c, sccP (wR p j f) r b → wR p j f b c → sccP (wR p j f) r c) (h0 : ¬ sccP (wR p j f) r 0) (hx : ¬ sccP (wR p j f) r (-1)) : ∃ t ∈ flL f.body, sccP (wR p j f) r t.id ∧ t.kind = 10 := by
  refine Classical.byContradiction fun hno => hx ?_
  have hrr : (offN p.procs j : Int) + 1 ≤ r ∧ r ≤ (offN p.procs j + cntL f.body : Nat) := by
    rcases hr with rfl | rfl | h1
    · exact absurd (sccP.refl 0) h0
    · exact absurd (sccP.refl (-1)) hx
    · exact h1
  obtain ⟨t, ht, _, hti⟩ := stAt_own h hj hrr.1 hrr.2
  exact proc_exit h hj (T := fun y => sccP (wR p j f) r y) (fun a b ha hab => hcl a b ha hab) (fun u hu hs hk => hno ⟨u, hu, hs, hk⟩) ht (by rw [hti]; exact sccP.refl r)
theorem stAt_id {p : Pg} (h : chkB p = true) {j : Nat} {f : Pr} (hj : p.procs[j]? = some f) {t : S} (ht : t ∈ flL f.body) : stAt p t.id = some t := by
  have hb := body_id (chk_parts h).1 hj ht
  obtain ⟨u, hu, h1, h2⟩ := stAt_own h hj hb.1 hb.2
  obtain ⟨it, hi, rfl⟩ := it_of (p := p) (j := j) ht
  obtain ⟨iu, hiu, rfl⟩ := it_of (p := p) (j := j) hu
  rw [it_inj (chk_parts h).1 hj hiu hi h2] at h1
  exact h1
theorem virt_mem {p : Pg} (h : chkB p = true) {j : Nat} {f : Pr} (hj : p.procs[j]? = some f) {s : Step} : s ∈ virtW (newWay p j f) f ↔ ∃ l ∈ trapsW (newWay p j f) f, ∃ t ∈ flL f.body, t.id ∈ l ∧ t.kind = 10 ∧ s = ⟨t.id, -1, 3⟩ := by
  unfold virtW
  constructor
  · intro hs
    obtain ⟨l, hl, hs⟩ := List.mem_flatMap.1 hs
    obtain ⟨id, hid, hs⟩ := List.mem_flatMap.1 hs
    have hb := (trap_row h hj hl).2 id hid
    obtain ⟨t, ht, h1, h2⟩ := stAt_own h hj hb.1 hb.2
    have e : (newWay p j f).p = p := rfl
    unfold vOf at hs
    rw [e, h1] at hs
    simp only at hs
    split at hs
    · rename_i hk
      exact ⟨l, hl, t, ht, by rw [h2]; exact hid, hk, by rw [h2]; simpa using hs⟩
    · cases hs
  · rintro ⟨l, hl, t, ht, hid, hk, rfl⟩
    refine List.mem_flatMap.2 ⟨l, hl, List.mem_flatMap.2 ⟨t.id, hid, ?_⟩⟩
    have e : (newWay p j f).p = p := rfl
    unfold vOf
    rw [e, stAt_id h hj ht]
    simp [hk]
theorem data_ok {p : Pg} (h : chkB p = true) {j : Nat} {f : Pr} (hj : p.procs[j]? = some f) : ∀ s ∈ virtW (newWay p j f) f ++ (newWay p j f).real, okSt s := fun s hs =>
  (List.mem_append.1 hs).elim ((wayT h hj).virt_ok s) ((wayT h hj).hok s)
theorem data_len {p : Pg} (h : chkB p = true) {j : Nat} {f : Pr} (hj : p.procs[j]? = some f) : (dataW (newWay p j f) f).length ≤ 200000 := by
  obtain ⟨_, _, hcn⟩ := chk_cnt h
  obtain ⟨_, _, _, hlen, hsp⟩ := sheet_spec p
  obtain ⟨_, _, hle, _⟩ := hsp j f hj
  obtain ⟨h1, h2, _⟩ := normS_gen (data_ok h hj)
  have h3 := nodup_len (l := dataW (newWay p j f) f) (m := (newWay p j f).real ++ (idsN (offN p.procs j) (cntL f.body)).map fun id => ⟨id, -1, 3⟩) (lt_nodup h1) fun s hs => by
    rcases List.mem_append.1 (h2 s hs) with h4 | h4
    · obtain ⟨l, hl, t, ht, hid, hk, rfl⟩ := (virt_mem h hj).1 h4
      have hb := body_id (chk_parts h).1 hj ht
      exact List.mem_append.2 (.inr (List.mem_map.2 ⟨t.id, idsN_has hb.1 hb.2, rfl⟩))
    · exact List.mem_append.2 (.inl h4)
  rw [List.length_append, List.length_map] at h3
  have h4 := real_len hj hcn
  have h5 : (idsN (offN p.procs j) (cntL f.body)).length = cntL f.body := by unfold idsN; simp
  omega
end Go.Ab
namespace Go.Ab
open Go.Proofs
theorem procAt_way {p : Pg} (h : chkB p = true) (n : Int) : ∃ (k : Nat) (f : Pr), p.procs[k]? = some f ∧ wayO p (procAtR p n) = some (newWay p k f) ∧ procR p (procAtR p n) = (f, true) := by
  have hne : 0 < p.procs.length := by
    obtain ⟨_, hb, _⟩ := scope_ok (chk_parts h).2.1
    cases hp : p.procs with
    | nil =>
      unfold mainBad procsN at hb
      rw [hp] at hb
      simp at hb
    | cons a r => simp
  have hr := modI_rng (n := n) (k := p.procs.length) (by omega)
  have hlt : (modI n p.procs.length).toNat < p.procs.length := by omega
  have e : procAtR p n = (p.procs[(modI n p.procs.length).toNat]).name := by unfold procAtR; rw [List.getElem?_eq_getElem hlt]
  cases hw : wayO p (procAtR p n) with
  | none =>
    exfalso
    unfold wayO at hw
    rw [h, cond_true] at hw
    cases hf : p.procs.find? (fun f => f.name == procAtR p n) with
    | none =>
      have := List.find?_eq_none.1 hf _ (List.getElem_mem hlt)
      simp [e] at this
    | some g => rw [hf] at hw; cases hw
  | some w =>
    obtain ⟨k, f, hkj, rfl, _, hfn, hfind⟩ := wayO_some hw
    exact ⟨k, f, hkj, rfl, by unfold procR; rw [hfind]⟩
theorem stR_fr {L : List Step} {x : Int} {a b : Int} (h : Rch (stR L) a b) : Rch (frR L x []) a b := h.mono fun _ _ ⟨s, hs, h1, h2⟩ => ⟨.inr rfl, s, hs, h1, h2⟩
theorem fr_stR {L : List Step} {x : Int} {a b : Int} (h : Rch (frR L x []) a b) : Rch (stR L) a b := h.mono fun _ _ ⟨_, s, hs, h1, h2⟩ => ⟨s, hs, h1, h2⟩
theorem flat_pl {p : Pg} (h : chkB p = true) {j : Nat} {f : Pr} (hj : p.procs[j]? = some f) {x : RI} (hx : x ∈ flatR f) : x.s ∈ flL f.body := by
  rw [flatR_eq (chk_parts h).1 (List.mem_of_getElem? hj)] at hx
  rw [← show (flatU f).map RI.s = flL f.body from fuL_s 1 0 false f.body]
  exact List.mem_map.2 ⟨x, hx, rfl⟩
set_option maxRecDepth 100000 in
theorem whittlerlaw16_has (l : List Int) (x : Int) : SpecP Tryz.prog 47 [eInts l, .int .i64 x] (fun r => r = .bool (hasI l x)) := by
  refine SpecP.body I_whittlerlaw16_has tabOK Tryz.func47 rfl Tryz.call47 (by show 2 ≤ _; decide) ?_
  conv => whnf
  repeat' (intro (_ : _ ≤ 9223372036854775807); conv => whnf)
  have hl : (l.map (AV.int .i64)).length = l.length := List.length_map _
  refine LoopK.inv tabOK (fun j : Nat => ⟨[(1, .p (.int .i64 x)), (7, .p (eInts l)), (8, .p (.int .i64 (l.map (AV.int .i64)).length)), (9, .p (.int .i64 j))], []⟩) (fun j => j ≤ l.length ∧ (l.drop j).any (fun y => decide (x = y)) = hasI l x) (fun j => l.length - j) 0 (Le.of_eq rfl) ⟨Nat.zero_le _, rfl⟩ ?_
  rintro j ⟨h2, h3⟩
  rcases Nat.lt_or_ge j l.length with hj | hj
  · conv => whnf
    repeat' (first | ((first | (refine IdxK.map (by omega) (fun _ => rfl) ?_) | (refine Wr.i64 (by omega) (by omega) ?_)); conv => whnf) | (refine Br.dec (fun _ => ?_) (fun _ => ?_) <;> first | (exfalso; omega) | conv => whnf))
    · exact RetK.tt (by rw [← h3, any_yes hj (by simpa using by assumption)])
    · exact ⟨j + 1, ⟨hj, by rw [any_no hj (by simpa using by assumption)]; exact h3⟩, by omega, Le.of_eq rfl⟩
  · conv => whnf
    repeat' (refine Br.dec (fun _ => ?_) (fun _ => ?_) <;> first | (exfalso; omega) | conv => whnf)
    exact RetK.ff (by rw [← h3, any_end hj])
end Go.Ab
namespace Go.Ab
open Go.Proofs
def RI0 : RI := ⟨.mk 0 0 [] [] [] (.mk 0 0 [] []) false [] [] [], 0, 0, false⟩
def findF (id : Int) (f : Pr) : Option (RI × Str) := ((flatR f).find? fun x => decide (x.s.id = id)).map fun x => (x, f.name)
def findR (p : Pg) (id : Int) : Option (RI × Str) := p.procs.findSome? (findF id)
def findO (p : Pg) (id : Int) : RI × Str × Bool := match findR p id with
  | some (x, n) => (x, n, true)
  | none => (RI0, [], false)
theorem sub_RI0 : Sub (.agg [.int .i64 0, .int .i64 0, .nils, .str [], .str [], .int .i64 0, .int .i64 0, .str [], .nils, .ff, .nils, .nils, .nils, .int .i64 0, .int .i64 0, .ff]) (.agg RI0.cells) :=
  Sub.agg (by repeat' (first | exact SubL.nil | refine SubL.cons ?_ ?_ | exact Sub.nils | exact Sub.ff rfl | exact Sub.refl _))
theorem drop_find {l : List RI} {q : RI → Bool} {k : Nat} (hk : k < l.length) : (l.drop k).find? q = if q l[k] then some l[k] else (l.drop (k + 1)).find? q := by
  rw [drop_cons hk, List.find?_cons]
  cases q l[k] <;> rfl
set_option maxHeartbeats 4000000 in
set_option maxRecDepth 100000 in
theorem whittlerref6_Find (p : Pg) (id : Int) : SpecP Tryz.prog 83 [.agg p.cells, .int .i64 id] (fun r => r = .tup [.agg (findO p id).1.cells, .str (findO p id).2.1, .bool (findO p id).2.2]) := by
  refine SpecP.body I_whittlerref6_Find tabOK Tryz.func83 rfl Tryz.call83 (by show 2 ≤ _; decide) ?_
  conv => whnf
  have hpl : (p.procs.map fun f => AV.agg f.cells).length = p.procs.length := List.length_map _
  repeat' (intro (_ : _ ≤ 9223372036854775807); conv => whnf)
  refine LoopK.inv tabOK (fun j : Nat => ⟨[(1, .p (.int .i64 id)), (4, .ptr 1 0), (12, .p (.sl (p.procs.map fun f => .agg f.cells))), (13, .p (.int .i64 (p.procs.map fun f => AV.agg f.cells).length)), (14, .p (.int .i64 j))], [(1, .obj 52 [.p (.int .i64 0), .p (.int .i64 0), .p .nils, .p (.str []), .p (.str []), .p (.int .i64 0), .p (.int .i64 0), .p (.str []), .p .nils, .p .ff, .p .nils, .p .nils, .p .nils, .p (.int .i64 0), .p (.int .i64 0), .p .ff])]⟩) (fun j => j ≤ p.procs.length ∧ (p.procs.drop j).findSome? (findF id) = findR p id) (fun j => p.procs.length - j) 0 (Le.of_eq rfl) ⟨Nat.zero_le _, rfl⟩ ?_
  rintro j ⟨h2, h3⟩
  rcases Nat.lt_or_ge j p.procs.length with hj | hj
  rotate_left 1
  · rw [List.drop_eq_nil_of_le hj, List.findSome?_nil] at h3
    have hO : findO p id = (RI0, [], false) := by unfold findO; rw [← h3]
    rw [hO]
    conv => whnf
    repeat' (first | (refine And.intro rfl ?_; conv => whnf) | (refine Br.dec (fun _ => ?_) (fun _ => ?_) <;> first | (exfalso; omega) | conv => whnf))
    exact ⟨_, .p (Sub.tup (SubL.cons sub_RI0 (SubL.cons (Sub.refl _) (SubL.cons (Sub.ff rfl) SubL.nil)))), rfl⟩
  rw [drop_cons hj, List.findSome?_cons] at h3
  conv => whnf
  repeat' (first | ((first | (intro (_ : _ ≤ 9223372036854775807)) | (refine And.intro rfl ?_) | (refine IdxK.map (by omega) (fun _ => rfl) ?_) | (refine CallK.pure (whittlerref3_Flat _) (.cons (Sub.refl _) .nil) ?_; rintro _ rfl)); conv => whnf) | (refine Br.dec (fun _ => ?_) (fun _ => ?_) <;> first | (exfalso; omega) | conv => whnf))
  have hrl : ((flatR p.procs[j]).map fun i => AV.agg i.cells).length = (flatR p.procs[j]).length := List.length_map _
  have hff : findF id p.procs[j] = ((flatR p.procs[j]).find? fun x => decide (x.s.id = id)).map fun x => (x, p.procs[j].name) := rfl
  rw [hff] at h3
  have hfl := flatR_len p.procs[j]
  generalize flatR p.procs[j] = F at hrl hfl h3 ⊢
  refine LoopK.inv tabOK (fun k : Nat => ⟨[(1, .p (.int .i64 id)), (4, .ptr 1 0), (8, .p (.ip p.procs[j].cells)), (12, .p (.sl (p.procs.map fun f => .agg f.cells))), (13, .p (.int .i64 (p.procs.map fun f => AV.agg f.cells).length)), (14, .p (.int .i64 j)), (19, .p (eRIs F)), (20, .p (.int .i64 (F.map fun i => AV.agg i.cells).length)), (21, .p (.int .i64 k))], [(1, .obj 52 [.p (.int .i64 0), .p (.int .i64 0), .p .nils, .p (.str []), .p (.str []), .p (.int .i64 0), .p (.int .i64 0), .p (.str []), .p .nils, .p .ff, .p .nils, .p .nils, .p .nils, .p (.int .i64 0), .p (.int .i64 0), .p .ff])]⟩) (fun k => k ≤ F.length ∧ (F.drop k).find? (fun x => decide (x.s.id = id)) = F.find? fun x => decide (x.s.id = id)) (fun k => F.length - k) 0 (Le.of_eq rfl) ⟨Nat.zero_le _, rfl⟩ ?_
  rintro k ⟨h4, h5⟩
  rcases Nat.lt_or_ge k F.length with hk | hk
  rotate_left 1
  · rw [List.drop_eq_nil_of_le hk, List.find?_nil] at h5
    rw [← h5] at h3
    conv => whnf
    repeat' (first | (refine Wr.i64 (by omega) (by omega) ?_; conv => whnf) | (refine Br.dec (fun _ => ?_) (fun _ => ?_) <;> first | (exfalso; omega) | conv => whnf))
    exact ⟨j + 1, ⟨hj, h3⟩, by omega, Le.of_eq rfl⟩
  rw [drop_find hk] at h5
  conv => whnf
  repeat' (first | ((first | (refine DrawK.auto tabOK mixed (by kernel_rfl) ?_) | (refine And.intro rfl ?_) | (refine IdxK.map (by omega) (fun _ => rfl) ?_) | (refine Wr.i64 (by omega) (by omega) ?_)); conv => whnf) | (refine Br.dec (fun _ => ?_) (fun _ => ?_) <;> first | (exfalso; omega) | conv => whnf))
  · have hid : F[k].s.id = id := by assumption
    rw [if_pos (decide_eq_true hid)] at h5
    rw [← h5] at h3
    have hO : findO p id = (F[k], p.procs[j].name, true) := by unfold findO; rw [← h3]; rfl
    rw [hO]
    exact ⟨_, .p (Sub.tup (SubL.cons (Sub.refl _) (SubL.cons (Sub.refl _) (SubL.cons (Sub.tt rfl) SubL.nil)))), rfl⟩
  · have hid : ¬ F[k].s.id = id := by assumption
    rw [if_neg (by simpa using hid)] at h5
    exact ⟨k + 1, ⟨hk, h5⟩, by omega, Le.of_eq rfl⟩
def stmtR (p : Pg) (id : Int) : S := (findO p id).1.s
set_option maxRecDepth 100000 in
theorem whittlerref6_Stmt (p : Pg) (id : Int) : SpecP Tryz.prog 52 [.agg p.cells, .int .i64 id] (fun r => r = .agg (stmtR p id).cells) := by
  refine SpecP.body I_whittlerref6_Stmt tabOK Tryz.func52 rfl Tryz.call52 (by show 2 ≤ _; decide) ?_
  conv => whnf
  repeat' ((first | (refine CallK.pure (whittlerref6_Find _ _) (by repeat' (first | exact ArgP.nil | refine ArgP.cons ?_ ?_ | exact Sub.refl _ | exact Sub.tt rfl | exact Sub.ff rfl)) ?_; rintro _ rfl) | (refine And.intro rfl ?_)); conv => whnf)
  exact RetK.p rfl
end Go.Ab
namespace Go.Ab
open Go.Proofs
theorem stmt_own {p : Pg} (h : chkB p = true) {j : Nat} {f : Pr} (hj : p.procs[j]? = some f) {t : S} (ht : t ∈ flL f.body) : stmtR p t.id = t := by
  have hm := (chk_parts h).1
  have hf := List.mem_of_getElem? hj
  have e4 : (flatU f).map RI.s = flL f.body := fuL_s 1 0 false f.body
  have ex : ∃ x ∈ flatR f, x.s = t := by
    rw [flatR_eq hm hf]
    rw [← e4] at ht
    obtain ⟨x, hx, hs⟩ := List.mem_map.1 ht
    exact ⟨x, hx, hs⟩
  obtain ⟨x, hx, hs⟩ := ex
  unfold stmtR findO
  cases hr : findR p t.id with
  | none =>
    exfalso
    unfold findR at hr
    have h1 := List.findSome?_eq_none_iff.1 hr f hf
    unfold findF at h1
    rw [Option.map_eq_none_iff, List.find?_eq_none] at h1
    exact h1 x hx (by simp [hs])
  | some y =>
    obtain ⟨y, n⟩ := y
    unfold findR at hr
    obtain ⟨g, hg, h1⟩ := List.exists_of_findSome?_eq_some hr
    unfold findF at h1
    rw [Option.map_eq_some_iff] at h1
    obtain ⟨z, h2, h3⟩ := h1
    obtain rfl : z = y := congrArg Prod.fst h3
    obtain ⟨k, hk⟩ := List.mem_iff_getElem?.1 hg
    have h4 := flat_pl h hk (List.mem_of_find?_eq_some h2)
    have h5 : z.s.id = t.id := by simpa using List.find?_some h2
    have h6 := stAt_id h hk h4
    have h7 := stAt_id h hj ht
    rw [h5, h7] at h6
    exact (Option.some.inj h6).symm
theorem trap_sorted {p : Pg} (h : chkB p = true) {j : Nat} {f : Pr} (hj : p.procs[j]? = some f) {l : List Int} (hl : l ∈ trapsW (newWay p j f) f) : l.Pairwise (· < ·) := by
  have hrow := (trap_row h hj hl).2
  obtain ⟨i, _, _, _, rfl⟩ := traps_mem.1 hl
  unfold trapR at hrow ⊢
  rw [List.pairwise_map]
  refine List.Pairwise.imp_of_mem (R := fun a b : Nat => a < b) (fun {a b} ha hb hab => ?_) (List.Pairwise.filter _ List.pairwise_lt_range)
  have h1 := hrow _ (List.mem_map.2 ⟨a, ha, rfl⟩)
  have h2 := hrow _ (List.mem_map.2 ⟨b, hb, rfl⟩)
  unfold placeI loI at h1 h2 ⊢
  repeat' split at h1
  all_goals (repeat' split at h2)
  all_goals (repeat' split)
  all_goals omega
theorem traps_apart {p : Pg} {j : Nat} {f : Pr} : (trapsW (newWay p j f) f).Pairwise fun l m => ∀ b, b ∈ l → b ∉ m := by
  unfold trapsW trapL
  rw [part_len, List.pairwise_map]
  refine List.Pairwise.imp_of_mem (R := fun a b : Nat => a < b) (fun {a b} ha hb hab x hx hx' => ?_) (List.Pairwise.filter _ List.pairwise_lt_range)
  obtain ⟨k, h1, h2, h3⟩ := trapR_mem.1 hx
  obtain ⟨k', h4, h5, h6⟩ := trapR_mem.1 hx'
  have h7 := (ix_place (p := p) (j := j) (f := f) (i := k) (by omega)).2
  have h8 := (ix_place (p := p) (j := j) (f := f) (i := k') (by omega)).2
  have e : placeI (newWay p j f).p (newWay p j f).j (newWay p j f).n = placeI p j (cntL f.body + 2 : Nat) := rfl
  rw [e] at h3 h6
  rw [h3] at h7
  rw [h6] at h8
  have hkk : k = k' := by omega
  rw [hkk, h5] at h2
  omega
structure TrapsF (p : Pg) (L : List Step) (TS : List (List Int)) : Prop where
  cnt : TS.length ≤ 1000
  llen : L.length ≤ 100000
  len : ∀ t ∈ TS, t.length ≤ 1000
  srt : ∀ t ∈ TS, t.Pairwise (· < ·)
  go : ∀ t ∈ TS, ∃ id ∈ t, (stmtR p id).kind = 10
  to : ∀ t ∈ TS, ∀ id ∈ t, ∀ b, Rch (frR L id []) id b ↔ b ∈ t
  apart : TS.Pairwise fun l m => ∀ b, b ∈ l → b ∉ m
theorem traps_facts {p : Pg} (h : chkB p = true) (n : Int) : TrapsF p (ofR p (procAtR p n)) (trapsO p (procAtR p n)) := by
  obtain ⟨k, f, hkj, hw, hp⟩ := procAt_way h n
  have e2 : ofR p (procAtR p n) = (newWay p k f).real := by unfold ofR; rw [hw]
  obtain ⟨_, _, hcn⟩ := chk_cnt h
  obtain ⟨_, _, _, hlen, hsp⟩ := sheet_spec p
  obtain ⟨_, _, hle, _⟩ := hsp k f hkj
  rw [trapsO_some hw hkj, e2]
  refine ⟨?_, way_len h hkj, fun t ht => ?_, fun t ht => trap_sorted h hkj ht, fun t ht => ?_, fun t ht id hid b => ?_, traps_apart⟩
  · have := trapL_len (placeI p k (cntL f.body + 2 : Nat)) (partW (newWay p k f) f) (openB (cntL f.body + 2) (partW (newWay p k f) f) (prsW (newWay p k f) f)) (cntL f.body + 2)
    have e : trapsW (newWay p k f) f = trapL (placeI p k (cntL f.body + 2 : Nat)) (partW (newWay p k f) f) (openB (cntL f.body + 2) (partW (newWay p k f) f) (prsW (newWay p k f) f)) (cntL f.body + 2) := by
      unfold trapsW
      rw [part_len]
      rfl
    rw [e]
    omega
  · have := (trap_row h hkj ht).1
    omega
  · obtain ⟨r, hr⟩ := trap_spec h hkj ht
    obtain ⟨u, hu, h1, h2⟩ := trap_goto h hkj hr.pl hr.cl hr.n0 hr.nx
    exact ⟨u.id, (hr.mem _).2 ⟨rch_pl h hkj hr.pl h1.1, h1⟩, by rw [stmt_own h hkj hu]; exact h2⟩
  · obtain ⟨r, hr⟩ := trap_spec h hkj ht
    obtain ⟨h1, h2⟩ := (hr.mem id).1 hid
    constructor
    · intro hb
      have h3 : Rch (wR p k f) id b := fr_stR hb
      have h4 : sccP (wR p k f) r b := h3.closed (S := fun b => sccP (wR p k f) r b) (fun x y hx hxy => hr.cl x y hx hxy) h2
      exact (hr.mem b).2 ⟨rch_pl h hkj hr.pl h4.1, h4⟩
    · intro hb
      obtain ⟨_, h4⟩ := (hr.mem b).1 hb
      exact stR_fr (h2.symm.trans h4).1
end Go.Ab
namespace Go.Ab
open Go.Proofs
def goesE (a b k : Int) (s : Step) : Bool := decide (s.src = a) && (decide (s.dst = b) && (decide (k = 0) || decide (s.kind = k)))
def goesB (l : List Step) (a b k : Int) : Bool := l.any (goesE a b k)
theorem goesB_of {l : List Step} {s : Step} (hs : s ∈ l) {k : Int} (hk : k = 0 ∨ s.kind = k) : goesB l s.src s.dst k = true := by
  unfold goesB
  rw [List.any_eq_true]
  refine ⟨s, hs, ?_⟩
  unfold goesE
  rcases hk with hk | hk <;> simp [hk]
set_option maxHeartbeats 2000000 in
set_option maxRecDepth 100000 in
theorem whittlerref14_Goes (l : List Step) (a b k : Int) : SpecP Tryz.prog 53 [eSteps l, .int .i64 a, .int .i64 b, .int .i64 k] (fun r => r = .bool (goesB l a b k)) := by
  refine SpecP.body I_whittlerref14_Goes tabOK Tryz.func53 rfl Tryz.call53 (by show 4 ≤ _; decide) ?_
  conv => whnf
  repeat' (intro (_ : _ ≤ 9223372036854775807); conv => whnf)
  have hl : (l.map fun s => AV.agg s.cells).length = l.length := List.length_map _
  refine LoopK.inv tabOK (fun j : Nat => ⟨[(1, .p (.int .i64 a)), (2, .p (.int .i64 b)), (3, .p (.int .i64 k)), (11, .p (eSteps l)), (12, .p (.int .i64 (l.map fun s => AV.agg s.cells).length)), (13, .p (.int .i64 j))], []⟩) (fun j => j ≤ l.length ∧ (l.drop j).any (goesE a b k) = goesB l a b k) (fun j => l.length - j) 0 (Le.of_eq rfl) ⟨Nat.zero_le _, rfl⟩ ?_
  rintro j ⟨h2, h3⟩
  rcases Nat.lt_or_ge j l.length with hj | hj
  · conv => whnf
    repeat' (first | ((first | (refine And.intro rfl ?_) | (refine IdxK.map (by omega) (fun _ => rfl) ?_) | (refine Wr.i64 (by omega) (by omega) ?_)); conv => whnf) | (refine Br.dec (fun _ => ?_) (fun _ => ?_) <;> first | (exfalso; omega) | conv => whnf))
    all_goals first
      | (have e : goesE a b k l[j] = true := by unfold goesE; simp [*]; done
         exact RetK.tt (by rw [← h3, any_yes hj e]))
      | (have e : goesE a b k l[j] = false := by unfold goesE; simp [*]; done
         exact ⟨j + 1, ⟨hj, by rw [any_no hj e]; exact h3⟩, by omega, Le.of_eq rfl⟩)
      | trace_state
  · conv => whnf
    repeat' (refine Br.dec (fun _ => ?_) (fun _ => ?_) <;> first | (exfalso; omega) | conv => whnf)
    exact RetK.ff (by rw [← h3, any_end hj])
theorem aug_ok {p : Pg} (h : chkB p = true) {j : Nat} {f : Pr} (hj : p.procs[j]? = some f) : ∀ s ∈ augRaw (newWay p j f) f, okSt s := fun s hs => by
  unfold augRaw at hs
  rcases List.mem_append.1 hs with hs | hs
  · rcases List.mem_append.1 hs with hs | hs
    · exact data_ok h hj s hs
    · rw [List.mem_singleton.1 hs]
      exact ⟨by decide, by decide⟩
  · obtain ⟨it, hi, hs⟩ := List.mem_flatMap.1 hs
    exact nextR_ok h hj it hi s hs
theorem real_kind {p : Pg} (h : chkB p = true) {j : Nat} {f : Pr} (hj : p.procs[j]? = some f) {s : Step} (hs : s ∈ (newWay p j f).real) : s.kind = 1 :=
  (stepsRaw_ok1 h hj s (((real_spec h hj).2 s).1 hs)).2
theorem it_at {p : Pg} (h : chkB p = true) {j : Nat} {f : Pr} (hj : p.procs[j]? = some f) {it : Item} (hi : it ∈ itsOf p j f) : (sheetOf p).l[(it.s.id - 1).toNat]? = some it := by
  have hb := body_id (chk_parts h).1 hj (its_s hi)
  obtain ⟨it', h1, h2⟩ := sheet_its hj (k := (it.s.id - 1).toNat) (by omega) (by omega)
  have h3 := sheet_id h hj (by omega) (by omega) h1
  rw [h1, it_inj (chk_parts h).1 hj h2 hi (by omega)]
structure MoreF (p : Pg) (L A D : List Step) (TS : List (List Int)) : Prop where
  la : ∀ s ∈ L, goesB A s.src s.dst 1 = true ∧ goesB D s.src s.dst 1 = true
  da : ∀ s ∈ D, s.kind ≠ 2 ∧ goesB A s.src s.dst 0 = true
  a1 : ∀ s ∈ A, s.kind = 1 → goesB L s.src s.dst 1 = true
  a2 : ∀ s ∈ A, s.kind = 2 → (s.src = 0 → s.dst = -1) ∧ (s.src ≠ 0 → 7 ≤ (stmtR p s.src).kind ∧ s.dst = (behR p s.src).1)
  a3 : ∀ s ∈ A, s.kind ≠ 1 → s.kind ≠ 2 → s.kind = 3 ∧ (stmtR p s.src).kind = 10 ∧ s.dst = -1 ∧ ∃ t ∈ TS, s.src ∈ t
  tl : TS.length ≤ 1000
  ll : L.length ≤ 100000
  al : A.length ≤ 100000000
  dl : D.length ≤ 200000
theorem more_facts {p : Pg} (h : chkB p = true) (n : Int) : MoreF p (ofR p (procAtR p n)) (augO p (procAtR p n)) (dataO p (procAtR p n)) (trapsO p (procAtR p n)) := by
  have KT := traps_facts h n
  obtain ⟨k, f, hkj, hw, hp⟩ := procAt_way h n
  have e2 : ofR p (procAtR p n) = (newWay p k f).real := by unfold ofR; rw [hw]
  have ht := KT.cnt
  rw [trapsO_some hw hkj] at ht
  rw [trapsO_some hw hkj, augO_some hw hkj, dataO_some hw hkj, e2]
  have hA := normS_gen (aug_ok h hkj)
  have hD := normS_gen (data_ok h hkj)
  have hraw : ∀ s, s ∈ augRaw (newWay p k f) f ↔ s ∈ virtW (newWay p k f) f ∨ s ∈ (newWay p k f).real ∨ s = ⟨0, -1, 2⟩ ∨ s ∈ (itsOf p k f).flatMap fOf := fun s => by
    have e : augRaw (newWay p k f) f = virtW (newWay p k f) f ++ (newWay p k f).real ++ [⟨0, -1, 2⟩] ++ (itsOf p k f).flatMap fOf := rfl
    rw [e]
    simp only [List.mem_append, List.mem_singleton, or_assoc]
  have hv3 : ∀ s ∈ virtW (newWay p k f) f, s.kind = 3 := fun s hs => by
    obtain ⟨l, hl, t, ht, hid, hk, rfl⟩ := (virt_mem h hkj).1 hs
    rfl
  have hf2 : ∀ s ∈ (itsOf p k f).flatMap fOf, ∃ it ∈ itsOf p k f, 7 ≤ it.s.kind ∧ s = ⟨it.s.id, it.next, 2⟩ := fun s hs => by
    obtain ⟨it, hi, hs⟩ := List.mem_flatMap.1 hs
    unfold fOf at hs
    split at hs
    · exact ⟨it, hi, by omega, by simpa using hs⟩
    · cases hs
  have hkA : ∀ s ∈ augRaw (newWay p k f) f, 1 ≤ s.kind := fun s hs => by
    rcases (hraw s).1 hs with h1 | h1 | h1 | h1
    · rw [hv3 s h1]; decide
    · rw [real_kind h hkj h1]; decide
    · rw [h1]; decide
    · obtain ⟨it, _, _, rfl⟩ := hf2 s h1
      show (1 : Int) ≤ 2
      decide
  have hkD : ∀ s ∈ virtW (newWay p k f) f ++ (newWay p k f).real, 1 ≤ s.kind ∧ s.kind ≠ 2 := fun s hs => by
    rcases List.mem_append.1 hs with h1 | h1
    · rw [hv3 s h1]; decide
    · rw [real_kind h hkj h1]; decide
  have hal : (augW (newWay p k f) f).length ≤ 100000000 := by
    obtain ⟨_, _, hcn⟩ := chk_cnt h
    obtain ⟨_, _, _, hlen, hsp⟩ := sheet_spec p
    obtain ⟨_, _, hle, _⟩ := hsp k f hkj
    have h1 := normS_len (augRaw (newWay p k f) f)
    have e : augRaw (newWay p k f) f = virtW (newWay p k f) f ++ (newWay p k f).real ++ [⟨0, -1, 2⟩] ++ (itsOf p k f).flatMap fOf := rfl
    have h2 := (wayT h hkj).virt_len
    have h3 := real_len hkj hcn
    have h4 := flatMap_take_len (g := fOf) (c := 1) (itsOf p k f) fun it _ => fOf_len it
    have h5 : (itsOf p k f).length = cntL f.body := itL_len _ _ _ _ _ _
    have h6 := congrArg List.length e
    simp only [List.length_append, List.length_singleton] at h6
    show (normS (augRaw (newWay p k f) f)).length ≤ 100000000
    omega
  refine ⟨fun s hs => ⟨?_, ?_⟩, fun s hs => ⟨(hkD s (hD.2.1 s hs)).2, ?_⟩, fun s hs hk => ?_, fun s hs hk => ?_, fun s hs hk1 hk2 => ?_, ht, way_len h hkj, hal, data_len h hkj⟩
  · obtain ⟨s', h1, h2, h3, h4⟩ := hA.2.2 s ((hraw s).2 (.inr (.inl hs)))
    have h5 := hkA s' (hA.2.1 s' h1)
    rw [real_kind h hkj hs] at h4
    have := goesB_of h1 (k := 1) (.inr (by omega))
    rwa [h2, h3] at this
  · obtain ⟨s', h1, h2, h3, h4⟩ := hD.2.2 s (List.mem_append.2 (.inr hs))
    have h5 := (hkD s' (hD.2.1 s' h1)).1
    rw [real_kind h hkj hs] at h4
    have := goesB_of h1 (k := 1) (.inr (by omega))
    rwa [h2, h3] at this
  · have h0 : s ∈ augRaw (newWay p k f) f := by
      rcases List.mem_append.1 (hD.2.1 s hs) with h1 | h1
      · exact (hraw s).2 (.inl h1)
      · exact (hraw s).2 (.inr (.inl h1))
    obtain ⟨s', h1, h2, h3, _⟩ := hA.2.2 s h0
    have := goesB_of h1 (k := 0) (.inl rfl)
    rwa [h2, h3] at this
  · rcases (hraw s).1 (hA.2.1 s hs) with h1 | h1 | h1 | h1
    · rw [hv3 s h1] at hk; cases hk
    · exact goesB_of h1 (.inr hk)
    · rw [h1] at hk; cases hk
    · obtain ⟨it, _, _, rfl⟩ := hf2 s h1
      cases hk
  · rcases (hraw s).1 (hA.2.1 s hs) with h1 | h1 | h1 | h1
    · rw [hv3 s h1] at hk; cases hk
    · rw [real_kind h hkj h1] at hk; cases hk
    · rw [h1]
      exact ⟨fun _ => rfl, fun h0 => absurd rfl h0⟩
    · obtain ⟨it, hi, h2, rfl⟩ := hf2 s h1
      have hb := body_id (chk_parts h).1 hkj (its_s hi)
      refine ⟨fun h0 => ?_, fun _ => ⟨?_, ?_⟩⟩
      · have h0 : it.s.id = 0 := h0
        omega
      · show 7 ≤ (stmtR p it.s.id).kind
        rw [stmt_own h hkj (its_s hi)]
        exact h2
      · show it.next = (behR p it.s.id).1
        have hin : (decide (1 ≤ it.s.id) && decide (it.s.id ≤ (sheetOf p).l.length)) = true := by
          obtain ⟨_, _, _, hlen, hsp⟩ := sheet_spec p
          obtain ⟨_, _, hle, _⟩ := hsp k f hkj
          simp only [Bool.and_eq_true, decide_eq_true_eq]
          omega
        unfold behR
        rw [h, hin, it_at h hkj hi]
        rfl
  · rcases (hraw s).1 (hA.2.1 s hs) with h1 | h1 | h1 | h1
    · obtain ⟨l, hl, t, ht, hid, hk, rfl⟩ := (virt_mem h hkj).1 h1
      exact ⟨rfl, by rw [stmt_own h hkj ht]; exact hk, rfl, l, hl, hid⟩
    · exact absurd (real_kind h hkj h1) hk1
    · rw [h1] at hk2; exact absurd rfl hk2
    · obtain ⟨it, _, _, rfl⟩ := hf2 s h1
      exact absurd rfl hk2
end Go.Ab
namespace Go.Ab
open Go.Proofs
theorem goes_true {l : List Step} {a b k : Int} (h : goesB l a b k = true) : SpecP Tryz.prog 53 [eSteps l, .int .i64 a, .int .i64 b, .int .i64 k] (fun r => r = .bool true) := by
  have := whittlerref14_Goes l a b k
  rwa [h] at this
set_option maxHeartbeats 8000000 in
set_option maxRecDepth 100000 in
theorem whittlerlaw16_AugMore (p : Pg) (n : Int) : SpecP Tryz.prog 13 [.agg p.cells, .int .i64 n] (fun r => r = .tt) := by
  refine SpecP.body I_whittlerlaw16_AugMore tabOK Tryz.func13 rfl Tryz.call13 (by show 2 ≤ _; decide) ?_
  conv => whnf
  cases hfb : fitB p with
  | false =>
    have hno : ¬ wPg p ≤ 20000 := by unfold fitB at hfb; simpa using hfb
    repeat' (first | ((first | (refine CallK.pure (whittlerref3_Fits _) (by repeat' (first | exact ArgP.nil | refine ArgP.cons ?_ ?_ | exact Sub.refl _ | exact Sub.tt rfl | exact Sub.ff rfl)) ?_; rintro _ rfl) | (refine CallK.pure whittlerlaw16_more .nil ?_; rintro _ rfl)); conv => whnf) | (refine Br.dec2 (fun _ => ?_) (fun _ => ?_) <;> first | (exfalso; omega) | conv => whnf))
    all_goals first
      | exact ⟨_, .p (Sub.refl _), rfl⟩
      | (exfalso; simp_all; done)
  | true =>
    have hf : Fit p := by unfold fitB at hfb; unfold Fit; simpa using hfb
    have hfit : wPg p ≤ 20000 := hf
    have hC := whittlerlaw16_small p hf 100
    cases hc : smallB p 100 with
    | false =>
      rw [hc] at hC
      repeat' (first | ((first | (refine CallK.pure (whittlerref3_Fits _) (by repeat' (first | exact ArgP.nil | refine ArgP.cons ?_ ?_ | exact Sub.refl _ | exact Sub.tt rfl | exact Sub.ff rfl)) ?_; rintro _ rfl) | (refine CallK.pure whittlerlaw16_more .nil ?_; rintro _ rfl) | (refine CallK.pure hC (.cons (Sub.refl _) (.cons (Sub.refl _) .nil)) ?_; rintro _ rfl)); conv => whnf) | (refine Br.dec2 (fun _ => ?_) (fun _ => ?_) <;> first | (exfalso; omega) | conv => whnf) | (refine Br.n (fun _ => ?_) (fun _ => ?_) <;> conv => whnf))
      all_goals first
        | contradiction
        | exact ⟨_, .p (Sub.refl _), rfl⟩
    | true =>
      rw [hc] at hC
      have hc : chkB p = true := by unfold smallB at hc; rw [Bool.and_eq_true] at hc; exact hc.1
      have hO := cfg_Of p hf (procAtR p n)
      have hM := aug_Traps p hf (procAtR p n)
      have hA := aug_Of p hf (procAtR p n)
      have hD := aug_Data p hf (procAtR p n)
      repeat' (first | ((first | (intro (_ : _ ≤ 9223372036854775807)) | (refine CallK.pure (whittlerref3_Fits _) (by repeat' (first | exact ArgP.nil | refine ArgP.cons ?_ ?_ | exact Sub.refl _ | exact Sub.tt rfl | exact Sub.ff rfl)) ?_; rintro _ rfl) | (refine DrawK.auto tabOK mixed (by kernel_rfl) ?_) | (refine CallK.pure whittlerlaw16_more .nil ?_; rintro _ rfl) | (refine CallK.pure hC (.cons (Sub.refl _) (.cons (Sub.refl _) .nil)) ?_; rintro _ rfl) | (refine CallK.pure (whittlerref6_ProcAt p n (fit_procs hc)) (.cons (Sub.refl _) (.cons (Sub.refl _) .nil)) ?_; rintro _ rfl) | (refine CallK.pure hA (.cons (Sub.refl _) (.cons (Sub.refl _) .nil)) ?_; rintro _ rfl) | (refine CallK.pure hD (.cons (Sub.refl _) (.cons (Sub.refl _) .nil)) ?_; rintro _ rfl) | (refine CallK.pure hO (.cons (Sub.refl _) (.cons (Sub.refl _) .nil)) ?_; rintro _ rfl)); conv => whnf) | (refine Br.dec2 (fun _ => ?_) (fun _ => ?_) <;> first | (exfalso; omega) | conv => whnf) | (refine Br.n (fun _ => ?_) (fun _ => ?_) <;> conv => whnf))
      all_goals try contradiction
      have K := more_facts hc n
      have hLb := K.ll
      have hAb := K.al
      have hDb := K.dl
      generalize procAtR p n = pn at K hO hM hLb hAb hDb ⊢
      clear hA hD hC
      generalize hL : ofR p pn = L at K hO hLb ⊢
      generalize augO p pn = A at K hAb ⊢
      generalize dataO p pn = D at K hDb ⊢
      generalize trapsO p pn = TS at K hM ⊢
      have hLl : (L.map fun s => AV.agg s.cells).length = L.length := List.length_map _
      have hAl : (A.map fun s => AV.agg s.cells).length = A.length := List.length_map _
      have hDl : (D.map fun s => AV.agg s.cells).length = D.length := List.length_map _
      refine LoopK.inv tabOK (fun j : Nat => ⟨[(2, .p (.ip p.cells)), (5, .p (.str pn)), (6, .p (eSteps A)), (7, .p (eSteps D)), (40, .p (eSteps L)), (41, .p (.int .i64 (L.map fun s => AV.agg s.cells).length)), (42, .p (.int .i64 j))], []⟩) (fun j => j ≤ L.length) (fun j => L.length - j) 0 (Le.of_eq rfl) (Nat.zero_le _) ?_
      intro j h2
      rcases Nat.lt_or_ge j L.length with hj | hj
      · obtain ⟨k1, k2⟩ := K.la _ (List.getElem_mem hj)
        conv => whnf
        repeat' (first | ((first | (refine And.intro rfl ?_) | (refine IdxK.map (by omega) (fun _ => rfl) ?_) | (refine Wr.i64 (by omega) (by omega) ?_) | (refine CallK.pure (goes_true k1) (.cons (Sub.refl _) (.cons (Sub.refl _) (.cons (Sub.refl _) (.cons (Sub.refl _) .nil)))) ?_; rintro _ rfl) | (refine CallK.pure (goes_true k2) (.cons (Sub.refl _) (.cons (Sub.refl _) (.cons (Sub.refl _) (.cons (Sub.refl _) .nil)))) ?_; rintro _ rfl)); conv => whnf) | (refine Br.dec (fun _ => ?_) (fun _ => ?_) <;> first | (exfalso; omega) | conv => whnf) | (refine Br.n (fun _ => ?_) (fun _ => ?_) <;> conv => whnf))
        all_goals first
          | contradiction
          | exact ⟨j + 1, hj, by omega, Le.of_eq rfl⟩
          | trace_state
      conv => whnf
      repeat' (first | (intro (_ : _ ≤ 9223372036854775807); conv => whnf) | (refine Br.dec (fun _ => ?_) (fun _ => ?_) <;> first | (exfalso; omega) | conv => whnf))
      refine LoopK.inv tabOK (fun j : Nat => ⟨[(2, .p (.ip p.cells)), (5, .p (.str pn)), (6, .p (eSteps A)), (63, .p (eSteps D)), (64, .p (.int .i64 (D.map fun s => AV.agg s.cells).length)), (65, .p (.int .i64 j))], []⟩) (fun j => j ≤ D.length) (fun j => D.length - j) 0 (Le.of_eq rfl) (Nat.zero_le _) ?_
      intro j h2
      rcases Nat.lt_or_ge j D.length with hj | hj
      · obtain ⟨k1, k2⟩ := K.da _ (List.getElem_mem hj)
        conv => whnf
        repeat' (first | ((first | (refine And.intro rfl ?_) | (refine IdxK.map (by omega) (fun _ => rfl) ?_) | (refine Wr.i64 (by omega) (by omega) ?_) | (refine CallK.pure (goes_true k2) (.cons (Sub.refl _) (.cons (Sub.refl _) (.cons (Sub.refl _) (.cons (Sub.refl _) .nil)))) ?_; rintro _ rfl)); conv => whnf) | (refine Br.dec (fun _ => ?_) (fun _ => ?_) <;> first | (exfalso; omega) | conv => whnf) | (refine Br.n (fun _ => ?_) (fun _ => ?_) <;> conv => whnf))
        all_goals first
          | contradiction
          | exact ⟨j + 1, hj, by omega, Le.of_eq rfl⟩
          | trace_state
      conv => whnf
      repeat' (first | ((first | (intro (_ : _ ≤ 9223372036854775807)) | (refine CallK.pure hM (.cons (Sub.refl _) (.cons (Sub.refl _) .nil)) ?_; rintro _ rfl)); conv => whnf) | (refine Br.dec (fun _ => ?_) (fun _ => ?_) <;> first | (exfalso; omega) | conv => whnf))
      refine LoopK.inv tabOK (fun j : Nat => ⟨[(2, .p (.ip p.cells)), (5, .p (.str pn)), (12, .p (eMat TS)), (85, .p (eSteps A)), (86, .p (.int .i64 (A.map fun s => AV.agg s.cells).length)), (87, .p (.int .i64 j))], []⟩) (fun j => j ≤ A.length) (fun j => A.length - j) 0 (Le.of_eq rfl) (Nat.zero_le _) ?_
      intro j h2
      rcases Nat.lt_or_ge j A.length with hj | hj
      rotate_left 1
      · conv => whnf
        repeat' (refine Br.dec (fun _ => ?_) (fun _ => ?_) <;> first | (exfalso; omega) | conv => whnf)
        exact ⟨_, .p (Sub.refl _), rfl⟩
      have k1 := K.a1 _ (List.getElem_mem hj)
      have k2 := K.a2 _ (List.getElem_mem hj)
      have k3 := K.a3 _ (List.getElem_mem hj)
      have hB := cfg_Behind p hf A[j].src
      have hTl := K.tl
      clear K
      by_cases e1 : A[j].kind = 1
      · have k1 := k1 e1
        clear k2 k3
        conv => whnf
        repeat' (first | ((first | (refine CallK.pure (whittlerref6_Stmt _ _) (by repeat' (first | exact ArgP.nil | refine ArgP.cons ?_ ?_ | exact Sub.refl _ | exact Sub.tt rfl | exact Sub.ff rfl)) ?_; rintro _ rfl) | (refine DrawK.auto tabOK mixed (by kernel_rfl) ?_) | (refine And.intro rfl ?_) | (refine IdxK.map (by omega) (fun _ => rfl) ?_) | (refine Wr.i64 (by omega) (by omega) ?_) | (refine CallK.pure hB (.cons (Sub.refl _) (.cons (Sub.refl _) .nil)) ?_; rintro _ rfl) | (refine CallK.pure hO (.cons (Sub.refl _) (.cons (Sub.refl _) .nil)) ?_; rintro _ rfl) | (refine CallK.pure (goes_true k1) (.cons (Sub.refl _) (.cons (Sub.refl _) (.cons (Sub.refl _) (.cons (Sub.refl _) .nil)))) ?_; rintro _ rfl)); conv => whnf) | (refine Br.dec (fun _ => ?_) (fun _ => ?_) <;> first | (exfalso; omega) | conv => whnf) | (refine Br.n (fun _ => ?_) (fun _ => ?_) <;> conv => whnf))
        all_goals first
          | contradiction
          | exact ⟨j + 1, hj, by omega, Le.of_eq rfl⟩
          | trace_state
      by_cases e2 : A[j].kind = 2
      · obtain ⟨k4, k5⟩ := k2 e2
        clear k1 k3
        by_cases e0 : A[j].src = 0
        · have k4 := k4 e0
          conv => whnf
          repeat' (first | ((first | (refine CallK.pure (whittlerref6_Stmt _ _) (by repeat' (first | exact ArgP.nil | refine ArgP.cons ?_ ?_ | exact Sub.refl _ | exact Sub.tt rfl | exact Sub.ff rfl)) ?_; rintro _ rfl) | (refine And.intro rfl ?_) | (refine IdxK.map (by omega) (fun _ => rfl) ?_) | (refine Wr.i64 (by omega) (by omega) ?_) | (refine CallK.pure hB (.cons (Sub.refl _) (.cons (Sub.refl _) .nil)) ?_; rintro _ rfl)); conv => whnf) | (refine Br.dec (fun _ => ?_) (fun _ => ?_) <;> first | (exfalso; omega) | conv => whnf) | (refine Br.dec2 (fun _ => ?_) (fun _ => ?_) <;> first | (exfalso; omega) | conv => whnf))
          all_goals first
            | contradiction
            | exact ⟨j + 1, hj, by omega, Le.of_eq rfl⟩
            | trace_state
        · obtain ⟨k6, k7⟩ := k5 e0
          conv => whnf
          repeat' (first | ((first | (refine CallK.pure (whittlerref6_Stmt _ _) (by repeat' (first | exact ArgP.nil | refine ArgP.cons ?_ ?_ | exact Sub.refl _ | exact Sub.tt rfl | exact Sub.ff rfl)) ?_; rintro _ rfl) | (refine And.intro rfl ?_) | (refine IdxK.map (by omega) (fun _ => rfl) ?_) | (refine Wr.i64 (by omega) (by omega) ?_) | (refine CallK.pure hB (.cons (Sub.refl _) (.cons (Sub.refl _) .nil)) ?_; rintro _ rfl)); conv => whnf) | (refine Br.dec (fun _ => ?_) (fun _ => ?_) <;> first | (exfalso; omega) | conv => whnf) | (refine Br.dec2 (fun _ => ?_) (fun _ => ?_) <;> first | (exfalso; omega) | conv => whnf))
          all_goals first
            | contradiction
            | exact ⟨j + 1, hj, by omega, Le.of_eq rfl⟩
            | trace_state
      · obtain ⟨k4, k5, k6, k7⟩ := k3 e1 e2
        clear k1 k2
        conv => whnf
        repeat' (first | ((first | (intro (_ : _ ≤ 9223372036854775807)) | (refine CallK.pure (whittlerref6_Stmt _ _) (by repeat' (first | exact ArgP.nil | refine ArgP.cons ?_ ?_ | exact Sub.refl _ | exact Sub.tt rfl | exact Sub.ff rfl)) ?_; rintro _ rfl) | (refine And.intro rfl ?_) | (refine IdxK.map (by omega) (fun _ => rfl) ?_) | (refine CallK.pure hB (.cons (Sub.refl _) (.cons (Sub.refl _) .nil)) ?_; rintro _ rfl)); conv => whnf) | (refine Br.dec (fun _ => ?_) (fun _ => ?_) <;> first | (exfalso; omega) | conv => whnf))
        all_goals try contradiction
        have hTm : ((avI TS).map AV.sl).length = TS.length := by simp [avI]
        refine LoopK.inv tabOK (fun i : Nat => ⟨[(2, .p (.ip p.cells)), (5, .p (.str pn)), (12, .p (eMat TS)), (14, .p (.ip A[j].cells)), (15, .p (.int .i64 (stmtR p A[j].src).kind)), (18, .p (.bool ((TS.take i).any fun t => hasI t A[j].src))), (85, .p (eSteps A)), (86, .p (.int .i64 (A.map fun s => AV.agg s.cells).length)), (87, .p (.int .i64 j)), (105, .p (eMat TS)), (106, .p (.int .i64 ((avI TS).map AV.sl).length)), (107, .p (.int .i64 i))], []⟩) (fun i => i ≤ TS.length) (fun i => TS.length - i) 0
          (Le.mk [] (by simp) (by simp) (by simp) (.cons (.refl _) (.cons (.refl _) (.cons (.refl _) (.cons (.refl _) (.cons (.refl _) (.cons (.p (Sub.ff rfl)) (.cons (.refl _) (.cons (.refl _) (.cons (.refl _) (.cons (.refl _) (.cons (.refl _) (.cons (.refl _) .nil)))))))))))) .nil) (Nat.zero_le _) ?_
        intro i hiT
        rcases Nat.lt_or_ge i TS.length with hi | hi
        · have hav : (avI TS)[i]'(by simp [avI]; exact hi) = TS[i].map (.int .i64) := by simp [avI]
          have hH : SpecP Tryz.prog 47 [.sl ((avI TS)[i]'(by simp [avI]; exact hi)), .int .i64 A[j].src] (fun r => r = .bool (hasI TS[i] A[j].src)) := by
            rw [hav]
            exact whittlerlaw16_has _ _
          have hany : ((TS.take (i + 1)).any fun t => hasI t A[j].src) = (((TS.take i).any fun t => hasI t A[j].src) || hasI TS[i] A[j].src) := by
            rw [List.take_succ_eq_append_getElem hi, List.any_append]
            simp
          cases hb : (TS.take i).any fun t => hasI t A[j].src with
          | true =>
            rw [hb, Bool.true_or] at hany
            conv => whnf
            repeat' (first | ((first | (refine IdxK.map (by omega) (fun _ => rfl) ?_) | (refine Wr.i64 (by omega) (by omega) ?_)); conv => whnf) | (refine Br.dec (fun _ => ?_) (fun _ => ?_) <;> first | (exfalso; omega) | conv => whnf) | (refine Br.b (fun _ => ?_) (fun _ => ?_) <;> conv => whnf))
            all_goals first
              | contradiction
              | exact ⟨i + 1, hi, by omega, Le.mk [] (by simp) (by simp) (by simp) (.cons (.refl _) (.cons (.refl _) (.cons (.refl _) (.cons (.refl _) (.cons (.refl _) (.cons (.p (Sub.tt hany)) (.cons (.refl _) (.cons (.refl _) (.cons (.refl _) (.cons (.refl _) (.cons (.refl _) (.cons (.refl _) .nil)))))))))))) .nil⟩
          | false =>
            rw [hb, Bool.false_or] at hany
            conv => whnf
            repeat' (first | ((first | (refine IdxK.map (by omega) (fun _ => rfl) ?_) | (refine Wr.i64 (by omega) (by omega) ?_) | (refine CallK.pure hH (.cons (Sub.refl _) (.cons (Sub.refl _) .nil)) ?_; rintro _ rfl)); conv => whnf) | (refine Br.dec (fun _ => ?_) (fun _ => ?_) <;> first | (exfalso; omega) | conv => whnf) | (refine Br.b (fun _ => ?_) (fun _ => ?_) <;> conv => whnf))
            all_goals first
              | contradiction
              | exact ⟨i + 1, hi, by omega, Le.mk [] (by simp) (by simp) (by simp) (.cons (.refl _) (.cons (.refl _) (.cons (.refl _) (.cons (.refl _) (.cons (.refl _) (.cons (.of_eq (by rw [hany]; rfl)) (.cons (.refl _) (.cons (.refl _) (.cons (.refl _) (.cons (.refl _) (.cons (.refl _) (.cons (.refl _) .nil)))))))))))) .nil⟩
              | trace_state
        · have hin : ((TS.take i).any fun t => hasI t A[j].src) = true := by
            rw [List.take_of_length_le hi, List.any_eq_true]
            obtain ⟨t, ht, h4⟩ := k7
            exact ⟨t, ht, hasI_iff.2 h4⟩
          rw [hin]
          conv => whnf
          repeat' (first | (refine Wr.i64 (by omega) (by omega) ?_; conv => whnf) | (refine Br.dec (fun _ => ?_) (fun _ => ?_) <;> first | (exfalso; omega) | conv => whnf) | (refine Br.dec2 (fun _ => ?_) (fun _ => ?_) <;> first | (exfalso; omega) | conv => whnf) | (refine Br.n (fun _ => ?_) (fun _ => ?_) <;> conv => whnf))
          all_goals first
            | contradiction
            | exact ⟨j + 1, hj, by omega, Le.of_eq rfl⟩
            | trace_state
end Go.Ab
