/- cfg: the statements that real steps lead to. -/
import Derived.Test.YtabdfngdamikiaaGreatFirst16
set_option linter.unusedSimpArgs false
set_option linter.unusedVariables false
namespace Go.Ab
open Go.Proofs
def placeI (p : Pg) (j : Nat) (n i : Int) : Int := if i = 0 then 0 else if i = n - 1 then -1 else loI p j + i - 1
set_option maxHeartbeats 1000000 in
set_option maxRecDepth 100000 in
theorem way_Way_Place (w : Way) (f : Pr) (hj : w.p.procs[w.j]? = some f) (hc : cntP w.p.procs ≤ 1000) (hn : 0 ≤ w.n ∧ w.n ≤ 5000) (i : Int) (hi : 0 ≤ i ∧ i ≤ 5000) : SpecP Tryz.prog 77 [.ip w.cells, .int .i64 i] (fun r => r = .int .i64 (placeI w.p w.j w.n i)) := by
  refine SpecP.body I_way_Way_Place tabOK Tryz.func77 rfl Tryz.call77 (by show 2 ≤ _; decide) ?_
  conv => whnf
  obtain ⟨_, _, _, hlen, hsp⟩ := sheet_spec w.p
  obtain ⟨hlo, hhi, hle, _⟩ := hsp w.j f hj
  repeat' (
    first
    | (intro (_ : _ ≤ 9223372036854775807); conv => whnf)
    | (refine Br.dec (fun _ => ?_) (fun _ => ?_) <;> first | (exfalso; omega) | conv => whnf)
    | (refine Br.dec2 (fun _ => ?_) (fun _ => ?_) <;> first | (exfalso; omega) | conv => whnf)
    | (refine DrawK.auto tabOK mixed (by kernel_rfl) ?_; conv => whnf)
    | (refine Br.n (fun _ => ?_) (fun _ => ?_) <;> conv => whnf)
    | (refine Br.b (fun _ => ?_) (fun _ => ?_) <;> conv => whnf)
    | (refine And.intro rfl ?_; conv => whnf)
    | (refine And.intro ⟨by decide, by decide⟩ ?_; conv => whnf)
    | (refine And.intro ⟨rfl, rfl, by decide⟩ ?_; conv => whnf)
    | (refine BsK.pure (fun x hx => by rcases List.mem_singleton.1 hx with rfl; rfl) rfl ?_; conv => whnf)
    | (refine IdxK.map (by omega) (fun _ => rfl) ?_; conv => whnf)
    | (refine IdxK.xs (by omega) ?_; conv => whnf)
    | (refine IdxK.ss (by omega) ?_; conv => whnf)
    | (refine ByteK.at (by omega) ?_; conv => whnf)
    | (refine Wr.i64 (by omega) (by omega) ?_; conv => whnf)
    | (refine IdxK.at rfl (eInts_at hlo) rfl ?_; conv => whnf))
  all_goals exact RetK.int (by unfold placeI loI; (repeat' split) <;> omega)
theorem setAll_len (l : List Int) : ∀ b : List Bool, (setAll l b).length = b.length := by
  induction l with
  | nil => intro b; rfl
  | cons a r ih =>
    intro b
    show (setAll r (b.set a.toNat true)).length = b.length
    rw [ih, List.length_set]
def liveL (w : Way) : List Int := ((List.range' 1 (w.n - 2).toNat).filter fun i => w.live.getD i false).map fun (i : Nat) => placeI w.p w.j w.n i
def liveR (p : Pg) (n : Str) : List Int := match wayO p n with
  | some w => liveL w
  | none => []
set_option maxRecDepth 100000 in
theorem cfg_Live (p : Pg) (hf : Fit p) (n : Str) : SpecP Tryz.prog 30 [.agg p.cells, .str n] (fun r => r = eInts (liveR p n)) := by
  refine SpecP.body I_cfg_Live tabOK Tryz.func30 rfl Tryz.call30 (by show 2 ≤ _; decide) ?_
  conv => whnf
  have hW := way_Of p hf n
  unfold liveR
  cases hw : wayO p n with
  | none =>
    rw [hw] at hW
    repeat' (
      first
      | (intro (_ : _ ≤ 9223372036854775807); conv => whnf)
      | (refine Br.dec (fun _ => ?_) (fun _ => ?_) <;> first | (exfalso; omega) | conv => whnf)
      | (refine Br.dec2 (fun _ => ?_) (fun _ => ?_) <;> first | (exfalso; omega) | conv => whnf)
      | (refine DrawK.auto tabOK mixed (by kernel_rfl) ?_; conv => whnf)
      | (refine Br.n (fun _ => ?_) (fun _ => ?_) <;> conv => whnf)
      | (refine Br.b (fun _ => ?_) (fun _ => ?_) <;> conv => whnf)
      | (refine And.intro rfl ?_; conv => whnf)
      | (refine And.intro ⟨by decide, by decide⟩ ?_; conv => whnf)
      | (refine And.intro ⟨rfl, rfl, by decide⟩ ?_; conv => whnf)
      | (refine BsK.pure (fun x hx => by rcases List.mem_singleton.1 hx with rfl; rfl) rfl ?_; conv => whnf)
      | (refine IdxK.map (by omega) (fun _ => rfl) ?_; conv => whnf)
      | (refine IdxK.xs (by omega) ?_; conv => whnf)
      | (refine IdxK.ss (by omega) ?_; conv => whnf)
      | (refine ByteK.at (by omega) ?_; conv => whnf)
      | (refine Wr.i64 (by omega) (by omega) ?_; conv => whnf)
      | (refine CallK.pure hW (.cons (Sub.refl _) (.cons (Sub.refl _) .nil)) ?_; rintro _ rfl; conv => whnf))
    exact ⟨_, .p Sub.nils, rfl⟩
  | some w =>
    obtain ⟨k, f, hkj, hwe, hc, _⟩ := wayO_some hw
    obtain ⟨_, _, hcn⟩ := chk_cnt hc
    obtain ⟨_, _, _, _, hsp⟩ := sheet_spec p
    obtain ⟨_, _, hle, _⟩ := hsp k f hkj
    have hwp : w.p = p := by rw [hwe]; rfl
    have hwj : w.j = k := by rw [hwe]; rfl
    have hwn : w.n = (cntL f.body + 2 : Nat) := by rw [hwe]; rfl
    have hwl : w.live.length = cntL f.body + 2 := by rw [hwe]; show (setAll _ (List.replicate (cntL f.body + 2) false)).length = _; rw [setAll_len]; simp
    have hwj' : w.p.procs[w.j]? = some f := by rw [hwp, hwj]; exact hkj
    have hcn' : cntP w.p.procs ≤ 1000 := by rw [hwp]; omega
    rw [hw] at hW
    clear hwe hw
    repeat' (
      first
      | (intro (_ : _ ≤ 9223372036854775807); conv => whnf)
      | (refine Br.dec (fun _ => ?_) (fun _ => ?_) <;> first | (exfalso; omega) | conv => whnf)
      | (refine Br.dec2 (fun _ => ?_) (fun _ => ?_) <;> first | (exfalso; omega) | conv => whnf)
      | (refine DrawK.auto tabOK mixed (by kernel_rfl) ?_; conv => whnf)
      | (refine Br.n (fun _ => ?_) (fun _ => ?_) <;> conv => whnf)
      | (refine Br.b (fun _ => ?_) (fun _ => ?_) <;> conv => whnf)
      | (refine And.intro rfl ?_; conv => whnf)
      | (refine And.intro ⟨by decide, by decide⟩ ?_; conv => whnf)
      | (refine And.intro ⟨rfl, rfl, by decide⟩ ?_; conv => whnf)
      | (refine BsK.pure (fun x hx => by rcases List.mem_singleton.1 hx with rfl; rfl) rfl ?_; conv => whnf)
      | (refine IdxK.map (by omega) (fun _ => rfl) ?_; conv => whnf)
      | (refine IdxK.xs (by omega) ?_; conv => whnf)
      | (refine IdxK.ss (by omega) ?_; conv => whnf)
      | (refine ByteK.at (by omega) ?_; conv => whnf)
      | (refine Wr.i64 (by omega) (by omega) ?_; conv => whnf)
      | (refine CallK.pure hW (.cons (Sub.refl _) (.cons (Sub.refl _) .nil)) ?_; rintro _ rfl; conv => whnf))
    refine LoopK.inv tabOK (fun x : Nat × List Int => ⟨[(5, .p (.ip w.cells)), (6, .hd 0 0 x.2.length), (7, .p (.int .i64 x.1))], [(0, .own 3 1 (x.2.map (.int .i64)))]⟩)
      (fun x => 1 ≤ x.1 ∧ x.1 ≤ cntL f.body + 1 ∧ x.2.length ≤ x.1 ∧ x.2 ++ (((List.range' x.1 (cntL f.body + 1 - x.1)).filter fun i => w.live.getD i false).map fun (i : Nat) => placeI w.p w.j w.n i) = liveL w) (fun x => cntL f.body + 1 - x.1) (1, [])
      (Le.mk [(0, .own 3 1 [])] (by simp [Chunk.new0]; rfl) (by simp) (by simp) (.cons (.refl _) (.cons (.nil List.mem_cons_self) (.cons (.of_eq rfl) .nil))) (.new List.mem_cons_self .nil))
      ⟨Nat.le_refl _, by simp only; omega, by simp, by unfold liveL; rw [hwn, show ((cntL f.body + 2 : Nat) - 2 : Int).toNat = cntL f.body + 1 - 1 by omega]; rfl⟩ ?_
    rintro ⟨i, acc⟩ ⟨h1, h2, h3, h4⟩
    simp only at h1 h2 h3 h4 ⊢
    rcases Nat.lt_or_ge i (cntL f.body + 1) with hi | hi
    rotate_left 1
    · rw [show cntL f.body + 1 - i = 0 by omega] at h4
      simp only [List.range'_zero, List.filter_nil, List.map_nil, List.append_nil] at h4
      subst h4
      conv => whnf
      repeat' (
        first
        | (intro (_ : _ ≤ 9223372036854775807); conv => whnf)
        | (refine Br.dec (fun _ => ?_) (fun _ => ?_) <;> first | (exfalso; omega) | conv => whnf)
        | (refine Br.dec2 (fun _ => ?_) (fun _ => ?_) <;> first | (exfalso; omega) | conv => whnf)
        | (refine DrawK.auto tabOK mixed (by kernel_rfl) ?_; conv => whnf)
        | (refine Br.n (fun _ => ?_) (fun _ => ?_) <;> conv => whnf)
        | (refine Br.b (fun _ => ?_) (fun _ => ?_) <;> conv => whnf)
        | (refine And.intro rfl ?_; conv => whnf)
        | (refine And.intro ⟨by decide, by decide⟩ ?_; conv => whnf)
        | (refine And.intro ⟨rfl, rfl, by decide⟩ ?_; conv => whnf)
        | (refine BsK.pure (fun x hx => by rcases List.mem_singleton.1 hx with rfl; rfl) rfl ?_; conv => whnf)
        | (refine IdxK.map (by omega) (fun _ => rfl) ?_; conv => whnf)
        | (refine IdxK.xs (by omega) ?_; conv => whnf)
        | (refine IdxK.ss (by omega) ?_; conv => whnf)
        | (refine ByteK.at (by omega) ?_; conv => whnf)
        | (refine Wr.i64 (by omega) (by omega) ?_; conv => whnf))
      all_goals first
        | exact ⟨_, .hd rfl (by simp), rfl⟩
        | (exfalso; omega)
    have hil : i < w.live.length := by omega
    rw [show cntL f.body + 1 - i = cntL f.body + 1 - (i + 1) + 1 by omega, List.range'_succ, List.filter_cons] at h4
    have hpl := way_Way_Place w f hwj' hcn' (by omega) i (by omega)
    cases hl : w.live.getD i false with
    | true =>
      have hle : (w.live.map bv)[i]? = some .tt := by
        have : w.live[i] = true := by simpa [hil] using hl
        simp [hil, this, bv]
      rw [hl] at h4
      conv => whnf
      repeat' (
        first
        | (intro (_ : _ ≤ 9223372036854775807); conv => whnf)
        | (refine Br.dec (fun _ => ?_) (fun _ => ?_) <;> first | (exfalso; omega) | conv => whnf)
        | (refine Br.dec2 (fun _ => ?_) (fun _ => ?_) <;> first | (exfalso; omega) | conv => whnf)
        | (refine DrawK.auto tabOK mixed (by kernel_rfl) ?_; conv => whnf)
        | (refine Br.n (fun _ => ?_) (fun _ => ?_) <;> conv => whnf)
        | (refine Br.b (fun _ => ?_) (fun _ => ?_) <;> conv => whnf)
        | (refine And.intro rfl ?_; conv => whnf)
        | (refine And.intro ⟨by decide, by decide⟩ ?_; conv => whnf)
        | (refine And.intro ⟨rfl, rfl, by decide⟩ ?_; conv => whnf)
        | (refine BsK.pure (fun x hx => by rcases List.mem_singleton.1 hx with rfl; rfl) rfl ?_; conv => whnf)
        | (refine IdxK.map (by omega) (fun _ => rfl) ?_; conv => whnf)
        | (refine IdxK.xs (by omega) ?_; conv => whnf)
        | (refine IdxK.ss (by omega) ?_; conv => whnf)
        | (refine ByteK.at (by omega) ?_; conv => whnf)
        | (refine Wr.i64 (by omega) (by omega) ?_; conv => whnf)
        | (refine IdxK.at rfl hle rfl ?_; conv => whnf)
        | (refine CallK.pure hpl (.cons (Sub.refl _) (.cons (Sub.refl _) .nil)) ?_; rintro _ rfl; conv => whnf)
        | (refine AppK.int1 (by simp) (by simp; omega) ?_; conv => whnf))
      all_goals first
        | exact ⟨(i + 1, acc ++ [placeI w.p w.j w.n i]), ⟨by simp only; omega, by simp only; omega, by simp; omega, by simpa using h4⟩, by simp only; omega, Le.of_eq (by simp only [List.length_append, List.map_append]; rfl)⟩
        | (exfalso; omega)
    | false =>
      have hle : (w.live.map bv)[i]? = some .ff := by
        have : w.live[i] = false := by simpa [hil] using hl
        simp [hil, this, bv]
      rw [hl] at h4
      conv => whnf
      repeat' (
        first
        | (intro (_ : _ ≤ 9223372036854775807); conv => whnf)
        | (refine Br.dec (fun _ => ?_) (fun _ => ?_) <;> first | (exfalso; omega) | conv => whnf)
        | (refine Br.dec2 (fun _ => ?_) (fun _ => ?_) <;> first | (exfalso; omega) | conv => whnf)
        | (refine DrawK.auto tabOK mixed (by kernel_rfl) ?_; conv => whnf)
        | (refine Br.n (fun _ => ?_) (fun _ => ?_) <;> conv => whnf)
        | (refine Br.b (fun _ => ?_) (fun _ => ?_) <;> conv => whnf)
        | (refine And.intro rfl ?_; conv => whnf)
        | (refine And.intro ⟨by decide, by decide⟩ ?_; conv => whnf)
        | (refine And.intro ⟨rfl, rfl, by decide⟩ ?_; conv => whnf)
        | (refine BsK.pure (fun x hx => by rcases List.mem_singleton.1 hx with rfl; rfl) rfl ?_; conv => whnf)
        | (refine IdxK.map (by omega) (fun _ => rfl) ?_; conv => whnf)
        | (refine IdxK.xs (by omega) ?_; conv => whnf)
        | (refine IdxK.ss (by omega) ?_; conv => whnf)
        | (refine ByteK.at (by omega) ?_; conv => whnf)
        | (refine Wr.i64 (by omega) (by omega) ?_; conv => whnf)
        | (refine IdxK.at rfl hle rfl ?_; conv => whnf))
      all_goals first
        | exact ⟨(i + 1, acc), ⟨by simp only; omega, by simp only; omega, by simp only; omega, by simpa using h4⟩, by simp only; omega, Le.of_eq rfl⟩
        | (exfalso; omega)
end Go.Ab
namespace Go.Ab
open Go.Proofs
set_option maxRecDepth 100000 in
theorem slices_Index_int_int_ (l : List Int) (v : Int) : SpecP Tryz.prog 180 [eInts l, .int .i64 v] (fun r => r = .int .i64 (idxF (fun s => decide (v = s)) l)) := by
  refine SpecP.body I_slices_Index_int_int_ tabOK Tryz.func180 rfl Tryz.call180 (by show 2 ≤ _; decide) ?_
  conv => whnf
  intro (_ : _ ≤ 9223372036854775807)
  have hl : (l.map (AV.int .i64)).length = l.length := List.length_map _
  conv => whnf
  refine LoopK.inv tabOK (fun j : Nat => ⟨[(0, .p (eInts l)), (1, .p (.int .i64 v)), (7, .p (.int .i64 (l.map (AV.int .i64)).length)), (8, .p (.int .i64 j))], []⟩) (fun j => j ≤ l.length ∧ (l.drop j).any (fun s => decide (v = s)) = l.any (fun s => decide (v = s)) ∧ l.findIdx (fun s => decide (v = s)) = j + (l.drop j).findIdx (fun s => decide (v = s))) (fun j => l.length - j) 0 (Le.of_eq rfl) ⟨Nat.zero_le _, rfl, by simp⟩ ?_
  rintro j ⟨h2, h3, h4⟩
  conv => whnf
  repeat' (
    first
    | (intro (_ : _ ≤ 9223372036854775807); conv => whnf)
    | (refine Br.dec (fun _ => ?_) (fun _ => ?_) <;> first | (exfalso; omega) | conv => whnf)
    | (refine Br.dec2 (fun _ => ?_) (fun _ => ?_) <;> first | (exfalso; omega) | conv => whnf)
    | (refine DrawK.auto tabOK mixed (by kernel_rfl) ?_; conv => whnf)
    | (refine Br.n (fun _ => ?_) (fun _ => ?_) <;> conv => whnf)
    | (refine Br.b (fun _ => ?_) (fun _ => ?_) <;> conv => whnf)
    | (refine And.intro rfl ?_; conv => whnf)
    | (refine And.intro ⟨by decide, by decide⟩ ?_; conv => whnf)
    | (refine And.intro ⟨rfl, rfl, by decide⟩ ?_; conv => whnf)
    | (refine BsK.pure (fun x hx => by rcases List.mem_singleton.1 hx with rfl; rfl) rfl ?_; conv => whnf)
    | (refine IdxK.map (by omega) (fun _ => rfl) ?_; conv => whnf)
    | (refine IdxK.xs (by omega) ?_; conv => whnf)
    | (refine IdxK.ss (by omega) ?_; conv => whnf)
    | (refine ByteK.at (by omega) ?_; conv => whnf)
    | (refine Wr.i64 (by omega) (by omega) ?_; conv => whnf))
  · exact RetK.int (idxF_yes (p := fun s => decide (v = s)) (by omega) (decide_eq_true (by assumption)) h3 h4).symm
  · exact ⟨j + 1, ⟨by omega, by rw [← h3, any_no (p := fun s => decide (v = s)) (by omega) (decide_eq_false (by assumption))], by rw [h4, fi_no (p := fun s => decide (v = s)) (by omega) (decide_eq_false (by assumption))]; omega⟩, by omega, Le.of_eq rfl⟩
  · exact RetK.int (by rw [idxF_no]; rw [← h3, any_end (by omega)])
set_option maxRecDepth 100000 in
theorem slices_Contains_int_int_ (l : List Int) (v : Int) : SpecP Tryz.prog 130 [eInts l, .int .i64 v] (fun r => r = .bool (l.any fun s => decide (v = s))) := by
  refine SpecP.body I_slices_Contains_int_int_ tabOK Tryz.func130 rfl Tryz.call130 (by show 2 ≤ _; decide) ?_
  conv => whnf
  repeat' (
    first
    | (intro (_ : _ ≤ 9223372036854775807); conv => whnf)
    | (refine Br.dec (fun _ => ?_) (fun _ => ?_) <;> first | (exfalso; omega) | conv => whnf)
    | (refine Br.dec2 (fun _ => ?_) (fun _ => ?_) <;> first | (exfalso; omega) | conv => whnf)
    | (refine DrawK.auto tabOK mixed (by kernel_rfl) ?_; conv => whnf)
    | (refine Br.n (fun _ => ?_) (fun _ => ?_) <;> conv => whnf)
    | (refine Br.b (fun _ => ?_) (fun _ => ?_) <;> conv => whnf)
    | (refine CallK.pure (slices_Index_int_int_ _ _) (by repeat' (first | exact ArgP.nil | refine ArgP.cons ?_ ?_ | exact Sub.refl _ | exact Sub.tt rfl | exact Sub.ff rfl)) ?_; rintro _ rfl; conv => whnf)
    | (refine And.intro rfl ?_; conv => whnf)
    | (refine And.intro ⟨by decide, by decide⟩ ?_; conv => whnf)
    | (refine And.intro ⟨rfl, rfl, by decide⟩ ?_; conv => whnf)
    | (refine BsK.pure (fun x hx => by rcases List.mem_singleton.1 hx with rfl; rfl) rfl ?_; conv => whnf)
    | (refine IdxK.map (by omega) (fun _ => rfl) ?_; conv => whnf)
    | (refine IdxK.xs (by omega) ?_; conv => whnf)
    | (refine IdxK.ss (by omega) ?_; conv => whnf)
    | (refine ByteK.at (by omega) ?_; conv => whnf)
    | (refine Wr.i64 (by omega) (by omega) ?_; conv => whnf))
  exact RetK.bool idxF_ge
theorem DrawK.le {P : Program} {T : Tab} {N : Nat} {ops : Array Oper} {info : Info} {id : Nat} {K : St → Prop} {s s' : St} (hle : Le N s s') (h : DrawK P T N info id ops K s') : DrawK P T N info id ops K s := by
  refine ⟨⟨fun σ β a w hr => ?_⟩⟩
  obtain ⟨σ1, β1, hr1, hl1⟩ := hle σ β a w hr
  refine Code.wp_mono (fun e a' w' hk => ?_) (h.ok.ok σ1 β1 a w hr1)
  obtain ⟨σ', β', s2, hk, hr', hl⟩ := hk
  exact ⟨σ', β', s2, hk, hr', hl1.trans hl⟩
theorem compFrom_mem : ∀ (a : Step) (l : List Step) (s : Step), s ∈ compFrom a l → s ∈ l
  | _, [], _, h => by rw [compFrom] at h; cases h
  | a, b :: r, s, h => by
    rw [compFrom] at h
    cases hb : sameStep b a with
    | true => rw [hb] at h; exact List.mem_cons_of_mem _ (compFrom_mem b r s h)
    | false =>
      rw [hb] at h
      rcases List.mem_cons.1 h with rfl | h
      · exact List.mem_cons_self
      · exact List.mem_cons_of_mem _ (compFrom_mem b r s h)
theorem normS_mem {l : List Step} {s : Step} (h : s ∈ normS l) : s ∈ l := by
  unfold normS at h
  have : s ∈ sortSt l := by
    cases hq : sortSt l with
    | nil => rw [hq] at h; cases h
    | cons a r =>
      rw [hq] at h
      rcases List.mem_cons.1 h with rfl | h
      · exact List.mem_cons_self
      · exact List.mem_cons_of_mem _ (compFrom_mem a r s h)
  exact (sortSt_perm l).mem_iff.1 this
def stAt (p : Pg) (id : Int) : Option S := ((sheetOf p).l[(id - 1).toNat]?).map Item.s
def keepE (p : Pg) (some' : List Str) (t : Step) : Bool := decide (t.src = 0) || match stAt p t.src with
  | some s => !(decide (s.kind = 4) && !(some'.any fun x => s.proc == x))
  | none => true
def endsW (w : Way) (f : Pr) (some' : List Str) : Bool :=
  (lstI 0 (reachB (graphE (cntL f.body + 2) ((w.real.filter (keepE w.p some')).map (ixP w.p w.j f w.n))).1 [0])).any fun s => decide (w.n - 1 = s)
set_option maxHeartbeats 2000000 in
set_option maxRecDepth 100000 in
theorem way_Way_Ends (w : Way) (f : Pr) (hj : w.p.procs[w.j]? = some f) (hc : cntP w.p.procs ≤ 200) (hn : w.n = (cntL f.body + 2 : Nat)) (hr : ∀ t ∈ w.real, t.src = 0 ∨ (1 ≤ t.src ∧ t.src ≤ (sheetOf w.p).l.length)) (hlen : w.real.length ≤ 100000) (some' : List Str) : SpecP Tryz.prog 80 [.ip w.cells, eStrs some'] (fun r => r = .bool (endsW w f some')) := by
  refine SpecP.body I_way_Way_Ends tabOK Tryz.func80 rfl Tryz.call80 (by show 2 ≤ _; decide) ?_
  conv => whnf
  obtain ⟨_, _, _, hsl, hsp⟩ := sheet_spec w.p
  obtain ⟨_, _, hle, _⟩ := hsp w.j f hj
  have hl : (w.real.map fun s => AV.agg s.cells).length = w.real.length := List.length_map _
  repeat' (
    first
    | (intro (_ : _ ≤ 9223372036854775807); conv => whnf)
    | (refine Br.dec (fun _ => ?_) (fun _ => ?_) <;> first | (exfalso; omega) | conv => whnf)
    | (refine Br.dec2 (fun _ => ?_) (fun _ => ?_) <;> first | (exfalso; omega) | conv => whnf)
    | (refine DrawK.auto tabOK mixed (by kernel_rfl) ?_; conv => whnf)
    | (refine Br.n (fun _ => ?_) (fun _ => ?_) <;> conv => whnf)
    | (refine Br.b (fun _ => ?_) (fun _ => ?_) <;> conv => whnf)
    | (refine And.intro rfl ?_; conv => whnf)
    | (refine And.intro ⟨by decide, by decide⟩ ?_; conv => whnf)
    | (refine And.intro ⟨rfl, rfl, by decide⟩ ?_; conv => whnf)
    | (refine BsK.pure (fun x hx => by rcases List.mem_singleton.1 hx with rfl; rfl) rfl ?_; conv => whnf)
    | (refine IdxK.map (by omega) (fun _ => rfl) ?_; conv => whnf)
    | (refine IdxK.xs (by omega) ?_; conv => whnf)
    | (refine IdxK.ss (by omega) ?_; conv => whnf)
    | (refine ByteK.at (by omega) ?_; conv => whnf)
    | (refine Wr.i64 (by omega) (by omega) ?_; conv => whnf))
  refine LoopK.inv tabOK (fun x : Nat × List Step => ⟨[(0, .p (.ip w.cells)), (1, .p (eStrs some')), (5, .hd 0 0 x.2.length), (12, .p (eSteps w.real)), (13, .p (.int .i64 (w.real.map fun s => AV.agg s.cells).length)), (14, .p (.int .i64 x.1))], [(0, .own 45 3 (avS x.2))]⟩)
    (fun x => x.1 ≤ w.real.length ∧ x.2.length ≤ x.1 ∧ x.2 ++ (w.real.drop x.1).filter (keepE w.p some') = w.real.filter (keepE w.p some')) (fun x => w.real.length - x.1) (0, [])
    (Le.mk [(0, .own 45 3 [])] (by simp [Chunk.new0]; rfl) (by simp) (by simp) (.cons (.refl _) (.cons (.refl _) (.cons (.nil List.mem_cons_self) (.cons (.refl _) (.cons (.refl _) (.cons (.refl _) .nil)))))) (.new List.mem_cons_self .nil))
    ⟨Nat.zero_le _, Nat.le_refl _, rfl⟩ ?_
  rintro ⟨i, acc⟩ ⟨h2, h3, h4⟩
  simp only at h2 h3 h4 ⊢
  rcases Nat.lt_or_ge i w.real.length with hi | hi
  rotate_left 1
  · rw [List.drop_eq_nil_of_le hi, List.filter_nil, List.append_nil] at h4
    unfold endsW
    rw [← h4]
    conv => whnf
    repeat' (
      first
      | (intro (_ : _ ≤ 9223372036854775807); conv => whnf)
      | (refine Br.dec (fun _ => ?_) (fun _ => ?_) <;> first | (exfalso; omega) | conv => whnf)
      | (refine Br.dec2 (fun _ => ?_) (fun _ => ?_) <;> first | (exfalso; omega) | conv => whnf)
      | (refine Br.n (fun _ => ?_) (fun _ => ?_) <;> conv => whnf)
      | (refine Br.b (fun _ => ?_) (fun _ => ?_) <;> conv => whnf)
      | (refine And.intro rfl ?_; conv => whnf)
      | (refine And.intro ⟨by decide, by decide⟩ ?_; conv => whnf)
      | (refine And.intro ⟨rfl, rfl, by decide⟩ ?_; conv => whnf)
      | (refine BsK.pure (fun x hx => by rcases List.mem_singleton.1 hx with rfl; rfl) rfl ?_; conv => whnf)
      | (refine IdxK.map (by omega) (fun _ => rfl) ?_; conv => whnf)
      | (refine IdxK.xs (by omega) ?_; conv => whnf)
      | (refine IdxK.ss (by omega) ?_; conv => whnf)
      | (refine ByteK.at (by omega) ?_; conv => whnf)
      | (refine Wr.i64 (by omega) (by omega) ?_; conv => whnf))
    have hacl : acc.length ≤ 1000000 := by omega
    refine DrawK.le (s' := ⟨[(0, .p (.ip w.cells)), (5, .p (eSteps acc))], []⟩) ?_ ?_
    · obtain ⟨s', ⟨k1, k2, k3⟩, hle⟩ := Le.row (N := Tryz.f80.ntmps) (s := ⟨[(0, .p (.ip w.cells)), (1, .p (eStrs some')), (5, .hd 0 0 acc.length), (12, .p (eSteps w.real)), (13, .p (.int .i64 (w.real.map fun s => AV.agg s.cells).length)), (14, .p (.int .i64 i)), (15, .p (.bool (decide ((i : Int) < (w.real.map fun s => AV.agg s.cells).length))))], [(0, .own 45 3 (avS acc))]⟩) (k := 0) (set := [5]) rfl (K := fun s => getS s.sl 0 = .p (.ip w.cells) ∧ getS s.sl 5 = .p (eSteps acc) ∧ s.H = []) ⟨by simp [avS], rfl, rfl, rfl⟩
      exact hle.trans (Le.mk [] (by simp) (by simp) (by simp) (.cons (by rw [k1]; exact .refl _) (.cons (by rw [k2]; exact .refl _) .nil)) .nil)
    have hgi := graphE_in (cntL f.body + 2) (acc.map (ixP w.p w.j f w.n))
    repeat' (
      first
      | (intro (_ : _ ≤ 9223372036854775807); conv => whnf)
      | (refine Br.dec (fun _ => ?_) (fun _ => ?_) <;> first | (exfalso; omega) | conv => whnf)
      | (refine Br.dec2 (fun _ => ?_) (fun _ => ?_) <;> first | (exfalso; omega) | conv => whnf)
      | (refine DrawK.auto tabOK mixed (by kernel_rfl) ?_; conv => whnf)
      | (refine Br.n (fun _ => ?_) (fun _ => ?_) <;> conv => whnf)
      | (refine Br.b (fun _ => ?_) (fun _ => ?_) <;> conv => whnf)
      | (refine CallK.pure (slices_Contains_int_int_ _ _) (by repeat' (first | exact ArgP.nil | refine ArgP.cons ?_ ?_ | exact Sub.refl _ | exact Sub.tt rfl | exact Sub.ff rfl)) ?_; rintro _ rfl; conv => whnf)
      | (refine And.intro rfl ?_; conv => whnf)
      | (refine And.intro ⟨by decide, by decide⟩ ?_; conv => whnf)
      | (refine And.intro ⟨rfl, rfl, by decide⟩ ?_; conv => whnf)
      | (refine BsK.pure (fun x hx => by rcases List.mem_singleton.1 hx with rfl; rfl) rfl ?_; conv => whnf)
      | (refine IdxK.map (by omega) (fun _ => rfl) ?_; conv => whnf)
      | (refine IdxK.xs (by omega) ?_; conv => whnf)
      | (refine IdxK.ss (by omega) ?_; conv => whnf)
      | (refine ByteK.at (by omega) ?_; conv => whnf)
      | (refine Wr.i64 (by omega) (by omega) ?_; conv => whnf)
      | (refine CallK.pure (way_Way_graph w f (cntL f.body+2) hn hj (by omega) (by omega) acc hacl) (.cons (Sub.refl _) (.cons (Sub.refl _) .nil)) ?_; rintro _ rfl; conv => whnf)
      | (refine BsK.pureL rfl rfl ?_; conv => whnf)
      | (refine CallK.pure (graph_Graph_Reach (cntL f.body+2) (by omega) _ hgi.1 [0] (by simp)) (.cons (Sub.refl _) (.cons (Sub.refl _) .nil)) ?_; rintro _ rfl; conv => whnf)
      | (refine And.intro ?_ ?_ <;> conv => whnf))
    all_goals exact RetK.bool rfl
  rw [List.drop_eq_getElem_cons hi, List.filter_cons] at h4
  have hsrc := hr _ (List.getElem_mem hi)
  conv => whnf
  have hidx : ¬ w.real[i].src = 0 → ∃ u : Item, ((sheetOf w.p).l.map fun i => AV.agg i.cells)[(w.real[i].src - 1).toNat]? = some (.agg u.cells) ∧ stAt w.p w.real[i].src = some u.s := fun h => by
    have hlt : (w.real[i].src - 1).toNat < (sheetOf w.p).l.length := by omega
    exact ⟨_, by rw [List.getElem?_map, List.getElem?_eq_getElem hlt]; rfl, by unfold stAt; rw [List.getElem?_eq_getElem hlt]; rfl⟩
  repeat' (
    first
    | (intro (_ : _ ≤ 9223372036854775807); conv => whnf)
    | (refine Br.dec (fun _ => ?_) (fun _ => ?_) <;> first | (exfalso; omega) | conv => whnf)
    | (refine Br.dec2 (fun _ => ?_) (fun _ => ?_) <;> first | (exfalso; omega) | conv => whnf)
    | (refine DrawK.auto tabOK mixed (by kernel_rfl) ?_; conv => whnf)
    | (refine Br.n (fun _ => ?_) (fun _ => ?_) <;> conv => whnf)
    | (refine Br.b (fun _ => ?_) (fun _ => ?_) <;> conv => whnf)
    | (refine CallK.pure (slices_Contains_string_string_ _ _) (by repeat' (first | exact ArgP.nil | refine ArgP.cons ?_ ?_ | exact Sub.refl _ | exact Sub.tt rfl | exact Sub.ff rfl)) ?_; rintro _ rfl; conv => whnf)
    | (refine And.intro rfl ?_; conv => whnf)
    | (refine And.intro ⟨by decide, by decide⟩ ?_; conv => whnf)
    | (refine And.intro ⟨rfl, rfl, by decide⟩ ?_; conv => whnf)
    | (refine BsK.pure (fun x hx => by rcases List.mem_singleton.1 hx with rfl; rfl) rfl ?_; conv => whnf)
    | (refine IdxK.map (by omega) (fun _ => rfl) ?_; conv => whnf)
    | (refine IdxK.xs (by omega) ?_; conv => whnf)
    | (refine IdxK.ss (by omega) ?_; conv => whnf)
    | (refine ByteK.at (by omega) ?_; conv => whnf)
    | (refine Wr.i64 (by omega) (by omega) ?_; conv => whnf)
    | (refine AppK.mk (by simp [avS]) rfl (by show (acc.length+1) * 24 ≤ 140737488355328; omega) (by show acc.length+1 ≤ 9223372036854775807; omega) (fun x hx => by rcases List.mem_singleton.1 hx with rfl; exact ⟨rfl, rfl⟩) ?_; conv => whnf)
    | (obtain ⟨u, hu1, hu2⟩ := hidx (by assumption); refine IdxK.at (by omega) hu1 rfl ?_; conv => whnf))
  all_goals first
    | exact ⟨(i + 1, acc ++ [w.real[i]]), ⟨by simp only; omega, by simp; omega, by
        have hk : keepE w.p some' w.real[i] = true := by unfold keepE; simp [*]; done
        rw [if_pos hk] at h4
        simpa using h4⟩, by simp only; omega, Le.of_eq (by simp only [avS, List.length_append, List.map_append]; rfl)⟩
    | exact ⟨(i + 1, acc), ⟨by simp only; omega, by simp only; omega, by
        have hk : ¬ keepE w.p some' w.real[i] = true := by unfold keepE; simp [*]; done
        rw [if_neg hk] at h4
        exact h4⟩, by simp only; omega, Le.of_eq rfl⟩
end Go.Ab
namespace Go.Ab
open Go.Proofs
def endS (p : Pg) (st : List Str × Bool) (k : Nat) : List Str × Bool := match p.procs[k]? with
  | some f => bif !(st.1.any fun s => f.name == s) && endsW (newWay p k f) f st.1 then (st.1 ++ [f.name], true) else st
  | none => st
def roundE (p : Pg) (out : List Str) : List Str × Bool := (List.range p.procs.length).foldl (endS p) (out, false)
def endsF (p : Pg) : Nat → List Str → List Str
  | 0, out => out
  | k + 1, out => bif (roundE p out).2 then endsF p k (roundE p out).1 else (roundE p out).1
/-- How many are not told yet. -/
def leftN (p : Pg) (out : List Str) : Nat := p.procs.countP fun f => !(out.any fun s => f.name == s)
theorem countP_less {α : Type} {p q : α → Bool} : ∀ {l : List α}, (∀ x ∈ l, q x = true → p x = true) → (∃ x ∈ l, p x = true ∧ q x = false) → l.countP q < l.countP p
  | [], _, h => by obtain ⟨x, hx, _⟩ := h; cases hx
  | a :: r, h1, h2 => by
    have hle : r.countP q ≤ r.countP p := List.countP_mono_left fun x hx => h1 x (List.mem_cons_of_mem _ hx)
    rw [List.countP_cons, List.countP_cons]
    have ha := h1 a List.mem_cons_self
    obtain ⟨x, hx, h3, h4⟩ := h2
    rcases List.mem_cons.1 hx with rfl | hx
    · rw [h3, h4]; simp; omega
    · have := countP_less (fun y hy => h1 y (List.mem_cons_of_mem _ hy)) ⟨x, hx, h3, h4⟩
      cases hq : q a with
      | true => rw [ha hq]; simp; omega
      | false => cases p a <;> simp <;> omega
theorem leftN_add {p : Pg} {out : List Str} {f : Pr} (hf : f ∈ p.procs) (h : (out.any fun s => f.name == s) = false) : leftN p (out ++ [f.name]) < leftN p out := by
  unfold leftN
  refine countP_less (fun g _ hg => ?_) ⟨f, hf, by rw [h]; rfl, by rw [List.any_append]; simp⟩
  rw [List.any_append] at hg
  cases hq : out.any fun s => g.name == s with
  | false => rfl
  | true => rw [hq] at hg; cases hg
def endsR (p : Pg) : List Str := bif chkB p then sortS (endsF p (p.procs.length + 1) []) else []
set_option maxHeartbeats 2000000 in
set_option maxRecDepth 100000 in
theorem cfg_Ends (p : Pg) (hf : Fit p) : SpecP Tryz.prog 31 [.agg p.cells] (fun r => r = eStrs (endsR p)) := by
  refine SpecP.body I_cfg_Ends tabOK Tryz.func31 rfl Tryz.call31 (by show 1 ≤ _; decide) ?_
  conv => whnf
  cases hc : chkB p with
  | false =>
    have e : endsR p = [] := by unfold endsR; rw [hc]; rfl
    have hA : ¬ (allB p).1 = 0 := by unfold chkB at hc; simpa using hc
    rw [e]
    repeat' (
      first
      | (intro (_ : _ ≤ 9223372036854775807); conv => whnf)
      | (refine Br.dec (fun _ => ?_) (fun _ => ?_) <;> first | (exfalso; omega) | conv => whnf)
      | (refine Br.dec2 (fun _ => ?_) (fun _ => ?_) <;> first | (exfalso; omega) | conv => whnf)
      | (refine DrawK.auto tabOK mixed (by kernel_rfl) ?_; conv => whnf)
      | (refine Br.n (fun _ => ?_) (fun _ => ?_) <;> conv => whnf)
      | (refine Br.b (fun _ => ?_) (fun _ => ?_) <;> conv => whnf)
      | (refine CallK.pure (check_May p hf) (by repeat' (first | exact ArgP.nil | refine ArgP.cons ?_ ?_ | exact Sub.refl _ | exact Sub.tt rfl | exact Sub.ff rfl | exact Sub.int (by omega))) ?_; rintro _ rfl; conv => whnf)
      | (refine And.intro rfl ?_; conv => whnf)
      | (refine And.intro ⟨by decide, by decide⟩ ?_; conv => whnf)
      | (refine And.intro ⟨rfl, rfl, by decide⟩ ?_; conv => whnf)
      | (refine BsK.pure (fun x hx => by rcases List.mem_singleton.1 hx with rfl; rfl) rfl ?_; conv => whnf)
      | (refine IdxK.map (by omega) (fun _ => rfl) ?_; conv => whnf)
      | (refine IdxK.xs (by omega) ?_; conv => whnf)
      | (refine IdxK.ss (by omega) ?_; conv => whnf)
      | (refine ByteK.at (by omega) ?_; conv => whnf)
      | (refine Wr.i64 (by omega) (by omega) ?_; conv => whnf))
    all_goals first
      | exact ⟨_, .p Sub.nils, rfl⟩
      | (exfalso; exact hA (by assumption))
  | true =>
    obtain ⟨hg, hpl, hcn⟩ := chk_cnt hc
    have hA : (allB p).1 = 0 := by unfold chkB at hc; simpa using hc
    have e : endsR p = sortS (endsF p (p.procs.length + 1) []) := by unfold endsR; rw [hc]; rfl
    rw [e]
    repeat' (
      first
      | (intro (_ : _ ≤ 9223372036854775807); conv => whnf)
      | (refine Br.dec (fun _ => ?_) (fun _ => ?_) <;> first | (exfalso; omega) | conv => whnf)
      | (refine Br.dec2 (fun _ => ?_) (fun _ => ?_) <;> first | (exfalso; omega) | conv => whnf)
      | (refine DrawK.auto tabOK mixed (by kernel_rfl) ?_; conv => whnf)
      | (refine Br.n (fun _ => ?_) (fun _ => ?_) <;> conv => whnf)
      | (refine Br.b (fun _ => ?_) (fun _ => ?_) <;> conv => whnf)
      | (refine CallK.pure (check_May p hf) (by repeat' (first | exact ArgP.nil | refine ArgP.cons ?_ ?_ | exact Sub.refl _ | exact Sub.tt rfl | exact Sub.ff rfl | exact Sub.int (by omega))) ?_; rintro _ rfl; conv => whnf)
      | (refine And.intro rfl ?_; conv => whnf)
      | (refine And.intro ⟨by decide, by decide⟩ ?_; conv => whnf)
      | (refine And.intro ⟨rfl, rfl, by decide⟩ ?_; conv => whnf)
      | (refine BsK.pure (fun x hx => by rcases List.mem_singleton.1 hx with rfl; rfl) rfl ?_; conv => whnf)
      | (refine IdxK.map (by omega) (fun _ => rfl) ?_; conv => whnf)
      | (refine IdxK.xs (by omega) ?_; conv => whnf)
      | (refine IdxK.ss (by omega) ?_; conv => whnf)
      | (refine ByteK.at (by omega) ?_; conv => whnf)
      | (refine Wr.i64 (by omega) (by omega) ?_; conv => whnf)
      | (refine CallK.pure (flat_New p (by omega) (by omega)) (.cons (Sub.refl _) .nil) ?_; rintro _ rfl; conv => whnf))
    have hl : (p.procs.map fun f => AV.agg f.cells).length = p.procs.length := List.length_map _
    have hl0 : leftN p [] ≤ p.procs.length := List.countP_le_length
    refine LoopK.inv tabOK (fun x : List Str × Bool => ⟨[(1, .p (.ip p.cells)), (3, .p (.ip (sheetOf p).cells)), (4, .hd 0 0 x.1.length), (5, .p (bv x.2))], [(0, .own 9 1 (x.1.map .str))]⟩)
      (fun x => x.1.length + leftN p x.1 ≤ p.procs.length ∧ (x.2 = true → ∃ k, leftN p x.1 < k ∧ endsF p k x.1 = endsF p (p.procs.length + 1) []) ∧ (x.2 = false → x.1 = endsF p (p.procs.length + 1) [])) (fun x => 2 * leftN p x.1 + x.2.toNat) ([], true)
      (Le.mk [(0, .own 9 1 [])] (by simp [Chunk.new0]; rfl) (by simp) (by simp) (.cons (.refl _) (.cons (.refl _) (.cons (.nil List.mem_cons_self) (.cons (.refl _) .nil)))) (.new List.mem_cons_self .nil))
      ⟨by simpa using hl0, fun _ => ⟨p.procs.length + 1, by show leftN p [] < _; omega, rfl⟩, by simp⟩ ?_
    rintro ⟨out, more⟩ ⟨h1, h2, h3⟩
    simp only at h1 h2 h3 ⊢
    cases more with
    | false =>
      have h3 := h3 rfl
      rw [← h3]
      conv => whnf
      repeat' (
        first
        | (intro (_ : _ ≤ 9223372036854775807); conv => whnf)
        | (refine Br.dec (fun _ => ?_) (fun _ => ?_) <;> first | (exfalso; omega) | conv => whnf)
        | (refine Br.dec2 (fun _ => ?_) (fun _ => ?_) <;> first | (exfalso; omega) | conv => whnf)
        | (refine DrawK.auto tabOK mixed (by kernel_rfl) ?_; conv => whnf)
        | (refine Br.n (fun _ => ?_) (fun _ => ?_) <;> conv => whnf)
        | (refine Br.b (fun _ => ?_) (fun _ => ?_) <;> conv => whnf)
        | (refine And.intro rfl ?_; conv => whnf)
        | (refine And.intro ⟨by decide, by decide⟩ ?_; conv => whnf)
        | (refine And.intro ⟨rfl, rfl, by decide⟩ ?_; conv => whnf)
        | (refine BsK.pure (fun x hx => by rcases List.mem_singleton.1 hx with rfl; rfl) rfl ?_; conv => whnf)
        | (refine IdxK.map (by omega) (fun _ => rfl) ?_; conv => whnf)
        | (refine IdxK.xs (by omega) ?_; conv => whnf)
        | (refine IdxK.ss (by omega) ?_; conv => whnf)
        | (refine ByteK.at (by omega) ?_; conv => whnf)
        | (refine Wr.i64 (by omega) (by omega) ?_; conv => whnf)
        | (refine CallK.heap [(1000, 0)] 0 (by repeat' (first | exact ArgsH.nil | refine ArgsH.cons ?_ ?_ | exact LSub.refl _ | exact LSub.p Sub.nils | exact LSub.p (Sub.tt rfl) | exact LSub.p (Sub.ff rfl) | exact LSub.p (Sub.int (by omega)))) (by refine BlksH.cons (j := 0) rfl rfl ?_ ?_; exact CSub.refl _; exact BlksH.nil) (slices_Sort out (by omega)) rfl rfl ?_; rintro l' H' ⟨rfl, rfl⟩; conv => whnf))
      exact ⟨_, .hd rfl (by simp [sortS_len]), rfl⟩
    | true =>
      obtain ⟨k, hk1, hk2⟩ := h2 rfl
      clear h2 h3
      conv => whnf
      repeat' (
        first
        | (intro (_ : _ ≤ 9223372036854775807); conv => whnf)
        | (refine Br.dec (fun _ => ?_) (fun _ => ?_) <;> first | (exfalso; omega) | conv => whnf)
        | (refine Br.dec2 (fun _ => ?_) (fun _ => ?_) <;> first | (exfalso; omega) | conv => whnf)
        | (refine DrawK.auto tabOK mixed (by kernel_rfl) ?_; conv => whnf)
        | (refine Br.n (fun _ => ?_) (fun _ => ?_) <;> conv => whnf)
        | (refine Br.b (fun _ => ?_) (fun _ => ?_) <;> conv => whnf)
        | (refine And.intro rfl ?_; conv => whnf)
        | (refine And.intro ⟨by decide, by decide⟩ ?_; conv => whnf)
        | (refine And.intro ⟨rfl, rfl, by decide⟩ ?_; conv => whnf)
        | (refine BsK.pure (fun x hx => by rcases List.mem_singleton.1 hx with rfl; rfl) rfl ?_; conv => whnf)
        | (refine IdxK.map (by omega) (fun _ => rfl) ?_; conv => whnf)
        | (refine IdxK.xs (by omega) ?_; conv => whnf)
        | (refine IdxK.ss (by omega) ?_; conv => whnf)
        | (refine ByteK.at (by omega) ?_; conv => whnf)
        | (refine Wr.i64 (by omega) (by omega) ?_; conv => whnf))
      refine LoopK.inv tabOK (fun x : Nat × List Str × Bool => ⟨[(1, .p (.ip p.cells)), (3, .p (.ip (sheetOf p).cells)), (4, .hd 0 0 x.2.1.length), (5, .p (bv x.2.2)), (15, .p (.sl (p.procs.map fun f => .agg f.cells))), (16, .p (.int .i64 (p.procs.map fun f => AV.agg f.cells).length)), (17, .p (.int .i64 x.1))], [(0, .own 9 1 (x.2.1.map .str))]⟩)
        (fun x => x.1 ≤ p.procs.length ∧ ((List.range p.procs.length).drop x.1).foldl (endS p) x.2 = roundE p out ∧ x.2.1.length + leftN p x.2.1 ≤ p.procs.length ∧ leftN p x.2.1 + x.2.2.toNat ≤ leftN p out ∧ (x.2.2 = false → x.2.1 = out)) (fun x => p.procs.length - x.1) (0, out, false) (Le.of_eq rfl) ⟨Nat.zero_le _, rfl, h1, Nat.le_refl _, fun _ => rfl⟩ ?_
      rintro ⟨m, o, b⟩ ⟨h4, h5, h6, h7, h8⟩
      simp only at h4 h5 h6 h7 h8 ⊢
      rcases Nat.lt_or_ge m p.procs.length with hm | hm
      rotate_left 1
      · rw [List.drop_eq_nil_of_le (by simpa using hm), List.foldl_nil] at h5
        obtain ⟨k', rfl⟩ : ∃ k', k = k' + 1 := ⟨k - 1, by omega⟩
        rw [endsF, ← h5] at hk2
        conv => whnf
        repeat' (
          first
          | (intro (_ : _ ≤ 9223372036854775807); conv => whnf)
          | (refine Br.dec (fun _ => ?_) (fun _ => ?_) <;> first | (exfalso; omega) | conv => whnf)
          | (refine Br.dec2 (fun _ => ?_) (fun _ => ?_) <;> first | (exfalso; omega) | conv => whnf)
          | (refine DrawK.auto tabOK mixed (by kernel_rfl) ?_; conv => whnf)
          | (refine Br.n (fun _ => ?_) (fun _ => ?_) <;> conv => whnf)
          | (refine Br.b (fun _ => ?_) (fun _ => ?_) <;> conv => whnf)
          | (refine And.intro rfl ?_; conv => whnf)
          | (refine And.intro ⟨by decide, by decide⟩ ?_; conv => whnf)
          | (refine And.intro ⟨rfl, rfl, by decide⟩ ?_; conv => whnf)
          | (refine BsK.pure (fun x hx => by rcases List.mem_singleton.1 hx with rfl; rfl) rfl ?_; conv => whnf)
          | (refine IdxK.map (by omega) (fun _ => rfl) ?_; conv => whnf)
          | (refine IdxK.xs (by omega) ?_; conv => whnf)
          | (refine IdxK.ss (by omega) ?_; conv => whnf)
          | (refine ByteK.at (by omega) ?_; conv => whnf)
          | (refine Wr.i64 (by omega) (by omega) ?_; conv => whnf))
        cases b with
        | true => exact ⟨(o, true), ⟨h6, fun _ => ⟨k', by show leftN p o < k'; simp only [Bool.toNat_true] at h7; omega, hk2⟩, by simp⟩, by simp only [Bool.toNat_true] at h7 ⊢; omega, Le.mk [] (by simp) (by simp) (by simp) (.cons (.refl _) (.cons (.refl _) (.cons (.refl _) (.cons (.refl _) .nil)))) (.cons rfl (.refl _) .nil)⟩
        | false => exact ⟨(o, false), ⟨h6, by simp, fun _ => hk2⟩, by simp only [Bool.toNat_true, Bool.toNat_false] at h7 ⊢; omega, Le.mk [] (by simp) (by simp) (by simp) (.cons (.refl _) (.cons (.refl _) (.cons (.refl _) (.cons (.refl _) .nil)))) (.cons rfl (.refl _) .nil)⟩
      have hmr : m < (List.range p.procs.length).length := by simpa using hm
      rw [List.drop_eq_getElem_cons hmr, List.foldl_cons, List.getElem_range] at h5
      have hkj : p.procs[m]? = some p.procs[m] := by simp
      obtain ⟨w1, w2, w3⟩ := chk_way hc hkj
      obtain ⟨_, _, _, hsl, hsp⟩ := sheet_spec p
      obtain ⟨_, _, hle, _⟩ := hsp m _ hkj
      have hreal : ∀ t ∈ (newWay p m p.procs[m]).real, t.src = 0 ∨ (1 ≤ t.src ∧ t.src ≤ (sheetOf p).l.length) := fun t ht => by
        have := (w2 t (normS_mem ht)).1
        omega
      have hrl : (newWay p m p.procs[m]).real.length ≤ 100000 := by
        have h9 := normS_len (stepsRaw p m p.procs[m])
        have h10 := stepsRaw_len p m p.procs[m]
        show (normS (stepsRaw p m p.procs[m])).length ≤ 100000
        omega
      have hE := way_Way_Ends (newWay p m p.procs[m]) p.procs[m] hkj hcn rfl hreal hrl o
      have hst : endS p (o, b) m = bif !(o.any fun s => p.procs[m].name == s) && endsW (newWay p m p.procs[m]) p.procs[m] o then (o ++ [p.procs[m].name], true) else (o, b) := by unfold endS; rw [hkj]
      rw [hst] at h5
      conv => whnf
      repeat' (
        first
        | (intro (_ : _ ≤ 9223372036854775807); conv => whnf)
        | (refine Br.dec (fun _ => ?_) (fun _ => ?_) <;> first | (exfalso; omega) | conv => whnf)
        | (refine Br.dec2 (fun _ => ?_) (fun _ => ?_) <;> first | (exfalso; omega) | conv => whnf)
        | (refine DrawK.auto tabOK mixed (by kernel_rfl) ?_; conv => whnf)
        | (refine Br.n (fun _ => ?_) (fun _ => ?_) <;> conv => whnf)
        | (refine Br.b (fun _ => ?_) (fun _ => ?_) <;> conv => whnf)
        | (refine CallK.borrow (slices_Contains_string_string_ _ _) (.cons (.p (Sub.refl _)) (.cons (.p (Sub.refl _)) .nil)) (by rintro _ rfl; rfl) ?_; rintro _ rfl; conv => whnf)
        | (refine And.intro rfl ?_; conv => whnf)
        | (refine And.intro ⟨by decide, by decide⟩ ?_; conv => whnf)
        | (refine And.intro ⟨rfl, rfl, by decide⟩ ?_; conv => whnf)
        | (refine BsK.pure (fun x hx => by rcases List.mem_singleton.1 hx with rfl; rfl) rfl ?_; conv => whnf)
        | (refine IdxK.map (by omega) (fun _ => rfl) ?_; conv => whnf)
        | (refine IdxK.xs (by omega) ?_; conv => whnf)
        | (refine IdxK.ss (by omega) ?_; conv => whnf)
        | (refine ByteK.at (by omega) ?_; conv => whnf)
        | (refine Wr.i64 (by omega) (by omega) ?_; conv => whnf)
        | (refine CallK.borrow (slices_Contains_string_string_ o p.procs[m].name) (.cons (.hd rfl (by simp)) (.cons (.p (Sub.refl _)) .nil)) (by rintro _ rfl; rfl) ?_; rintro _ rfl; conv => whnf)
        | (refine CallK.pure (way_New p m p.procs[m] hkj (by omega) w1 w3) (.cons (Sub.refl _) (.cons (Sub.refl _) .nil)) ?_; rintro _ rfl; conv => whnf)
        | (refine CallK.borrow hE (.cons (.p (Sub.refl _)) (.cons (.hd rfl (by simp)) .nil)) (by rintro _ rfl; rfl) ?_; rintro _ rfl; conv => whnf)
        | (refine AppK.str1 (by simp) (by rw [List.length_map]; omega) ?_; conv => whnf))
      all_goals first
        | (have e1 : (!(o.any fun s => p.procs[m].name == s) && endsW (newWay p m p.procs[m]) p.procs[m] o) = true := by simp [*]; done
           rw [e1, cond_true] at h5
           have h9 := leftN_add (p := p) (out := o) (f := p.procs[m]) (List.getElem_mem hm) (by assumption)
           exact ⟨(m + 1, o ++ [p.procs[m].name], true), ⟨by simp only; omega, h5, by simp; omega, by show leftN p (o ++ [p.procs[m].name]) + 1 ≤ _; omega, by simp⟩, by simp only; omega, Le.of_eq (by simp only [List.length_append, List.map_append]; rfl)⟩)
        | (have e1 : (!(o.any fun s => p.procs[m].name == s) && endsW (newWay p m p.procs[m]) p.procs[m] o) = false := by simp [*]; done
           rw [e1, cond_false] at h5
           exact ⟨(m + 1, o, b), ⟨by simp only; omega, h5, h6, h7, h8⟩, by simp only; omega, Le.of_eq rfl⟩)
end Go.Ab
namespace Go.Ab
open Go.Proofs
/-- One step stands ahead of another one. -/
def ltSt (a b : Step) : Prop := rankI a.src < rankI b.src ∨ (rankI a.src = rankI b.src ∧ rankI a.dst < rankI b.dst)
def okS1 (s : Step) : Prop := okSt s ∧ s.kind = 1
theorem Step.eq_of {a b : Step} (h1 : a.src = b.src) (h2 : a.dst = b.dst) (h3 : a.kind = b.kind) : a = b := by
  cases a; cases b; simp_all
theorem stepLt_iff {a b : Step} : stepLt a b = true ↔ rankI a.src < rankI b.src ∨ (rankI a.src = rankI b.src ∧ (rankI a.dst < rankI b.dst ∨ (rankI a.dst = rankI b.dst ∧ a.kind < b.kind))) := by
  have h : stepLt a b = decide (stepC a b < 0) := rfl
  rw [h, decide_eq_true_eq]
  unfold stepC
  simp only [orI]
  split
  · rename_i h1
    rw [cmpI_zero] at h1
    split
    · rename_i h2
      rw [cmpI_zero] at h2
      split
      · rename_i h3
        rw [cmpI_zero] at h3
        omega
      · rw [cmpI_neg]; omega
    · rename_i h2
      rw [cmpI_zero] at h2
      rw [cmpI_neg]
      omega
  · rename_i h1
    rw [cmpI_zero] at h1
    rw [cmpI_neg]
    omega
theorem sortSt_sorted (l : List Step) : (sortSt l).Pairwise fun a b => stepLt b a = false := by
  have := List.pairwise_mergeSort (le := fun x y => !stepLt y x) (fun a b c h1 h2 => by
    simp only [Bool.not_eq_true'] at h1 h2 ⊢
    rw [Bool.eq_false_iff, ne_eq, stepLt_iff] at h1 h2 ⊢
    omega) (fun a b => by
    cases h1 : stepLt b a with
    | false => rfl
    | true =>
      have h2 : stepLt a b = false := by
        rw [Bool.eq_false_iff, ne_eq, stepLt_iff]
        rw [stepLt_iff] at h1
        omega
      rw [h2]
      rfl) l
  refine List.Pairwise.imp ?_ this
  intro a b h
  simpa using h
theorem sameStep_iff {a b : Step} (ha : okS1 a) (hb : okS1 b) : sameStep a b = true ↔ a = b := by
  unfold sameStep
  simp only [Bool.and_eq_true, decide_eq_true_eq]
  refine ⟨fun h => Step.eq_of h.1 h.2 (by rw [ha.2, hb.2]), fun h => by rw [h]; exact ⟨rfl, rfl⟩⟩
theorem ltSt_of {a b : Step} (ha : okS1 a) (hb : okS1 b) (h : stepLt b a = false) (hne : a ≠ b) : ltSt a b := by
  rw [Bool.eq_false_iff, ne_eq, stepLt_iff] at h
  unfold ltSt
  by_cases h1 : rankI a.src = rankI b.src
  · by_cases h2 : rankI a.dst = rankI b.dst
    · exact absurd (Step.eq_of (rankI_inj ha.1.1 hb.1.1 h1) (rankI_inj ha.1.2 hb.1.2 h2) (by rw [ha.2, hb.2])) hne
    · omega
  · omega
theorem ltSt_trans {a b c : Step} (h : ltSt a b) (h' : ltSt b c) : ltSt a c := by unfold ltSt at *; omega
theorem ltSt_irrefl {a : Step} (h : ltSt a a) : False := by unfold ltSt at h; omega
theorem compFrom_spec : ∀ (l : List Step) (a : Step), okS1 a → (∀ s ∈ l, okS1 s) → (a :: l).Pairwise (fun a b => stepLt b a = false) → (a :: compFrom a l).Pairwise ltSt ∧ ∀ s, s ∈ a :: compFrom a l ↔ s ∈ a :: l
  | [], a, _, _, _ => ⟨by simp [compFrom], by simp [compFrom]⟩
  | b :: r, a, ha, hl, h => by
    have hb := hl b List.mem_cons_self
    have hr : ∀ s ∈ r, okS1 s := fun s hs => hl s (List.mem_cons_of_mem _ hs)
    rw [List.pairwise_cons] at h
    obtain ⟨h1, h2⟩ := h
    obtain ⟨i1, i2⟩ := compFrom_spec r b hb hr h2
    rw [compFrom]
    cases hs : sameStep b a with
    | true =>
      obtain rfl := (sameStep_iff hb ha).1 hs
      rw [cond_true]
      exact ⟨i1, fun s => by rw [i2]; simp⟩
    | false =>
      rw [cond_false]
      have hne : a ≠ b := fun e => by
        rw [(sameStep_iff hb ha).2 e.symm] at hs
        cases hs
      have hlt := ltSt_of ha hb (h1 b List.mem_cons_self) hne
      refine ⟨?_, fun s => by rw [List.mem_cons, i2, ← List.mem_cons (a := s) (b := a)]⟩
      rw [List.pairwise_cons]
      refine ⟨fun s hsm => ?_, i1⟩
      rcases List.mem_cons.1 hsm with rfl | hsm
      · exact hlt
      · exact ltSt_trans hlt ((List.pairwise_cons.1 i1).1 s hsm)
theorem normS_spec {l : List Step} (hok : ∀ s ∈ l, okS1 s) : (normS l).Pairwise ltSt ∧ ∀ s, s ∈ normS l ↔ s ∈ l := by
  have hp : ∀ s, s ∈ sortSt l ↔ s ∈ l := fun s => (sortSt_perm l).mem_iff
  have hs := sortSt_sorted l
  unfold normS
  cases hq : sortSt l with
  | nil =>
    rw [hq] at hp
    exact ⟨by simp [compF], fun s => by rw [← hp]; simp [compF]⟩
  | cons a r =>
    rw [hq] at hp hs
    have hok' : ∀ s ∈ a :: r, okS1 s := fun s h => hok s ((hp s).1 h)
    obtain ⟨h1, h2⟩ := compFrom_spec r a (hok' a List.mem_cons_self) (fun s h => hok' s (List.mem_cons_of_mem _ h)) hs
    exact ⟨h1, fun s => by rw [compF, h2, hp]⟩
theorem stepsRaw_ok1 {p : Pg} (h : chkB p = true) {j : Nat} {f : Pr} (hj : p.procs[j]? = some f) : ∀ s ∈ stepsRaw p j f, okS1 s := by
  obtain ⟨_, _, h3⟩ := chk_way h hj
  intro s hs
  refine ⟨h3 s hs, ?_⟩
  unfold stepsRaw at hs
  rcases List.mem_cons.1 hs with rfl | hs
  · rfl
  · obtain ⟨it, _, hz⟩ := List.mem_flatMap.1 hs
    obtain ⟨y, _, rfl⟩ := List.mem_map.1 hz
    rfl
/-- A procedure's steps: in order, each once. -/
theorem real_spec {p : Pg} (h : chkB p = true) {j : Nat} {f : Pr} (hj : p.procs[j]? = some f) : (newWay p j f).real.Pairwise ltSt ∧ ∀ s, s ∈ (newWay p j f).real ↔ s ∈ stepsRaw p j f := normS_spec (stepsRaw_ok1 h hj)
/-- Only the first one begins at the entry. -/
theorem raw_src0 {p : Pg} (h : chkB p = true) {j : Nat} {f : Pr} (hj : p.procs[j]? = some f) {s : Step} (hs : s ∈ stepsRaw p j f) : s = ⟨0, fstI p j f, 1⟩ ∨ (1 ≤ s.src ∧ s.src ≤ 9223372036854775806) := by
  obtain ⟨_, _, hcn⟩ := chk_cnt h
  obtain ⟨_, _, _, hlen, hsp⟩ := sheet_spec p
  obtain ⟨_, _, hle, _⟩ := hsp j f hj
  unfold stepsRaw at hs
  rcases List.mem_cons.1 hs with rfl | hs
  · exact .inl rfl
  · obtain ⟨it, hit, hz⟩ := List.mem_flatMap.1 hs
    obtain ⟨y, _, rfl⟩ := List.mem_map.1 hz
    have := body_id (chk_parts h).1 hj (its_s hit)
    refine .inr ?_
    simp only
    omega
theorem real_head {p : Pg} (h : chkB p = true) {j : Nat} {f : Pr} (hj : p.procs[j]? = some f) : ∃ r, (newWay p j f).real = ⟨0, fstI p j f, 1⟩ :: r ∧ ∀ s ∈ r, s.src ≠ 0 := by
  obtain ⟨h1, h2⟩ := real_spec h hj
  have hm : (⟨0, fstI p j f, 1⟩ : Step) ∈ (newWay p j f).real := (h2 _).2 (by unfold stepsRaw; exact List.mem_cons_self)
  generalize (newWay p j f).real = L at h1 h2 hm
  cases L with
  | nil => cases hm
  | cons a r =>
    rw [List.pairwise_cons] at h1
    have r0 : ∀ s : Step, 1 ≤ s.src ∧ s.src ≤ 9223372036854775806 → 0 < rankI s.src := fun s hs => by unfold rankI; split <;> omega
    have ha : a = ⟨0, fstI p j f, 1⟩ := by
      rcases raw_src0 h hj ((h2 a).1 List.mem_cons_self) with e | e
      · exact e
      · rcases List.mem_cons.1 hm with e' | hm
        · exact e'.symm
        · have h3 := h1.1 _ hm
          have h4 := r0 a e
          have h5 : rankI (0 : Int) = 0 := rfl
          unfold ltSt at h3
          simp only at h3
          omega
    subst ha
    refine ⟨r, rfl, fun s hs h0 => ?_⟩
    rcases raw_src0 h hj ((h2 s).1 (List.mem_cons_of_mem _ hs)) with e | e
    · subst e
      exact ltSt_irrefl (h1.1 _ hs)
    · omega
theorem fst_head {p : Pg} (h : chkB p = true) {j : Nat} {f : Pr} (hj : p.procs[j]? = some f) : fstI p j f = headI f.body (-1) := by
  have h1 := may_ids (chk_parts h).1 hj
  unfold fstI
  cases hb : f.body with
  | nil => rw [cntL, if_neg (by omega)]; rfl
  | cons t r =>
    rw [hb, flL, flS_eq] at h1
    have h3 : 1 ≤ cntL (t :: r) := by rw [cntL, cntS_eq]; omega
    rw [if_pos (by omega)]
    have h4 := congrArg (fun l => l[0]?) h1
    simp only [List.cons_append, List.map_cons] at h4
    unfold idsN at h4
    rw [List.getElem?_map, List.getElem?_range' (by omega)] at h4
    simp at h4
    show _ = t.id
    omega
end Go.Ab
namespace Go.Ab
open Go.Proofs
def satI (x : Int) : Int := if x > 20000 then 20001 else x
theorem satI_sat {a b : Int} (hb : 0 ≤ b) : satI (satI a + b) = satI (a + b) := by
  unfold satI
  split <;> split <;> (try split) <;> omega
theorem satI_rng {a : Int} (h : 0 ≤ a) : 0 ≤ satI a ∧ satI a ≤ 20001 := by
  unfold satI
  split <;> omega
theorem satI_id {a : Int} (h : a ≤ 20001) : satI a = a := by
  unfold satI
  split <;> omega
theorem satI_full {a b : Int} (h : a > 20000) (h1 : a ≤ 20001) (hb : 0 ≤ b) : a = satI (a + b) := by
  unfold satI
  split <;> omega
set_option maxRecDepth 100000 in
theorem whittlerref3_weighText (s : Str) (n : Int) (hn : 0 ≤ n ∧ n ≤ 20001) : SpecP Tryz.prog 63 [.str s, .int .i64 n] (fun r => r = .int .i64 (satI (n + (1 + s.length : Nat)))) := by
  refine SpecP.body I_whittlerref3_weighText tabOK Tryz.func63 rfl Tryz.call63 (by show 2 ≤ _; decide) ?_
  conv => whnf
  repeat' (
    first
    | (intro (_ : _ ≤ 9223372036854775807); conv => whnf)
    | (refine Br.dec (fun _ => ?_) (fun _ => ?_) <;> first | (exfalso; omega) | conv => whnf)
    | (refine Br.dec2 (fun _ => ?_) (fun _ => ?_) <;> first | (exfalso; omega) | conv => whnf)
    | (refine DrawK.auto tabOK mixed (by kernel_rfl) ?_; conv => whnf)
    | (refine Br.n (fun _ => ?_) (fun _ => ?_) <;> conv => whnf)
    | (refine Br.b (fun _ => ?_) (fun _ => ?_) <;> conv => whnf)
    | (refine And.intro rfl ?_; conv => whnf)
    | (refine And.intro ⟨by decide, by decide⟩ ?_; conv => whnf)
    | (refine And.intro ⟨rfl, rfl, by decide⟩ ?_; conv => whnf)
    | (refine BsK.pure (fun x hx => by rcases List.mem_singleton.1 hx with rfl; rfl) rfl ?_; conv => whnf)
    | (refine IdxK.map (by omega) (fun _ => rfl) ?_; conv => whnf)
    | (refine IdxK.xs (by omega) ?_; conv => whnf)
    | (refine IdxK.ss (by omega) ?_; conv => whnf)
    | (refine ByteK.at (by omega) ?_; conv => whnf)
    | (refine Wr.i64 (by omega) (by omega) ?_; conv => whnf))
  all_goals exact RetK.int (by unfold satI; (repeat' split) <;> omega)
set_option maxHeartbeats 1000000 in
set_option maxRecDepth 100000 in
theorem whittlerref3_weighTexts (l : List Str) (n : Int) (hn : 0 ≤ n ∧ n ≤ 20001) : SpecP Tryz.prog 62 [eStrs l, .int .i64 n] (fun r => r = .int .i64 (satI (n + wTxs l))) := by
  refine SpecP.body I_whittlerref3_weighTexts tabOK Tryz.func62 rfl Tryz.call62 (by show 2 ≤ _; decide) ?_
  conv => whnf
  repeat' (
    first
    | (intro (_ : _ ≤ 9223372036854775807); conv => whnf)
    | (refine Br.dec (fun _ => ?_) (fun _ => ?_) <;> first | (exfalso; omega) | conv => whnf)
    | (refine Br.dec2 (fun _ => ?_) (fun _ => ?_) <;> first | (exfalso; omega) | conv => whnf)
    | (refine DrawK.auto tabOK mixed (by kernel_rfl) ?_; conv => whnf)
    | (refine Br.n (fun _ => ?_) (fun _ => ?_) <;> conv => whnf)
    | (refine Br.b (fun _ => ?_) (fun _ => ?_) <;> conv => whnf)
    | (refine And.intro rfl ?_; conv => whnf)
    | (refine And.intro ⟨by decide, by decide⟩ ?_; conv => whnf)
    | (refine And.intro ⟨rfl, rfl, by decide⟩ ?_; conv => whnf)
    | (refine BsK.pure (fun x hx => by rcases List.mem_singleton.1 hx with rfl; rfl) rfl ?_; conv => whnf)
    | (refine IdxK.map (by omega) (fun _ => rfl) ?_; conv => whnf)
    | (refine IdxK.xs (by omega) ?_; conv => whnf)
    | (refine IdxK.ss (by omega) ?_; conv => whnf)
    | (refine ByteK.at (by omega) ?_; conv => whnf)
    | (refine Wr.i64 (by omega) (by omega) ?_; conv => whnf))
  have hl : (l.map AV.str).length = l.length := List.length_map _
  refine LoopK.inv tabOK (fun x : Nat × Int => ⟨[(0, .p (eStrs l)), (1, .p (.int .i64 x.2)), (5, .p (.int .i64 x.1))], []⟩) (fun x => x.1 ≤ l.length ∧ (0 ≤ x.2 ∧ x.2 ≤ 20001) ∧ satI (x.2 + wTxs (l.drop x.1)) = satI (n + wTxs l)) (fun x => l.length - x.1) (0, n) (Le.of_eq rfl) ⟨Nat.zero_le _, hn, rfl⟩ ?_
  rintro ⟨j, m⟩ ⟨h2, h3, h4⟩
  simp only at h2 h3 h4 ⊢
  rcases Nat.lt_or_ge j l.length with hj | hj
  · rw [List.drop_eq_getElem_cons hj, wTxs] at h4
    conv => whnf
    repeat' (
      first
      | (intro (_ : _ ≤ 9223372036854775807); conv => whnf)
      | (refine Br.dec (fun _ => ?_) (fun _ => ?_) <;> first | (exfalso; omega) | conv => whnf)
      | (refine Br.dec2 (fun _ => ?_) (fun _ => ?_) <;> first | (exfalso; omega) | conv => whnf)
      | (refine DrawK.auto tabOK mixed (by kernel_rfl) ?_; conv => whnf)
      | (refine Br.n (fun _ => ?_) (fun _ => ?_) <;> conv => whnf)
      | (refine Br.b (fun _ => ?_) (fun _ => ?_) <;> conv => whnf)
      | (refine CallK.pure (whittlerref3_weighText _ _ h3) (by repeat' (first | exact ArgP.nil | refine ArgP.cons ?_ ?_ | exact Sub.refl _ | exact Sub.tt rfl | exact Sub.ff rfl | exact Sub.int (by omega))) ?_; rintro _ rfl; conv => whnf)
      | (refine And.intro rfl ?_; conv => whnf)
      | (refine And.intro ⟨by decide, by decide⟩ ?_; conv => whnf)
      | (refine And.intro ⟨rfl, rfl, by decide⟩ ?_; conv => whnf)
      | (refine BsK.pure (fun x hx => by rcases List.mem_singleton.1 hx with rfl; rfl) rfl ?_; conv => whnf)
      | (refine IdxK.map (by omega) (fun _ => rfl) ?_; conv => whnf)
      | (refine IdxK.xs (by omega) ?_; conv => whnf)
      | (refine IdxK.ss (by omega) ?_; conv => whnf)
      | (refine ByteK.at (by omega) ?_; conv => whnf)
      | (refine Wr.i64 (by omega) (by omega) ?_; conv => whnf))
    · have h5 : satI (satI (m + (1 + l[j].length : Nat)) + wTxs (l.drop (j + 1))) = satI (n + wTxs l) := by
        rw [satI_sat (by omega), ← h4]
        congr 1
        omega
      exact ⟨(j + 1, satI (m + (1 + l[j].length : Nat))), ⟨by simp only; omega, satI_rng (by omega), h5⟩, by simp only; omega, Le.of_eq rfl⟩
    · exact RetK.int (by rw [← h4]; exact satI_full (by omega) h3.2 (by omega))
  · rw [List.drop_eq_nil_of_le hj, wTxs] at h4
    conv => whnf
    repeat' (
      first
      | (intro (_ : _ ≤ 9223372036854775807); conv => whnf)
      | (refine Br.dec (fun _ => ?_) (fun _ => ?_) <;> first | (exfalso; omega) | conv => whnf)
      | (refine Br.dec2 (fun _ => ?_) (fun _ => ?_) <;> first | (exfalso; omega) | conv => whnf)
      | (refine DrawK.auto tabOK mixed (by kernel_rfl) ?_; conv => whnf)
      | (refine Br.n (fun _ => ?_) (fun _ => ?_) <;> conv => whnf)
      | (refine Br.b (fun _ => ?_) (fun _ => ?_) <;> conv => whnf)
      | (refine And.intro rfl ?_; conv => whnf)
      | (refine And.intro ⟨by decide, by decide⟩ ?_; conv => whnf)
      | (refine And.intro ⟨rfl, rfl, by decide⟩ ?_; conv => whnf)
      | (refine BsK.pure (fun x hx => by rcases List.mem_singleton.1 hx with rfl; rfl) rfl ?_; conv => whnf)
      | (refine IdxK.map (by omega) (fun _ => rfl) ?_; conv => whnf)
      | (refine IdxK.xs (by omega) ?_; conv => whnf)
      | (refine IdxK.ss (by omega) ?_; conv => whnf)
      | (refine ByteK.at (by omega) ?_; conv => whnf)
      | (refine Wr.i64 (by omega) (by omega) ?_; conv => whnf))
    exact RetK.int (by rw [← h4, satI_id (by omega)]; simp)
set_option maxHeartbeats 2000000 in
set_option maxRecDepth 100000 in
theorem whittlerref3_weighExpr : ∀ (k : Nat) (x : X) (_ : wX x < k) (n : Int) (_ : 0 ≤ n ∧ n ≤ 20001), SpecP Tryz.prog 111 [.agg x.cells, .int .i64 n] (fun r => r = .int .i64 (satI (n + wX x))) := by
  intro k
  induction k with
  | zero => intro x h; omega
  | succ k ih =>
    intro x hx n hn
    have hxe : wX x = 1 + x.name.length + wXs x.kids := by cases x; rw [wX]; rfl
    have hkl := X.avs_len x.kids
    refine SpecP.body I_whittlerref3_weighExpr tabOK Tryz.func111 rfl Tryz.call111 (by show 2 ≤ _; decide) ?_
    conv => whnf
    repeat' (
      first
      | (intro (_ : _ ≤ 9223372036854775807); conv => whnf)
      | (refine Br.dec (fun _ => ?_) (fun _ => ?_) <;> first | (exfalso; omega) | conv => whnf)
      | (refine Br.dec2 (fun _ => ?_) (fun _ => ?_) <;> first | (exfalso; omega) | conv => whnf)
      | (refine DrawK.auto tabOK mixed (by kernel_rfl) ?_; conv => whnf)
      | (refine Br.n (fun _ => ?_) (fun _ => ?_) <;> conv => whnf)
      | (refine Br.b (fun _ => ?_) (fun _ => ?_) <;> conv => whnf)
      | (refine CallK.pure (whittlerref3_weighText _ _ hn) (by repeat' (first | exact ArgP.nil | refine ArgP.cons ?_ ?_ | exact Sub.refl _ | exact Sub.tt rfl | exact Sub.ff rfl | exact Sub.int (by omega))) ?_; rintro _ rfl; conv => whnf)
      | (refine And.intro rfl ?_; conv => whnf)
      | (refine And.intro ⟨by decide, by decide⟩ ?_; conv => whnf)
      | (refine And.intro ⟨rfl, rfl, by decide⟩ ?_; conv => whnf)
      | (refine BsK.pure (fun x hx => by rcases List.mem_singleton.1 hx with rfl; rfl) rfl ?_; conv => whnf)
      | (refine IdxK.map (by omega) (fun _ => rfl) ?_; conv => whnf)
      | (refine IdxK.xs (by omega) ?_; conv => whnf)
      | (refine IdxK.ss (by omega) ?_; conv => whnf)
      | (refine ByteK.at (by omega) ?_; conv => whnf)
      | (refine Wr.i64 (by omega) (by omega) ?_; conv => whnf))
    refine LoopK.inv tabOK (fun y : Nat × Int => ⟨[(1, .p (.int .i64 y.2)), (2, .p (.ip x.cells)), (5, .p (.int .i64 y.1))], []⟩) (fun y => y.1 ≤ x.kids.length ∧ (0 ≤ y.2 ∧ y.2 ≤ 20001) ∧ satI (y.2 + wXs (x.kids.drop y.1)) = satI (n + wX x)) (fun y => x.kids.length - y.1) (0, satI (n + (1 + x.name.length : Nat))) (Le.of_eq rfl) ⟨Nat.zero_le _, satI_rng (by omega), by
      show satI (satI (n + (1 + x.name.length : Nat)) + wXs x.kids) = _
      rw [satI_sat (by omega), hxe]
      congr 1
      omega⟩ ?_
    rintro ⟨j, m⟩ ⟨h2, h3, h4⟩
    simp only at h2 h3 h4 ⊢
    rcases Nat.lt_or_ge j x.kids.length with hj | hj
    · rw [List.drop_eq_getElem_cons hj, wXs] at h4
      have hkw : wX x.kids[j] < k := by
        have : ∀ (l : List X) (y : X), y ∈ l → wX y ≤ wXs l := fun l => by
          induction l with
          | nil => intro y h; cases h
          | cons a r ih =>
            intro y h
            rw [wXs]
            rcases List.mem_cons.1 h with rfl | h
            · omega
            · have := ih y h; omega
        have := this x.kids _ (List.getElem_mem hj)
        omega
      conv => whnf
      repeat' (
        first
        | (intro (_ : _ ≤ 9223372036854775807); conv => whnf)
        | (refine Br.dec (fun _ => ?_) (fun _ => ?_) <;> first | (exfalso; omega) | conv => whnf)
        | (refine Br.dec2 (fun _ => ?_) (fun _ => ?_) <;> first | (exfalso; omega) | conv => whnf)
        | (refine DrawK.auto tabOK mixed (by kernel_rfl) ?_; conv => whnf)
        | (refine Br.n (fun _ => ?_) (fun _ => ?_) <;> conv => whnf)
        | (refine Br.b (fun _ => ?_) (fun _ => ?_) <;> conv => whnf)
        | (refine And.intro rfl ?_; conv => whnf)
        | (refine And.intro ⟨by decide, by decide⟩ ?_; conv => whnf)
        | (refine And.intro ⟨rfl, rfl, by decide⟩ ?_; conv => whnf)
        | (refine BsK.pure (fun x hx => by rcases List.mem_singleton.1 hx with rfl; rfl) rfl ?_; conv => whnf)
        | (refine IdxK.map (by omega) (fun _ => rfl) ?_; conv => whnf)
        | (refine IdxK.xs (by omega) ?_; conv => whnf)
        | (refine IdxK.ss (by omega) ?_; conv => whnf)
        | (refine ByteK.at (by omega) ?_; conv => whnf)
        | (refine Wr.i64 (by omega) (by omega) ?_; conv => whnf)
        | (refine CallK.pure (ih (x.kids[j]'hj) hkw m h3) (.cons (Sub.refl _) (.cons (Sub.refl _) .nil)) ?_; rintro _ rfl; conv => whnf))
      · have h5 : satI (satI (m + wX x.kids[j]) + wXs (x.kids.drop (j + 1))) = satI (n + wX x) := by
          rw [satI_sat (by omega), ← h4]
          congr 1
          omega
        exact ⟨(j + 1, satI (m + wX x.kids[j])), ⟨by simp only; omega, satI_rng (by omega), h5⟩, by simp only; omega, Le.of_eq rfl⟩
      · exact RetK.int (by rw [← h4]; exact satI_full (by omega) h3.2 (by omega))
    · rw [List.drop_eq_nil_of_le hj, wXs] at h4
      conv => whnf
      repeat' (
        first
        | (intro (_ : _ ≤ 9223372036854775807); conv => whnf)
        | (refine Br.dec (fun _ => ?_) (fun _ => ?_) <;> first | (exfalso; omega) | conv => whnf)
        | (refine Br.dec2 (fun _ => ?_) (fun _ => ?_) <;> first | (exfalso; omega) | conv => whnf)
        | (refine DrawK.auto tabOK mixed (by kernel_rfl) ?_; conv => whnf)
        | (refine Br.n (fun _ => ?_) (fun _ => ?_) <;> conv => whnf)
        | (refine Br.b (fun _ => ?_) (fun _ => ?_) <;> conv => whnf)
        | (refine And.intro rfl ?_; conv => whnf)
        | (refine And.intro ⟨by decide, by decide⟩ ?_; conv => whnf)
        | (refine And.intro ⟨rfl, rfl, by decide⟩ ?_; conv => whnf)
        | (refine BsK.pure (fun x hx => by rcases List.mem_singleton.1 hx with rfl; rfl) rfl ?_; conv => whnf)
        | (refine IdxK.map (by omega) (fun _ => rfl) ?_; conv => whnf)
        | (refine IdxK.xs (by omega) ?_; conv => whnf)
        | (refine IdxK.ss (by omega) ?_; conv => whnf)
        | (refine ByteK.at (by omega) ?_; conv => whnf)
        | (refine Wr.i64 (by omega) (by omega) ?_; conv => whnf))
      exact RetK.int (by rw [← h4, satI_id (by omega)]; simp)
theorem wL_mem : ∀ (l : List S) (y : S), y ∈ l → wS y ≤ wL l
  | [], y, h => by cases h
  | a :: r, y, h => by
    rw [wL]
    rcases List.mem_cons.1 h with rfl | h
    · omega
    · have := wL_mem r y h; omega
set_option maxHeartbeats 4000000 in
set_option maxRecDepth 100000 in
theorem whittlerref3_weighStmts : ∀ (k : Nat) (l : List S) (_ : wL l < k) (n : Int) (_ : 0 ≤ n ∧ n ≤ 20001), SpecP Tryz.prog 64 [eSs l, .int .i64 n] (fun r => r = .int .i64 (satI (n + wL l))) := by
  intro k
  induction k with
  | zero => intro l h; omega
  | succ k ih =>
    intro l hl n hn
    have hkl := S.avs_len l
    refine SpecP.body I_whittlerref3_weighStmts tabOK Tryz.func64 rfl Tryz.call64 (by show 2 ≤ _; decide) ?_
    conv => whnf
    repeat' (
      first
      | (intro (_ : _ ≤ 9223372036854775807); conv => whnf)
      | (refine Br.dec (fun _ => ?_) (fun _ => ?_) <;> first | (exfalso; omega) | conv => whnf)
      | (refine Br.dec2 (fun _ => ?_) (fun _ => ?_) <;> first | (exfalso; omega) | conv => whnf)
      | (refine DrawK.auto tabOK mixed (by kernel_rfl) ?_; conv => whnf)
      | (refine Br.n (fun _ => ?_) (fun _ => ?_) <;> conv => whnf)
      | (refine Br.b (fun _ => ?_) (fun _ => ?_) <;> conv => whnf)
      | (refine And.intro rfl ?_; conv => whnf)
      | (refine And.intro ⟨by decide, by decide⟩ ?_; conv => whnf)
      | (refine And.intro ⟨rfl, rfl, by decide⟩ ?_; conv => whnf)
      | (refine BsK.pure (fun x hx => by rcases List.mem_singleton.1 hx with rfl; rfl) rfl ?_; conv => whnf)
      | (refine IdxK.map (by omega) (fun _ => rfl) ?_; conv => whnf)
      | (refine IdxK.xs (by omega) ?_; conv => whnf)
      | (refine IdxK.ss (by omega) ?_; conv => whnf)
      | (refine ByteK.at (by omega) ?_; conv => whnf)
      | (refine Wr.i64 (by omega) (by omega) ?_; conv => whnf))
    refine LoopK.inv tabOK (fun y : Nat × Int => ⟨[(0, .p (eSs l)), (1, .p (.int .i64 y.2)), (5, .p (.int .i64 y.1))], []⟩) (fun y => y.1 ≤ l.length ∧ (0 ≤ y.2 ∧ y.2 ≤ 20001) ∧ satI (y.2 + wL (l.drop y.1)) = satI (n + wL l)) (fun y => l.length - y.1) (0, n) (Le.of_eq rfl) ⟨Nat.zero_le _, hn, rfl⟩ ?_
    rintro ⟨j, m⟩ ⟨h2, h3, h4⟩
    simp only at h2 h3 h4 ⊢
    rcases Nat.lt_or_ge j l.length with hj | hj
    rotate_left 1
    · rw [List.drop_eq_nil_of_le hj, wL] at h4
      conv => whnf
      repeat' (
        first
        | (intro (_ : _ ≤ 9223372036854775807); conv => whnf)
        | (refine Br.dec (fun _ => ?_) (fun _ => ?_) <;> first | (exfalso; omega) | conv => whnf)
        | (refine Br.dec2 (fun _ => ?_) (fun _ => ?_) <;> first | (exfalso; omega) | conv => whnf)
        | (refine DrawK.auto tabOK mixed (by kernel_rfl) ?_; conv => whnf)
        | (refine Br.n (fun _ => ?_) (fun _ => ?_) <;> conv => whnf)
        | (refine Br.b (fun _ => ?_) (fun _ => ?_) <;> conv => whnf)
        | (refine And.intro rfl ?_; conv => whnf)
        | (refine And.intro ⟨by decide, by decide⟩ ?_; conv => whnf)
        | (refine And.intro ⟨rfl, rfl, by decide⟩ ?_; conv => whnf)
        | (refine BsK.pure (fun x hx => by rcases List.mem_singleton.1 hx with rfl; rfl) rfl ?_; conv => whnf)
        | (refine IdxK.map (by omega) (fun _ => rfl) ?_; conv => whnf)
        | (refine IdxK.xs (by omega) ?_; conv => whnf)
        | (refine IdxK.ss (by omega) ?_; conv => whnf)
        | (refine ByteK.at (by omega) ?_; conv => whnf)
        | (refine Wr.i64 (by omega) (by omega) ?_; conv => whnf))
      exact RetK.int (by rw [← h4, satI_id (by omega)]; simp)
    rw [List.drop_eq_getElem_cons hj, wL] at h4
    have hsw := wL_mem l _ (List.getElem_mem hj)
    have hse := wS_eq l[j]
    have q1 := satI_rng (a := m + wX l[j].x) (by omega)
    have q2 := satI_rng (a := satI (m + wX l[j].x) + wTxs l[j].labels) (by omega)
    have q3 := satI_rng (a := satI (satI (m + wX l[j].x) + wTxs l[j].labels) + (1 + l[j].name.length : Nat)) (by omega)
    conv => whnf
    repeat' (
      first
      | (intro (_ : _ ≤ 9223372036854775807); conv => whnf)
      | (refine Br.dec (fun _ => ?_) (fun _ => ?_) <;> first | (exfalso; omega) | conv => whnf)
      | (refine Br.dec2 (fun _ => ?_) (fun _ => ?_) <;> first | (exfalso; omega) | conv => whnf)
      | (refine DrawK.auto tabOK mixed (by kernel_rfl) ?_; conv => whnf)
      | (refine Br.n (fun _ => ?_) (fun _ => ?_) <;> conv => whnf)
      | (refine Br.b (fun _ => ?_) (fun _ => ?_) <;> conv => whnf)
      | (refine And.intro rfl ?_; conv => whnf)
      | (refine And.intro ⟨by decide, by decide⟩ ?_; conv => whnf)
      | (refine And.intro ⟨rfl, rfl, by decide⟩ ?_; conv => whnf)
      | (refine BsK.pure (fun x hx => by rcases List.mem_singleton.1 hx with rfl; rfl) rfl ?_; conv => whnf)
      | (refine IdxK.map (by omega) (fun _ => rfl) ?_; conv => whnf)
      | (refine IdxK.xs (by omega) ?_; conv => whnf)
      | (refine IdxK.ss (by omega) ?_; conv => whnf)
      | (refine ByteK.at (by omega) ?_; conv => whnf)
      | (refine Wr.i64 (by omega) (by omega) ?_; conv => whnf)
      | (refine CallK.pure (whittlerref3_weighExpr (wX l[j].x+1) l[j].x (by omega) m h3) (.cons (Sub.refl _) (.cons (Sub.refl _) .nil)) ?_; rintro _ rfl; conv => whnf)
      | (refine CallK.pure (whittlerref3_weighTexts l[j].labels _ q1) (.cons (Sub.refl _) (.cons (Sub.refl _) .nil)) ?_; rintro _ rfl; conv => whnf)
      | (refine CallK.pure (whittlerref3_weighText l[j].name _ q2) (.cons (Sub.refl _) (.cons (Sub.refl _) .nil)) ?_; rintro _ rfl; conv => whnf)
      | (refine CallK.pure (whittlerref3_weighText l[j].proc _ q3) (.cons (Sub.refl _) (.cons (Sub.refl _) .nil)) ?_; rintro _ rfl; conv => whnf))
    rotate_left 1
    · exact RetK.int (by rw [← h4]; exact satI_full (by omega) h3.2 (by omega))
    have q4 := satI_rng (a := satI (satI (satI (m + wX l[j].x) + wTxs l[j].labels) + (1 + l[j].name.length : Nat)) + (1 + l[j].proc.length : Nat)) (by omega)
    have h5 : satI (satI (satI (satI (satI (m + wX l[j].x) + wTxs l[j].labels) + (1 + l[j].name.length : Nat)) + (1 + l[j].proc.length : Nat)) + (wArgs l[j].args + (wL l[j].thn + wL l[j].els + wL (l.drop (j + 1))) : Nat)) = satI (n + wL l) := by
      rw [satI_sat (by omega), Int.add_assoc, satI_sat (by omega), Int.add_assoc, satI_sat (by omega), Int.add_assoc, satI_sat (by omega), ← h4, hse]
      congr 1
      omega
    generalize satI (satI (satI (satI (m + wX l[j].x) + wTxs l[j].labels) + (1 + l[j].name.length : Nat)) + (1 + l[j].proc.length : Nat)) = m0 at q4 h5 ⊢
    have hal : (l[j].args.map fun a => AV.agg a.cells).length = l[j].args.length := List.length_map _
    refine LoopK.inv tabOK (fun y : Nat × Int => ⟨[(0, .p (eSs l)), (1, .p (.int .i64 y.2)), (5, .p (.int .i64 j)), (6, .p (.ip l[j].cells)), (7, .p (.int .i64 y.1))], []⟩) (fun y => y.1 ≤ l[j].args.length ∧ (0 ≤ y.2 ∧ y.2 ≤ 20001) ∧ satI (y.2 + (wArgs (l[j].args.drop y.1) + (wL l[j].thn + wL l[j].els + wL (l.drop (j + 1))) : Nat)) = satI (n + wL l)) (fun y => l[j].args.length - y.1) (0, m0) (Le.of_eq rfl) ⟨Nat.zero_le _, q4, h5⟩ ?_
    rintro ⟨a, m2⟩ ⟨h6, h7, h8⟩
    simp only at h6 h7 h8 ⊢
    have fin : satI (m2 + (wL l[j].thn + wL l[j].els + wL (l.drop (j + 1)) : Nat)) = satI (n + wL l) → (0 ≤ satI (satI (m2 + wL l[j].thn) + wL l[j].els) ∧ satI (satI (m2 + wL l[j].thn) + wL l[j].els) ≤ 20001) ∧ satI (satI (satI (m2 + wL l[j].thn) + wL l[j].els) + wL (l.drop (j + 1))) = satI (n + wL l) := fun h => by
      have := satI_rng (a := m2 + wL l[j].thn) (by omega)
      refine ⟨satI_rng (by omega), ?_⟩
      rw [satI_sat (by omega), Int.add_assoc, satI_sat (by omega), ← h]
      congr 1
      omega
    have r1 := satI_rng (a := m2 + wL l[j].thn) (by omega)
    have full : m2 > 20000 → satI (m2 + (wL l[j].thn + wL l[j].els + wL (l.drop (j + 1)) : Nat)) = satI (n + wL l) := fun h => by
      rw [← h8, ← satI_full h h7.2 (by omega), ← satI_full h h7.2 (by omega)]
    rcases Nat.lt_or_ge a l[j].args.length with ha | ha
    rotate_left 1
    · have h9 : satI (m2 + (wL l[j].thn + wL l[j].els + wL (l.drop (j + 1)) : Nat)) = satI (n + wL l) := by
        rw [List.drop_eq_nil_of_le ha, wArgs, Nat.zero_add] at h8
        exact h8
      obtain ⟨f1, f2⟩ := fin h9
      conv => whnf
      repeat' (
        first
        | (intro (_ : _ ≤ 9223372036854775807); conv => whnf)
        | (refine Br.dec (fun _ => ?_) (fun _ => ?_) <;> first | (exfalso; omega) | conv => whnf)
        | (refine Br.dec2 (fun _ => ?_) (fun _ => ?_) <;> first | (exfalso; omega) | conv => whnf)
        | (refine DrawK.auto tabOK mixed (by kernel_rfl) ?_; conv => whnf)
        | (refine Br.n (fun _ => ?_) (fun _ => ?_) <;> conv => whnf)
        | (refine Br.b (fun _ => ?_) (fun _ => ?_) <;> conv => whnf)
        | (refine And.intro rfl ?_; conv => whnf)
        | (refine And.intro ⟨by decide, by decide⟩ ?_; conv => whnf)
        | (refine And.intro ⟨rfl, rfl, by decide⟩ ?_; conv => whnf)
        | (refine BsK.pure (fun x hx => by rcases List.mem_singleton.1 hx with rfl; rfl) rfl ?_; conv => whnf)
        | (refine IdxK.map (by omega) (fun _ => rfl) ?_; conv => whnf)
        | (refine IdxK.xs (by omega) ?_; conv => whnf)
        | (refine IdxK.ss (by omega) ?_; conv => whnf)
        | (refine ByteK.at (by omega) ?_; conv => whnf)
        | (refine Wr.i64 (by omega) (by omega) ?_; conv => whnf)
        | (refine CallK.pure (ih l[j].thn (by omega) m2 h7) (.cons (Sub.refl _) (.cons (Sub.refl _) .nil)) ?_; rintro _ rfl; conv => whnf)
        | (refine CallK.pure (ih l[j].els (by omega) _ r1) (.cons (Sub.refl _) (.cons (Sub.refl _) .nil)) ?_; rintro _ rfl; conv => whnf))
      all_goals exact ⟨(j + 1, satI (satI (m2 + wL l[j].thn) + wL l[j].els)), ⟨by simp only; omega, f1, f2⟩, by simp only; omega, Le.of_eq rfl⟩
    rw [List.drop_eq_getElem_cons ha, wArgs] at h8
    have q5 := satI_rng (a := m2 + wX l[j].args[a].x) (by omega)
    conv => whnf
    repeat' (
      first
      | (intro (_ : _ ≤ 9223372036854775807); conv => whnf)
      | (refine Br.dec (fun _ => ?_) (fun _ => ?_) <;> first | (exfalso; omega) | conv => whnf)
      | (refine Br.dec2 (fun _ => ?_) (fun _ => ?_) <;> first | (exfalso; omega) | conv => whnf)
      | (refine DrawK.auto tabOK mixed (by kernel_rfl) ?_; conv => whnf)
      | (refine Br.n (fun _ => ?_) (fun _ => ?_) <;> conv => whnf)
      | (refine Br.b (fun _ => ?_) (fun _ => ?_) <;> conv => whnf)
      | (refine And.intro rfl ?_; conv => whnf)
      | (refine And.intro ⟨by decide, by decide⟩ ?_; conv => whnf)
      | (refine And.intro ⟨rfl, rfl, by decide⟩ ?_; conv => whnf)
      | (refine BsK.pure (fun x hx => by rcases List.mem_singleton.1 hx with rfl; rfl) rfl ?_; conv => whnf)
      | (refine IdxK.map (by omega) (fun _ => rfl) ?_; conv => whnf)
      | (refine IdxK.xs (by omega) ?_; conv => whnf)
      | (refine IdxK.ss (by omega) ?_; conv => whnf)
      | (refine ByteK.at (by omega) ?_; conv => whnf)
      | (refine Wr.i64 (by omega) (by omega) ?_; conv => whnf)
      | (refine CallK.pure (whittlerref3_weighExpr (wX l[j].args[a].x+1) l[j].args[a].x (by omega) m2 h7) (.cons (Sub.refl _) (.cons (Sub.refl _) .nil)) ?_; rintro _ rfl; conv => whnf)
      | (refine CallK.pure (whittlerref3_weighText l[j].args[a].name _ q5) (.cons (Sub.refl _) (.cons (Sub.refl _) .nil)) ?_; rintro _ rfl; conv => whnf)
      | (refine CallK.pure (ih l[j].thn (by omega) m2 h7) (.cons (Sub.refl _) (.cons (Sub.refl _) .nil)) ?_; rintro _ rfl; conv => whnf)
      | (refine CallK.pure (ih l[j].els (by omega) _ r1) (.cons (Sub.refl _) (.cons (Sub.refl _) .nil)) ?_; rintro _ rfl; conv => whnf))
    · have h10 : satI (satI (satI (m2 + wX l[j].args[a].x) + (1 + l[j].args[a].name.length : Nat)) + (wArgs (l[j].args.drop (a + 1)) + (wL l[j].thn + wL l[j].els + wL (l.drop (j + 1))) : Nat)) = satI (n + wL l) := by
        rw [satI_sat (by omega), Int.add_assoc, satI_sat (by omega), ← h8]
        congr 1
        omega
      exact ⟨(a + 1, satI (satI (m2 + wX l[j].args[a].x) + (1 + l[j].args[a].name.length : Nat))), ⟨by simp only; omega, satI_rng (by omega), h10⟩, by simp only; omega, Le.of_eq rfl⟩
    · obtain ⟨f1, f2⟩ := fin (full (by omega))
      exact ⟨(j + 1, satI (satI (m2 + wL l[j].thn) + wL l[j].els)), ⟨by simp only; omega, f1, f2⟩, by simp only; omega, Le.of_eq rfl⟩
end Go.Ab
namespace Go.Ab
open Go.Proofs
def fitB (p : Pg) : Bool := decide (wPg p ≤ 20000)
set_option maxHeartbeats 4000000 in
set_option maxRecDepth 100000 in
theorem whittlerref3_Fits (p : Pg) : SpecP Tryz.prog 16 [.agg p.cells] (fun r => r = .bool (fitB p)) := by
  refine SpecP.body I_whittlerref3_Fits tabOK Tryz.func16 rfl Tryz.call16 (by show 1 ≤ _; decide) ?_
  conv => whnf
  have hl : (p.procs.map fun f => AV.agg f.cells).length = p.procs.length := List.length_map _
  have q0 := satI_rng (a := 0 + wTxs p.globals) (by omega)
  repeat' (
    first
    | (intro (_ : _ ≤ 9223372036854775807); conv => whnf)
    | (refine Br.dec (fun _ => ?_) (fun _ => ?_) <;> first | (exfalso; omega) | conv => whnf)
    | (refine Br.dec2 (fun _ => ?_) (fun _ => ?_) <;> first | (exfalso; omega) | conv => whnf)
    | (refine DrawK.auto tabOK mixed (by kernel_rfl) ?_; conv => whnf)
    | (refine Br.n (fun _ => ?_) (fun _ => ?_) <;> conv => whnf)
    | (refine Br.b (fun _ => ?_) (fun _ => ?_) <;> conv => whnf)
    | (refine And.intro rfl ?_; conv => whnf)
    | (refine And.intro ⟨by decide, by decide⟩ ?_; conv => whnf)
    | (refine And.intro ⟨rfl, rfl, by decide⟩ ?_; conv => whnf)
    | (refine BsK.pure (fun x hx => by rcases List.mem_singleton.1 hx with rfl; rfl) rfl ?_; conv => whnf)
    | (refine IdxK.map (by omega) (fun _ => rfl) ?_; conv => whnf)
    | (refine IdxK.xs (by omega) ?_; conv => whnf)
    | (refine IdxK.ss (by omega) ?_; conv => whnf)
    | (refine ByteK.at (by omega) ?_; conv => whnf)
    | (refine Wr.i64 (by omega) (by omega) ?_; conv => whnf)
    | (refine CallK.pure (whittlerref3_weighTexts p.globals 0 (by omega)) (.cons (Sub.refl _) (.cons (Sub.refl _) .nil)) ?_; rintro _ rfl; conv => whnf))
  refine LoopK.inv tabOK (fun y : Nat × Int => ⟨[(1, .p (.ip p.cells)), (3, .p (.int .i64 y.2)), (4, .p (.int .i64 y.1))], []⟩) (fun y => y.1 ≤ p.procs.length ∧ (0 ≤ y.2 ∧ y.2 ≤ 20001) ∧ satI (y.2 + wPrs (p.procs.drop y.1)) = satI (wPg p : Nat)) (fun y => p.procs.length - y.1) (0, satI (0 + wTxs p.globals)) (Le.of_eq rfl) ⟨Nat.zero_le _, q0, by
    show satI (satI (0 + wTxs p.globals) + wPrs p.procs) = _
    rw [satI_sat (by omega)]
    congr 1
    unfold wPg
    omega⟩ ?_
  rintro ⟨j, m⟩ ⟨h2, h3, h4⟩
  simp only at h2 h3 h4 ⊢
  have last : ∀ {x : Int}, 0 ≤ x ∧ x ≤ 20001 → satI x = satI (wPg p : Nat) → (decide (x ≤ 20000)) = fitB p := fun {x} hx h => by
    unfold fitB
    unfold satI at h
    by_cases h1 : wPg p ≤ 20000
    · rw [decide_eq_true h1, decide_eq_true_eq]
      split at h <;> split at h <;> omega
    · rw [decide_eq_false h1, decide_eq_false_iff_not]
      split at h <;> split at h <;> omega
  rcases Nat.lt_or_ge j p.procs.length with hj | hj
  rotate_left 1
  · rw [List.drop_eq_nil_of_le hj, wPrs] at h4
    conv => whnf
    repeat' (
      first
      | (intro (_ : _ ≤ 9223372036854775807); conv => whnf)
      | (refine Br.dec (fun _ => ?_) (fun _ => ?_) <;> first | (exfalso; omega) | conv => whnf)
      | (refine Br.dec2 (fun _ => ?_) (fun _ => ?_) <;> first | (exfalso; omega) | conv => whnf)
      | (refine DrawK.auto tabOK mixed (by kernel_rfl) ?_; conv => whnf)
      | (refine Br.n (fun _ => ?_) (fun _ => ?_) <;> conv => whnf)
      | (refine Br.b (fun _ => ?_) (fun _ => ?_) <;> conv => whnf)
      | (refine And.intro rfl ?_; conv => whnf)
      | (refine And.intro ⟨by decide, by decide⟩ ?_; conv => whnf)
      | (refine And.intro ⟨rfl, rfl, by decide⟩ ?_; conv => whnf)
      | (refine BsK.pure (fun x hx => by rcases List.mem_singleton.1 hx with rfl; rfl) rfl ?_; conv => whnf)
      | (refine IdxK.map (by omega) (fun _ => rfl) ?_; conv => whnf)
      | (refine IdxK.xs (by omega) ?_; conv => whnf)
      | (refine IdxK.ss (by omega) ?_; conv => whnf)
      | (refine ByteK.at (by omega) ?_; conv => whnf)
      | (refine Wr.i64 (by omega) (by omega) ?_; conv => whnf))
    all_goals exact RetK.bool (last h3 (by rw [← h4]; simp))
  rw [List.drop_eq_getElem_cons hj, wPrs] at h4
  have hpe : wPr p.procs[j] = 1 + p.procs[j].name.length + wTxs p.procs[j].vars + wTxs p.procs[j].fin + wPms p.procs[j].params + wL p.procs[j].body := rfl
  have q1 := satI_rng (a := m + (1 + p.procs[j].name.length : Nat)) (by omega)
  have q2 := satI_rng (a := satI (m + (1 + p.procs[j].name.length : Nat)) + wTxs p.procs[j].vars) (by omega)
  have q3 := satI_rng (a := satI (satI (m + (1 + p.procs[j].name.length : Nat)) + wTxs p.procs[j].vars) + wTxs p.procs[j].fin) (by omega)
  conv => whnf
  repeat' (
    first
    | (intro (_ : _ ≤ 9223372036854775807); conv => whnf)
    | (refine Br.dec (fun _ => ?_) (fun _ => ?_) <;> first | (exfalso; omega) | conv => whnf)
    | (refine Br.dec2 (fun _ => ?_) (fun _ => ?_) <;> first | (exfalso; omega) | conv => whnf)
    | (refine DrawK.auto tabOK mixed (by kernel_rfl) ?_; conv => whnf)
    | (refine Br.n (fun _ => ?_) (fun _ => ?_) <;> conv => whnf)
    | (refine Br.b (fun _ => ?_) (fun _ => ?_) <;> conv => whnf)
    | (refine And.intro rfl ?_; conv => whnf)
    | (refine And.intro ⟨by decide, by decide⟩ ?_; conv => whnf)
    | (refine And.intro ⟨rfl, rfl, by decide⟩ ?_; conv => whnf)
    | (refine BsK.pure (fun x hx => by rcases List.mem_singleton.1 hx with rfl; rfl) rfl ?_; conv => whnf)
    | (refine IdxK.map (by omega) (fun _ => rfl) ?_; conv => whnf)
    | (refine IdxK.xs (by omega) ?_; conv => whnf)
    | (refine IdxK.ss (by omega) ?_; conv => whnf)
    | (refine ByteK.at (by omega) ?_; conv => whnf)
    | (refine Wr.i64 (by omega) (by omega) ?_; conv => whnf)
    | (refine CallK.pure (whittlerref3_weighText p.procs[j].name _ h3) (.cons (Sub.refl _) (.cons (Sub.refl _) .nil)) ?_; rintro _ rfl; conv => whnf)
    | (refine CallK.pure (whittlerref3_weighTexts p.procs[j].vars _ q1) (.cons (Sub.refl _) (.cons (Sub.refl _) .nil)) ?_; rintro _ rfl; conv => whnf)
    | (refine CallK.pure (whittlerref3_weighTexts p.procs[j].fin _ q2) (.cons (Sub.refl _) (.cons (Sub.refl _) .nil)) ?_; rintro _ rfl; conv => whnf))
  rotate_left 1
  · exact RetK.bool (last h3 (by rw [← h4, ← satI_full (by omega) h3.2 (by omega), satI_id h3.2]))
  have h5 : satI (satI (satI (satI (m + (1 + p.procs[j].name.length : Nat)) + wTxs p.procs[j].vars) + wTxs p.procs[j].fin) + (wPms p.procs[j].params + (wL p.procs[j].body + wPrs (p.procs.drop (j + 1))) : Nat)) = satI (wPg p : Nat) := by
    rw [satI_sat (by omega), Int.add_assoc, satI_sat (by omega), Int.add_assoc, satI_sat (by omega), ← h4, hpe]
    congr 1
    omega
  generalize satI (satI (satI (m + (1 + p.procs[j].name.length : Nat)) + wTxs p.procs[j].vars) + wTxs p.procs[j].fin) = m0 at q3 h5 ⊢
  have hal : (p.procs[j].params.map fun a => AV.agg a.cells).length = p.procs[j].params.length := List.length_map _
  refine LoopK.inv tabOK (fun y : Nat × Int => ⟨[(1, .p (.ip p.cells)), (3, .p (.int .i64 y.2)), (4, .p (.int .i64 j)), (5, .p (.ip p.procs[j].cells)), (6, .p (.int .i64 y.1))], []⟩) (fun y => y.1 ≤ p.procs[j].params.length ∧ (0 ≤ y.2 ∧ y.2 ≤ 20001) ∧ satI (y.2 + (wPms (p.procs[j].params.drop y.1) + (wL p.procs[j].body + wPrs (p.procs.drop (j + 1))) : Nat)) = satI (wPg p : Nat)) (fun y => p.procs[j].params.length - y.1) (0, m0) (Le.of_eq rfl) ⟨Nat.zero_le _, q3, h5⟩ ?_
  rintro ⟨a, m2⟩ ⟨h6, h7, h8⟩
  simp only at h6 h7 h8 ⊢
  have fin : satI (m2 + (wL p.procs[j].body + wPrs (p.procs.drop (j + 1)) : Nat)) = satI (wPg p : Nat) → (0 ≤ satI (m2 + wL p.procs[j].body) ∧ satI (m2 + wL p.procs[j].body) ≤ 20001) ∧ satI (satI (m2 + wL p.procs[j].body) + wPrs (p.procs.drop (j + 1))) = satI (wPg p : Nat) := fun h => by
    refine ⟨satI_rng (by omega), ?_⟩
    rw [satI_sat (by omega), ← h]
    congr 1
    omega
  have full : m2 > 20000 → satI (m2 + (wL p.procs[j].body + wPrs (p.procs.drop (j + 1)) : Nat)) = satI (wPg p : Nat) := fun h => by
    rw [← h8, ← satI_full h h7.2 (by omega), ← satI_full h h7.2 (by omega)]
  rcases Nat.lt_or_ge a p.procs[j].params.length with ha | ha
  rotate_left 1
  · have h9 : satI (m2 + (wL p.procs[j].body + wPrs (p.procs.drop (j + 1)) : Nat)) = satI (wPg p : Nat) := by
      rw [List.drop_eq_nil_of_le ha, wPms, Nat.zero_add] at h8
      exact h8
    obtain ⟨f1, f2⟩ := fin h9
    conv => whnf
    repeat' (
      first
      | (intro (_ : _ ≤ 9223372036854775807); conv => whnf)
      | (refine Br.dec (fun _ => ?_) (fun _ => ?_) <;> first | (exfalso; omega) | conv => whnf)
      | (refine Br.dec2 (fun _ => ?_) (fun _ => ?_) <;> first | (exfalso; omega) | conv => whnf)
      | (refine DrawK.auto tabOK mixed (by kernel_rfl) ?_; conv => whnf)
      | (refine Br.n (fun _ => ?_) (fun _ => ?_) <;> conv => whnf)
      | (refine Br.b (fun _ => ?_) (fun _ => ?_) <;> conv => whnf)
      | (refine And.intro rfl ?_; conv => whnf)
      | (refine And.intro ⟨by decide, by decide⟩ ?_; conv => whnf)
      | (refine And.intro ⟨rfl, rfl, by decide⟩ ?_; conv => whnf)
      | (refine BsK.pure (fun x hx => by rcases List.mem_singleton.1 hx with rfl; rfl) rfl ?_; conv => whnf)
      | (refine IdxK.map (by omega) (fun _ => rfl) ?_; conv => whnf)
      | (refine IdxK.xs (by omega) ?_; conv => whnf)
      | (refine IdxK.ss (by omega) ?_; conv => whnf)
      | (refine ByteK.at (by omega) ?_; conv => whnf)
      | (refine Wr.i64 (by omega) (by omega) ?_; conv => whnf)
      | (refine CallK.pure (whittlerref3_weighStmts (wL p.procs[j].body+1) p.procs[j].body (by omega) m2 h7) (.cons (Sub.refl _) (.cons (Sub.refl _) .nil)) ?_; rintro _ rfl; conv => whnf))
    all_goals exact ⟨(j + 1, satI (m2 + wL p.procs[j].body)), ⟨by simp only; omega, f1, f2⟩, by simp only; omega, Le.of_eq rfl⟩
  rw [List.drop_eq_getElem_cons ha, wPms] at h8
  conv => whnf
  repeat' (
    first
    | (intro (_ : _ ≤ 9223372036854775807); conv => whnf)
    | (refine Br.dec (fun _ => ?_) (fun _ => ?_) <;> first | (exfalso; omega) | conv => whnf)
    | (refine Br.dec2 (fun _ => ?_) (fun _ => ?_) <;> first | (exfalso; omega) | conv => whnf)
    | (refine DrawK.auto tabOK mixed (by kernel_rfl) ?_; conv => whnf)
    | (refine Br.n (fun _ => ?_) (fun _ => ?_) <;> conv => whnf)
    | (refine Br.b (fun _ => ?_) (fun _ => ?_) <;> conv => whnf)
    | (refine And.intro rfl ?_; conv => whnf)
    | (refine And.intro ⟨by decide, by decide⟩ ?_; conv => whnf)
    | (refine And.intro ⟨rfl, rfl, by decide⟩ ?_; conv => whnf)
    | (refine BsK.pure (fun x hx => by rcases List.mem_singleton.1 hx with rfl; rfl) rfl ?_; conv => whnf)
    | (refine IdxK.map (by omega) (fun _ => rfl) ?_; conv => whnf)
    | (refine IdxK.xs (by omega) ?_; conv => whnf)
    | (refine IdxK.ss (by omega) ?_; conv => whnf)
    | (refine ByteK.at (by omega) ?_; conv => whnf)
    | (refine Wr.i64 (by omega) (by omega) ?_; conv => whnf)
    | (refine CallK.pure (whittlerref3_weighText p.procs[j].params[a].name _ h7) (.cons (Sub.refl _) (.cons (Sub.refl _) .nil)) ?_; rintro _ rfl; conv => whnf)
    | (refine CallK.pure (whittlerref3_weighStmts (wL p.procs[j].body+1) p.procs[j].body (by omega) m2 h7) (.cons (Sub.refl _) (.cons (Sub.refl _) .nil)) ?_; rintro _ rfl; conv => whnf))
  · have h10 : satI (satI (m2 + (1 + p.procs[j].params[a].name.length : Nat)) + (wPms (p.procs[j].params.drop (a + 1)) + (wL p.procs[j].body + wPrs (p.procs.drop (j + 1))) : Nat)) = satI (wPg p : Nat) := by
      rw [satI_sat (by omega), ← h8]
      congr 1
      omega
    exact ⟨(a + 1, satI (m2 + (1 + p.procs[j].params[a].name.length : Nat))), ⟨by simp only; omega, satI_rng (by omega), h10⟩, by simp only; omega, Le.of_eq rfl⟩
  · obtain ⟨f1, f2⟩ := fin (full (by omega))
    exact ⟨(j + 1, satI (m2 + wL p.procs[j].body)), ⟨by simp only; omega, f1, f2⟩, by simp only; omega, Le.of_eq rfl⟩
end Go.Ab
