/- alias, check: no variable has two names; all that must hold of a program. -/
import Derived.Test.YtabdfngdamikiaaGreatFirst13
set_option linter.unusedSimpArgs false
set_option linter.unusedVariables false
namespace Go.Ab
open Go.Proofs
def singleR (nm : Str) (touched : List Str) : List Arg → List Str → Bool
  | [], _ => true
  | a :: r, seen => bif a.ref then bif (seen.any fun s => a.name == s) || ((a.name == nm) || touched.any fun s => a.name == s) then false else singleR nm touched r (seen ++ [a.name]) else singleR nm touched r seen
set_option maxHeartbeats 1000000 in
set_option maxRecDepth 100000 in
theorem alias_single (t : S) (touched : List Str) (ha : t.args.length ≤ 20000) : SpecP Tryz.prog 170 [.agg t.cells, eStrs touched] (fun r => r = .bool (singleR t.name touched t.args [])) := by
  refine SpecP.body I_alias_single tabOK Tryz.func170 rfl Tryz.call170 (by show 2 ≤ _; decide) ?_
  conv => whnf
  repeat' (
    first
    | (intro (_ : _ ≤ 9223372036854775807); conv => whnf)
    | (refine Br.dec (fun _ => ?_) (fun _ => ?_) <;> first | (exfalso; omega) | conv => whnf)
    | (refine Br.dec2 (fun _ => ?_) (fun _ => ?_) <;> first | (exfalso; omega) | conv => whnf)
    | (refine DrawK.auto tabOK mixed (by kernel_rfl) ?_; conv => whnf)
    | (refine Br.n (fun _ => ?_) (fun _ => ?_) <;> conv => whnf)
    | (refine Br.b (fun _ => ?_) (fun _ => ?_) <;> conv => whnf)
    | (refine And.intro rfl ?_; conv => whnf)
    | (refine And.intro ⟨by decide, by decide⟩ ?_; conv => whnf)
    | (refine And.intro ⟨rfl, rfl, by decide⟩ ?_; conv => whnf)
    | (refine BsK.pure (fun x hx => by rcases List.mem_singleton.1 hx with rfl; rfl) rfl ?_; conv => whnf)
    | (refine IdxK.map (by omega) (fun _ => rfl) ?_; conv => whnf)
    | (refine IdxK.xs (by omega) ?_; conv => whnf)
    | (refine IdxK.ss (by omega) ?_; conv => whnf)
    | (refine ByteK.at (by omega) ?_; conv => whnf)
    | (refine Wr.i64 (by omega) (by omega) ?_; conv => whnf))
  have hl : (t.args.map fun a => AV.agg a.cells).length = t.args.length := List.length_map _
  refine LoopK.inv tabOK (fun i : Nat × List Str => ⟨[(1, .p (eStrs touched)), (2, .p (.ip t.cells)), (5, .hd 0 0 i.2.length), (9, .p (.sl (t.args.map fun a => .agg a.cells))), (10, .p (.int .i64 (t.args.map fun a => AV.agg a.cells).length)), (11, .p (.int .i64 i.1))], [(0, .own 9 1 (i.2.map .str))]⟩)
    (fun i => i.1 ≤ t.args.length ∧ i.2.length ≤ i.1 ∧ singleR t.name touched (t.args.drop i.1) i.2 = singleR t.name touched t.args []) (fun i => t.args.length - i.1) (0, [])
    (Le.mk [(0, .own 9 1 [])] (by simp [Chunk.new0]; rfl) (by simp) (by simp) (.cons (.refl _) (.cons (.refl _) (.cons (.nil List.mem_cons_self) (.cons (.refl _) (.cons (.refl _) (.cons (.refl _) .nil)))))) (.new List.mem_cons_self .nil))
    ⟨Nat.zero_le _, Nat.le_refl _, rfl⟩ ?_
  rintro ⟨j, acc⟩ ⟨h2, h3, h4⟩
  simp only at h2 h3 h4 ⊢
  rcases Nat.lt_or_ge j t.args.length with hj | hj
  · rw [List.drop_eq_getElem_cons hj, singleR] at h4
    conv => whnf
    repeat' (
      first
      | (intro (_ : _ ≤ 9223372036854775807); conv => whnf)
      | (refine Br.dec (fun _ => ?_) (fun _ => ?_) <;> first | (exfalso; omega) | conv => whnf)
      | (refine Br.dec2 (fun _ => ?_) (fun _ => ?_) <;> first | (exfalso; omega) | conv => whnf)
      | (refine DrawK.auto tabOK mixed (by kernel_rfl) ?_; conv => whnf)
      | (refine Br.n (fun _ => ?_) (fun _ => ?_) <;> conv => whnf)
      | (refine Br.b (fun _ => ?_) (fun _ => ?_) <;> conv => whnf)
      | (refine CallK.pure (slices_Contains_string_string_ _ _) (by repeat' (first | exact ArgP.nil | refine ArgP.cons ?_ ?_ | exact Sub.refl _ | exact Sub.tt rfl | exact Sub.ff rfl)) ?_; rintro _ rfl; conv => whnf)
      | (refine And.intro rfl ?_; conv => whnf)
      | (refine And.intro ⟨by decide, by decide⟩ ?_; conv => whnf)
      | (refine And.intro ⟨rfl, rfl, by decide⟩ ?_; conv => whnf)
      | (refine BsK.pure (fun x hx => by rcases List.mem_singleton.1 hx with rfl; rfl) rfl ?_; conv => whnf)
      | (refine IdxK.map (by omega) (fun _ => rfl) ?_; conv => whnf)
      | (refine IdxK.xs (by omega) ?_; conv => whnf)
      | (refine IdxK.ss (by omega) ?_; conv => whnf)
      | (refine ByteK.at (by omega) ?_; conv => whnf)
      | (refine Wr.i64 (by omega) (by omega) ?_; conv => whnf)
      | (refine CallK.borrow (slices_Contains_string_string_ acc (t.args[j]'hj).name) (.cons (.hd rfl (by simp)) (.cons (.p (Sub.refl _)) .nil)) (by rintro _ rfl; rfl) ?_; rintro _ rfl; conv => whnf)
      | (refine AppK.str1 (by simp) (by simp; omega) ?_; conv => whnf))
    all_goals first
      | exact RetK.ff (by rw [← h4]; simp [*])
      | exact ⟨(j + 1, acc ++ [t.args[j].name]), ⟨by simp only; omega, by simp; omega, by simp only; rw [← h4]; simp [*]⟩, by simp only; omega, Le.of_eq (by simp only [List.length_append, List.map_append]; rfl)⟩
      | exact ⟨(j + 1, acc), ⟨by simp only; omega, by simp only; omega, by simp only; rw [← h4]; simp [*]⟩, by simp only; omega, Le.of_eq rfl⟩
  · rw [List.drop_eq_nil_of_le hj, singleR] at h4
    conv => whnf
    repeat' (
      first
      | (intro (_ : _ ≤ 9223372036854775807); conv => whnf)
      | (refine Br.dec (fun _ => ?_) (fun _ => ?_) <;> first | (exfalso; omega) | conv => whnf)
      | (refine Br.dec2 (fun _ => ?_) (fun _ => ?_) <;> first | (exfalso; omega) | conv => whnf)
      | (refine DrawK.auto tabOK mixed (by kernel_rfl) ?_; conv => whnf)
      | (refine Br.n (fun _ => ?_) (fun _ => ?_) <;> conv => whnf)
      | (refine Br.b (fun _ => ?_) (fun _ => ?_) <;> conv => whnf)
      | (refine And.intro rfl ?_; conv => whnf)
      | (refine And.intro ⟨by decide, by decide⟩ ?_; conv => whnf)
      | (refine And.intro ⟨rfl, rfl, by decide⟩ ?_; conv => whnf)
      | (refine BsK.pure (fun x hx => by rcases List.mem_singleton.1 hx with rfl; rfl) rfl ?_; conv => whnf)
      | (refine IdxK.map (by omega) (fun _ => rfl) ?_; conv => whnf)
      | (refine IdxK.xs (by omega) ?_; conv => whnf)
      | (refine IdxK.ss (by omega) ?_; conv => whnf)
      | (refine ByteK.at (by omega) ?_; conv => whnf)
      | (refine Wr.i64 (by omega) (by omega) ?_; conv => whnf))
    exact RetK.tt h4.symm
def aliasB (p : Pg) : Int × Int :=
  if (arityB p).1 ≠ 0 then (1, 0) else match (stmts p).find? fun t => decide (t.kind = 4) && !singleR t.name (globL p t.proc) t.args [] with
    | some t => (8, t.id)
    | none => (0, 0)
theorem arity_ok {p : Pg} (h : (arityB p).1 = 0) : (scopeB p).1 = 0 ∧ (stmts p).find? (fun t => decide (t.kind = 4) && !fitsB p t) = none := by
  unfold arityB at h
  split at h
  · cases h
  · rename_i hs
    refine ⟨by omega, ?_⟩
    split at h
    · cases h
    · assumption
theorem updS_mem {l : List (Str × AV)} {k : Str} {v : AV} {x : Str × AV} (h : x ∈ updS l k v) : x ∈ l ∨ x = (k, v) := by
  induction l with
  | nil => rw [updS] at h; exact .inr (by simpa using h)
  | cons y r ih =>
    rw [updS] at h
    split at h
    · rename_i hk
      rcases List.mem_cons.1 h with h | h
      · exact .inr (by rw [h, hk])
      · exact .inl (List.mem_cons_of_mem _ h)
    · rcases List.mem_cons.1 h with h | h
      · exact .inl (by rw [h]; exact List.mem_cons_self)
      · exact (ih h).imp (List.mem_cons_of_mem _) id
theorem updS_key {l : List (Str × AV)} {k s : Str} {v : AV} (h : s = k ∨ ∃ x ∈ l, x.1 = s) : ∃ x ∈ updS l k v, x.1 = s := by
  induction l with
  | nil =>
    rcases h with rfl | ⟨x, hx, _⟩
    · exact ⟨(s, v), by rw [updS]; exact List.mem_cons_self, rfl⟩
    · cases hx
  | cons y r ih =>
    rw [updS]
    split
    · rename_i hk
      rcases h with rfl | ⟨x, hx, rfl⟩
      · exact ⟨(y.1, v), List.mem_cons_self, hk.symm⟩
      · rcases List.mem_cons.1 hx with rfl | hx
        · exact ⟨(x.1, v), List.mem_cons_self, rfl⟩
        · exact ⟨x, List.mem_cons_of_mem _ hx, rfl⟩
    · rcases h with rfl | ⟨x, hx, rfl⟩
      · obtain ⟨z, hz, h3⟩ := ih (.inl rfl)
        exact ⟨z, List.mem_cons_of_mem _ hz, h3⟩
      · rcases List.mem_cons.1 hx with rfl | hx
        · exact ⟨x, List.mem_cons_self, rfl⟩
        · obtain ⟨z, hz, h3⟩ := ih (.inr ⟨x, hx, rfl⟩)
          exact ⟨z, List.mem_cons_of_mem _ hz, h3⟩
theorem getM_of {l : List (Str × AV)} {g : Str → AV} (h : ∀ x ∈ l, x.2 = g x.1) {k : Str} (hk : ∃ x ∈ l, x.1 = k) : getM l k = some (g k) := by
  unfold getM
  cases hf : l.find? fun x => decide (k = x.1) with
  | none =>
    obtain ⟨x, hx, rfl⟩ := hk
    have := List.find?_eq_none.1 hf x hx
    simp at this
  | some x =>
    have h1 := List.mem_of_find?_eq_some hf
    have h2 := List.find?_some hf
    simp at h2
    simp [h x h1, h2]
set_option maxHeartbeats 4000000 in
set_option maxRecDepth 100000 in
theorem alias_Check (p : Pg) (hf : Fit p) : SpecP Tryz.prog 121 [.agg p.cells] (fun r => r = eFault (aliasB p).1 (aliasB p).2) := by
  refine SpecP.body I_alias_Check tabOK Tryz.func121 rfl Tryz.call121 (by show 1 ≤ _; decide) ?_
  conv => whnf
  repeat' (
    first
    | (intro (_ : _ ≤ 9223372036854775807); conv => whnf)
    | (refine Br.dec (fun _ => ?_) (fun _ => ?_) <;> first | (exfalso; omega) | conv => whnf)
    | (refine Br.dec2 (fun _ => ?_) (fun _ => ?_) <;> first | (exfalso; omega) | conv => whnf)
    | (refine DrawK.auto tabOK mixed (by kernel_rfl) ?_; conv => whnf)
    | (refine Br.n (fun _ => ?_) (fun _ => ?_) <;> conv => whnf)
    | (refine Br.b (fun _ => ?_) (fun _ => ?_) <;> conv => whnf)
    | (refine CallK.pure (arity_Check p hf) (by repeat' (first | exact ArgP.nil | refine ArgP.cons ?_ ?_ | exact Sub.refl _ | exact Sub.tt rfl | exact Sub.ff rfl | exact Sub.int (by omega))) ?_; rintro _ rfl; conv => whnf)
    | (refine And.intro rfl ?_; conv => whnf)
    | (refine And.intro ⟨by decide, by decide⟩ ?_; conv => whnf)
    | (refine And.intro ⟨rfl, rfl, by decide⟩ ?_; conv => whnf)
    | (refine BsK.pure (fun x hx => by rcases List.mem_singleton.1 hx with rfl; rfl) rfl ?_; conv => whnf)
    | (refine IdxK.map (by omega) (fun _ => rfl) ?_; conv => whnf)
    | (refine IdxK.xs (by omega) ?_; conv => whnf)
    | (refine IdxK.ss (by omega) ?_; conv => whnf)
    | (refine ByteK.at (by omega) ?_; conv => whnf)
    | (refine Wr.i64 (by omega) (by omega) ?_; conv => whnf))
  rotate_left 1
  · have e : aliasB p = (1, 0) := by unfold aliasB; rw [if_pos (by assumption)]
    exact RetK.fault (by rw [e]) (by rw [e])
  have hA : (arityB p).1 = 0 := by assumption
  obtain ⟨hs, _⟩ := arity_ok hA
  obtain ⟨hm, hb, hns⟩ := scope_ok hs
  obtain ⟨hg, hpl, hcn⟩ := mayB_cnt hm
  have hl : (p.procs.map fun f => AV.agg f.cells).length = p.procs.length := List.length_map _
  repeat' (
    first
    | (intro (_ : _ ≤ 9223372036854775807); conv => whnf)
    | (refine Br.dec (fun _ => ?_) (fun _ => ?_) <;> first | (exfalso; omega) | conv => whnf)
    | (refine Br.dec2 (fun _ => ?_) (fun _ => ?_) <;> first | (exfalso; omega) | conv => whnf)
    | (refine DrawK.auto tabOK mixed (by kernel_rfl) ?_; conv => whnf)
    | (refine Br.n (fun _ => ?_) (fun _ => ?_) <;> conv => whnf)
    | (refine Br.b (fun _ => ?_) (fun _ => ?_) <;> conv => whnf)
    | (refine And.intro rfl ?_; conv => whnf)
    | (refine And.intro ⟨by decide, by decide⟩ ?_; conv => whnf)
    | (refine And.intro ⟨rfl, rfl, by decide⟩ ?_; conv => whnf)
    | (refine BsK.pure (fun x hx => by rcases List.mem_singleton.1 hx with rfl; rfl) rfl ?_; conv => whnf)
    | (refine IdxK.map (by omega) (fun _ => rfl) ?_; conv => whnf)
    | (refine IdxK.xs (by omega) ?_; conv => whnf)
    | (refine IdxK.ss (by omega) ?_; conv => whnf)
    | (refine ByteK.at (by omega) ?_; conv => whnf)
    | (refine Wr.i64 (by omega) (by omega) ?_; conv => whnf)
    | (refine OpK.makeMap rfl ?_; conv => whnf))
  refine LoopK.inv tabOK (fun i : Nat × List (Str × AV) => ⟨[(1, .p (.ip p.cells)), (2, .ptr 1 0), (3, .ext 0 .map), (15, .p (.sl (p.procs.map fun f => .agg f.cells))), (16, .p (.int .i64 (p.procs.map fun f => AV.agg f.cells).length)), (17, .p (.int .i64 i.1))], [(0, .ext (mapS i.2)), (1, .obj 96 [.p (.int .i64 0), .p (.int .i64 0)])]⟩)
    (fun i => i.1 ≤ p.procs.length ∧ (∀ x ∈ i.2, x.2 = eStrs (globL p x.1)) ∧ ∀ (m : Nat) (hm : m < p.procs.length), m < i.1 → ∃ x ∈ i.2, x.1 = p.procs[m].name) (fun i => p.procs.length - i.1) (0, [])
    (Le.of_eq rfl) ⟨Nat.zero_le _, by simp, by intro m hm h; omega⟩ ?_
  rintro ⟨j, l⟩ ⟨h2, h3, h4⟩
  simp only at h2 h3 h4 ⊢
  rcases Nat.lt_or_ge j p.procs.length with hj | hj
  · have hn : p.procs[j].name ∈ procsN p := List.mem_map.2 ⟨_, List.getElem_mem hj, rfl⟩
    conv => whnf
    repeat' (
      first
      | (intro (_ : _ ≤ 9223372036854775807); conv => whnf)
      | (refine Br.dec (fun _ => ?_) (fun _ => ?_) <;> first | (exfalso; omega) | conv => whnf)
      | (refine Br.dec2 (fun _ => ?_) (fun _ => ?_) <;> first | (exfalso; omega) | conv => whnf)
      | (refine DrawK.auto tabOK mixed (by kernel_rfl) ?_; conv => whnf)
      | (refine Br.n (fun _ => ?_) (fun _ => ?_) <;> conv => whnf)
      | (refine Br.b (fun _ => ?_) (fun _ => ?_) <;> conv => whnf)
      | (refine CallK.pure (touch_Globals p hf hs _ hn) (by repeat' (first | exact ArgP.nil | refine ArgP.cons ?_ ?_ | exact Sub.refl _ | exact Sub.tt rfl | exact Sub.ff rfl | exact Sub.int (by omega))) ?_; rintro _ rfl; conv => whnf)
      | (refine And.intro rfl ?_; conv => whnf)
      | (refine And.intro ⟨by decide, by decide⟩ ?_; conv => whnf)
      | (refine And.intro ⟨rfl, rfl, by decide⟩ ?_; conv => whnf)
      | (refine BsK.pure (fun x hx => by rcases List.mem_singleton.1 hx with rfl; rfl) rfl ?_; conv => whnf)
      | (refine IdxK.map (by omega) (fun _ => rfl) ?_; conv => whnf)
      | (refine IdxK.xs (by omega) ?_; conv => whnf)
      | (refine IdxK.ss (by omega) ?_; conv => whnf)
      | (refine ByteK.at (by omega) ?_; conv => whnf)
      | (refine Wr.i64 (by omega) (by omega) ?_; conv => whnf)
      | (refine OpK.mapUpdate tabOK rfl rfl rfl rfl rfl rfl rfl rfl rfl rfl ?_; conv => whnf))
    refine ⟨(j + 1, updS l p.procs[j].name (eStrs (globL p p.procs[j].name))), ⟨by simp only; omega, fun x hx => ?_, fun m hm h => ?_⟩, by simp only; omega, Le.of_eq rfl⟩
    · rcases updS_mem hx with hx | rfl
      · exact h3 x hx
      · rfl
    · refine updS_key ?_
      rcases Nat.lt_or_ge m j with hmj | hmj
      · exact .inr (h4 m hm hmj)
      · obtain rfl : m = j := by simp only at h; omega
        exact .inl rfl
  have hgm : ∀ n ∈ procsN p, getM l n = some (eStrs (globL p n)) := fun n hn => getM_of (g := fun n => eStrs (globL p n)) h3 (by
    obtain ⟨f, hf1, rfl⟩ := List.mem_map.1 hn
    obtain ⟨m, hm, rfl⟩ := List.getElem_of_mem hf1
    exact h4 m hm (by omega))
  clear h3 h4
  conv => whnf
  repeat' (
    first
    | (intro (_ : _ ≤ 9223372036854775807); conv => whnf)
    | (refine Br.dec (fun _ => ?_) (fun _ => ?_) <;> first | (exfalso; omega) | conv => whnf)
    | (refine Br.dec2 (fun _ => ?_) (fun _ => ?_) <;> first | (exfalso; omega) | conv => whnf)
    | (refine DrawK.auto tabOK mixed (by kernel_rfl) ?_; conv => whnf)
    | (refine Br.n (fun _ => ?_) (fun _ => ?_) <;> conv => whnf)
    | (refine Br.b (fun _ => ?_) (fun _ => ?_) <;> conv => whnf)
    | (refine And.intro rfl ?_; conv => whnf)
    | (refine And.intro ⟨by decide, by decide⟩ ?_; conv => whnf)
    | (refine And.intro ⟨rfl, rfl, by decide⟩ ?_; conv => whnf)
    | (refine BsK.pure (fun x hx => by rcases List.mem_singleton.1 hx with rfl; rfl) rfl ?_; conv => whnf)
    | (refine IdxK.map (by omega) (fun _ => rfl) ?_; conv => whnf)
    | (refine IdxK.xs (by omega) ?_; conv => whnf)
    | (refine IdxK.ss (by omega) ?_; conv => whnf)
    | (refine ByteK.at (by omega) ?_; conv => whnf)
    | (refine Wr.i64 (by omega) (by omega) ?_; conv => whnf)
    | (refine CallK.pure (flat_New p (by omega) (by omega)) (.cons (Sub.refl _) .nil) ?_; rintro _ rfl; conv => whnf))
  have hA : aliasB p = match (stmts p).find? fun t => decide (t.kind = 4) && !singleR t.name (globL p t.proc) t.args [] with
    | some t => (8, t.id)
    | none => (0, 0) := by unfold aliasB; rw [if_neg (by omega)]
  have hil := eItems_len (sheetOf p).l
  have hib : (sheetOf p).l.length ≤ 200 := by have := (sheet_spec p).2.2.2.1; omega
  have hfi := find_items (q := fun t => decide (t.kind = 4) && !singleR t.name (globL p t.proc) t.args []) (sheetOf p).l
  rw [sheet_s] at hfi
  have hA2 : aliasB p = match ((sheetOf p).l.find? fun it => decide (it.s.kind = 4) && !singleR it.s.name (globL p it.s.proc) it.s.args []).map (fun it => it.s.id) with
    | some a => (8, a)
    | none => (0, 0) := by
    rw [hA, hfi]
    cases (stmts p).find? fun t => decide (t.kind = 4) && !singleR t.name (globL p t.proc) t.args [] <;> rfl
  rw [hA2]
  refine LoopK.inv tabOK (fun k : Nat => ⟨[(2, .ptr 1 0), (3, .ext 0 .map), (33, .p (eItems (sheetOf p).l)), (34, .p (.int .i64 ((sheetOf p).l.map fun i => AV.agg i.cells).length)), (35, .p (.int .i64 k))], [(0, .ext (mapS l)), (1, .obj 96 [.p (.int .i64 0), .p (.int .i64 0)])]⟩)
    (fun k => k ≤ (sheetOf p).l.length ∧ ((sheetOf p).l.drop k).find? (fun it => decide (it.s.kind = 4) && !singleR it.s.name (globL p it.s.proc) it.s.args []) = (sheetOf p).l.find? fun it => decide (it.s.kind = 4) && !singleR it.s.name (globL p it.s.proc) it.s.args []) (fun k => (sheetOf p).l.length - k) 0 (Le.of_eq rfl) ⟨Nat.zero_le _, rfl⟩ ?_
  rintro k ⟨h5, h6⟩
  rcases Nat.lt_or_ge k (sheetOf p).l.length with hk | hk
  rotate_left 1
  · rw [← h6, find_end hk]
    conv => whnf
    repeat' (
      first
      | (intro (_ : _ ≤ 9223372036854775807); conv => whnf)
      | (refine Br.dec (fun _ => ?_) (fun _ => ?_) <;> first | (exfalso; omega) | conv => whnf)
      | (refine Br.dec2 (fun _ => ?_) (fun _ => ?_) <;> first | (exfalso; omega) | conv => whnf)
      | (refine DrawK.auto tabOK mixed (by kernel_rfl) ?_; conv => whnf)
      | (refine Br.n (fun _ => ?_) (fun _ => ?_) <;> conv => whnf)
      | (refine Br.b (fun _ => ?_) (fun _ => ?_) <;> conv => whnf)
      | (refine And.intro rfl ?_; conv => whnf)
      | (refine And.intro ⟨by decide, by decide⟩ ?_; conv => whnf)
      | (refine And.intro ⟨rfl, rfl, by decide⟩ ?_; conv => whnf)
      | (refine BsK.pure (fun x hx => by rcases List.mem_singleton.1 hx with rfl; rfl) rfl ?_; conv => whnf)
      | (refine IdxK.map (by omega) (fun _ => rfl) ?_; conv => whnf)
      | (refine IdxK.xs (by omega) ?_; conv => whnf)
      | (refine IdxK.ss (by omega) ?_; conv => whnf)
      | (refine ByteK.at (by omega) ?_; conv => whnf)
      | (refine Wr.i64 (by omega) (by omega) ?_; conv => whnf))
    exact RetK.fault rfl rfl
  have hw := sheet_args hf hk
  have hna : (sheetOf p).l[k].s.args.length ≤ 20000 := by
    have := wS_eq (sheetOf p).l[k].s
    have := wArgs_len (sheetOf p).l[k].s.args
    omega
  have hpc : (sheetOf p).l[k].s.kind = 4 → (sheetOf p).l[k].s.proc ∈ procsN p := fun hk4 => by
    have hmm : (sheetOf p).l[k].s ∈ stmts p := by
      rw [← sheet_s]
      exact List.mem_map.2 ⟨_, List.getElem_mem hk, rfl⟩
    unfold stmts at hmm
    obtain ⟨f, hf1, hf2⟩ := List.mem_flatMap.1 hmm
    exact (scope_call hs hf1 hf2 hk4).1
  conv => whnf
  repeat' (
    first
    | (intro (_ : _ ≤ 9223372036854775807); conv => whnf)
    | (refine Br.dec (fun _ => ?_) (fun _ => ?_) <;> first | (exfalso; omega) | conv => whnf)
    | (refine Br.dec2 (fun _ => ?_) (fun _ => ?_) <;> first | (exfalso; omega) | conv => whnf)
    | (refine DrawK.auto tabOK mixed (by kernel_rfl) ?_; conv => whnf)
    | (refine Br.n (fun _ => ?_) (fun _ => ?_) <;> conv => whnf)
    | (refine Br.b (fun _ => ?_) (fun _ => ?_) <;> conv => whnf)
    | (refine CallK.pure (alias_single _ _ hna) (by repeat' (first | exact ArgP.nil | refine ArgP.cons ?_ ?_ | exact Sub.refl _ | exact Sub.tt rfl | exact Sub.ff rfl | exact Sub.int (by omega))) ?_; rintro _ rfl; conv => whnf)
    | (refine And.intro rfl ?_; conv => whnf)
    | (refine And.intro ⟨by decide, by decide⟩ ?_; conv => whnf)
    | (refine And.intro ⟨rfl, rfl, by decide⟩ ?_; conv => whnf)
    | (refine BsK.pure (fun x hx => by rcases List.mem_singleton.1 hx with rfl; rfl) rfl ?_; conv => whnf)
    | (refine IdxK.map (by omega) (fun _ => rfl) ?_; conv => whnf)
    | (refine IdxK.xs (by omega) ?_; conv => whnf)
    | (refine IdxK.ss (by omega) ?_; conv => whnf)
    | (refine ByteK.at (by omega) ?_; conv => whnf)
    | (refine Wr.i64 (by omega) (by omega) ?_; conv => whnf)
    | (refine OpK.lookup tabOK rfl rfl rfl rfl rfl rfl rfl rfl (hgm _ (hpc (by omega))) ?_; conv => whnf))
  all_goals first
    | (have e3 := find_yes (p := fun it : Item => decide (it.s.kind = 4) && !singleR it.s.name (globL p it.s.proc) it.s.args []) hk (by simp [*])
       rw [← h6, e3]
       exact RetK.fault rfl rfl)
    | exact ⟨k + 1, ⟨by omega, by rw [← h6, find_no (p := fun it : Item => decide (it.s.kind = 4) && !singleR it.s.name (globL p it.s.proc) it.s.args []) hk (by simp [*])]⟩, by omega, Le.of_eq rfl⟩
def allB (p : Pg) : Int × Int :=
  if mayB p = false then (1, 0) else
  if (scopeB p).1 ≠ 0 then scopeB p else
  if (arityB p).1 ≠ 0 then arityB p else
  if (jumpB p).1 ≠ 0 then jumpB p else aliasB p
set_option maxRecDepth 100000 in
theorem check_All (p : Pg) (hf : Fit p) : SpecP Tryz.prog 68 [.agg p.cells] (fun r => r = eFault (allB p).1 (allB p).2) := by
  refine SpecP.body I_check_All tabOK Tryz.func68 rfl Tryz.call68 (by show 1 ≤ _; decide) ?_
  conv => whnf
  repeat' (
    first
    | (intro (_ : _ ≤ 9223372036854775807); conv => whnf)
    | (refine Br.dec (fun _ => ?_) (fun _ => ?_) <;> first | (exfalso; omega) | conv => whnf)
    | (refine Br.dec2 (fun _ => ?_) (fun _ => ?_) <;> first | (exfalso; omega) | conv => whnf)
    | (refine DrawK.auto tabOK mixed (by kernel_rfl) ?_; conv => whnf)
    | (refine Br.n (fun _ => ?_) (fun _ => ?_) <;> conv => whnf)
    | (refine Br.b (fun _ => ?_) (fun _ => ?_) <;> conv => whnf)
    | (refine CallK.pure (tree_May _) (by repeat' (first | exact ArgP.nil | refine ArgP.cons ?_ ?_ | exact Sub.refl _ | exact Sub.tt rfl | exact Sub.ff rfl)) ?_; rintro _ rfl; conv => whnf)
    | (refine CallK.pure (scope_Check p hf) (by repeat' (first | exact ArgP.nil | refine ArgP.cons ?_ ?_ | exact Sub.refl _ | exact Sub.tt rfl | exact Sub.ff rfl | exact Sub.int (by omega))) ?_; rintro _ rfl; conv => whnf)
    | (refine CallK.pure (arity_Check p hf) (by repeat' (first | exact ArgP.nil | refine ArgP.cons ?_ ?_ | exact Sub.refl _ | exact Sub.tt rfl | exact Sub.ff rfl | exact Sub.int (by omega))) ?_; rintro _ rfl; conv => whnf)
    | (refine CallK.pure (jump_Check p hf) (by repeat' (first | exact ArgP.nil | refine ArgP.cons ?_ ?_ | exact Sub.refl _ | exact Sub.tt rfl | exact Sub.ff rfl | exact Sub.int (by omega))) ?_; rintro _ rfl; conv => whnf)
    | (refine CallK.pure (alias_Check p hf) (by repeat' (first | exact ArgP.nil | refine ArgP.cons ?_ ?_ | exact Sub.refl _ | exact Sub.tt rfl | exact Sub.ff rfl | exact Sub.int (by omega))) ?_; rintro _ rfl; conv => whnf)
    | (refine And.intro rfl ?_; conv => whnf)
    | (refine And.intro ⟨by decide, by decide⟩ ?_; conv => whnf)
    | (refine And.intro ⟨rfl, rfl, by decide⟩ ?_; conv => whnf)
    | (refine BsK.pure (fun x hx => by rcases List.mem_singleton.1 hx with rfl; rfl) rfl ?_; conv => whnf)
    | (refine IdxK.map (by omega) (fun _ => rfl) ?_; conv => whnf)
    | (refine IdxK.xs (by omega) ?_; conv => whnf)
    | (refine IdxK.ss (by omega) ?_; conv => whnf)
    | (refine ByteK.at (by omega) ?_; conv => whnf)
    | (refine Wr.i64 (by omega) (by omega) ?_; conv => whnf))
  all_goals exact RetK.fault (by unfold allB; simp [*]) (by unfold allB; simp [*])
def chkB (p : Pg) : Bool := decide ((allB p).1 = 0)
set_option maxRecDepth 100000 in
theorem check_May (p : Pg) (hf : Fit p) : SpecP Tryz.prog 19 [.agg p.cells] (fun r => r = .bool (chkB p)) := by
  refine SpecP.body I_check_May tabOK Tryz.func19 rfl Tryz.call19 (by show 1 ≤ _; decide) ?_
  conv => whnf
  repeat' (
    first
    | (intro (_ : _ ≤ 9223372036854775807); conv => whnf)
    | (refine Br.dec (fun _ => ?_) (fun _ => ?_) <;> first | (exfalso; omega) | conv => whnf)
    | (refine Br.dec2 (fun _ => ?_) (fun _ => ?_) <;> first | (exfalso; omega) | conv => whnf)
    | (refine DrawK.auto tabOK mixed (by kernel_rfl) ?_; conv => whnf)
    | (refine Br.n (fun _ => ?_) (fun _ => ?_) <;> conv => whnf)
    | (refine Br.b (fun _ => ?_) (fun _ => ?_) <;> conv => whnf)
    | (refine CallK.pure (check_All p hf) (by repeat' (first | exact ArgP.nil | refine ArgP.cons ?_ ?_ | exact Sub.refl _ | exact Sub.tt rfl | exact Sub.ff rfl | exact Sub.int (by omega))) ?_; rintro _ rfl; conv => whnf)
    | (refine And.intro rfl ?_; conv => whnf)
    | (refine And.intro ⟨by decide, by decide⟩ ?_; conv => whnf)
    | (refine And.intro ⟨rfl, rfl, by decide⟩ ?_; conv => whnf)
    | (refine BsK.pure (fun x hx => by rcases List.mem_singleton.1 hx with rfl; rfl) rfl ?_; conv => whnf)
    | (refine IdxK.map (by omega) (fun _ => rfl) ?_; conv => whnf)
    | (refine IdxK.xs (by omega) ?_; conv => whnf)
    | (refine IdxK.ss (by omega) ?_; conv => whnf)
    | (refine ByteK.at (by omega) ?_; conv => whnf)
    | (refine Wr.i64 (by omega) (by omega) ?_; conv => whnf))
  exact RetK.bool rfl
end Go.Ab
namespace Go.Ab
open Go.Proofs
def rankI (x : Int) : Int := if x = -1 then 9223372036854775807 else x
set_option maxRecDepth 100000 in
theorem flat_Rank (x : Int) : SpecP Tryz.prog 204 [.int .i64 x] (fun r => r = .int .i64 (rankI x)) := by
  refine SpecP.body I_flat_Rank tabOK Tryz.func204 rfl Tryz.call204 (by show 1 ≤ _; decide) ?_
  conv => whnf
  repeat' (
    first
    | (intro (_ : _ ≤ 9223372036854775807); conv => whnf)
    | (refine Br.dec (fun _ => ?_) (fun _ => ?_) <;> first | (exfalso; omega) | conv => whnf)
    | (refine Br.dec2 (fun _ => ?_) (fun _ => ?_) <;> first | (exfalso; omega) | conv => whnf)
    | (refine DrawK.auto tabOK mixed (by kernel_rfl) ?_; conv => whnf)
    | (refine Br.n (fun _ => ?_) (fun _ => ?_) <;> conv => whnf)
    | (refine Br.b (fun _ => ?_) (fun _ => ?_) <;> conv => whnf)
    | (refine And.intro rfl ?_; conv => whnf)
    | (refine And.intro ⟨by decide, by decide⟩ ?_; conv => whnf)
    | (refine And.intro ⟨rfl, rfl, by decide⟩ ?_; conv => whnf)
    | (refine BsK.pure (fun x hx => by rcases List.mem_singleton.1 hx with rfl; rfl) rfl ?_; conv => whnf)
    | (refine IdxK.map (by omega) (fun _ => rfl) ?_; conv => whnf)
    | (refine IdxK.xs (by omega) ?_; conv => whnf)
    | (refine IdxK.ss (by omega) ?_; conv => whnf)
    | (refine ByteK.at (by omega) ?_; conv => whnf)
    | (refine Wr.i64 (by omega) (by omega) ?_; conv => whnf))
  all_goals exact RetK.int (by unfold rankI; simp [*])
set_option maxRecDepth 100000 in
theorem cmp_isNaN_int_ (x : Int) : SpecP Tryz.prog 244 [.int .i64 x] (fun r => r = .bool false) := by
  refine SpecP.body I_cmp_isNaN_int_ tabOK Tryz.func244 rfl Tryz.call244 (by show 1 ≤ _; decide) ?_
  conv => whnf
  repeat' (
    first
    | (intro (_ : _ ≤ 9223372036854775807); conv => whnf)
    | (refine Br.dec (fun _ => ?_) (fun _ => ?_) <;> first | (exfalso; omega) | conv => whnf)
    | (refine Br.dec2 (fun _ => ?_) (fun _ => ?_) <;> first | (exfalso; omega) | conv => whnf)
    | (refine DrawK.auto tabOK mixed (by kernel_rfl) ?_; conv => whnf)
    | (refine Br.n (fun _ => ?_) (fun _ => ?_) <;> conv => whnf)
    | (refine Br.b (fun _ => ?_) (fun _ => ?_) <;> conv => whnf)
    | (refine And.intro rfl ?_; conv => whnf)
    | (refine And.intro ⟨by decide, by decide⟩ ?_; conv => whnf)
    | (refine And.intro ⟨rfl, rfl, by decide⟩ ?_; conv => whnf)
    | (refine BsK.pure (fun x hx => by rcases List.mem_singleton.1 hx with rfl; rfl) rfl ?_; conv => whnf)
    | (refine IdxK.map (by omega) (fun _ => rfl) ?_; conv => whnf)
    | (refine IdxK.xs (by omega) ?_; conv => whnf)
    | (refine IdxK.ss (by omega) ?_; conv => whnf)
    | (refine ByteK.at (by omega) ?_; conv => whnf)
    | (refine Wr.i64 (by omega) (by omega) ?_; conv => whnf))
  exact RetK.bool (by simp)
def cmpI (x y : Int) : Int := if x < y then -1 else if y < x then 1 else 0
set_option maxRecDepth 100000 in
theorem cmp_Compare_int_ (x y : Int) : SpecP Tryz.prog 203 [.int .i64 x, .int .i64 y] (fun r => r = .int .i64 (cmpI x y)) := by
  refine SpecP.body I_cmp_Compare_int_ tabOK Tryz.func203 rfl Tryz.call203 (by show 2 ≤ _; decide) ?_
  conv => whnf
  repeat' (
    first
    | (intro (_ : _ ≤ 9223372036854775807); conv => whnf)
    | (refine Br.dec (fun _ => ?_) (fun _ => ?_) <;> first | (exfalso; omega) | conv => whnf)
    | (refine Br.dec2 (fun _ => ?_) (fun _ => ?_) <;> first | (exfalso; omega) | conv => whnf)
    | (refine DrawK.auto tabOK mixed (by kernel_rfl) ?_; conv => whnf)
    | (refine Br.n (fun _ => ?_) (fun _ => ?_) <;> conv => whnf)
    | (refine Br.b (fun _ => ?_) (fun _ => ?_) <;> conv => whnf)
    | (refine CallK.pure (cmp_isNaN_int_ _) (by repeat' (first | exact ArgP.nil | refine ArgP.cons ?_ ?_ | exact Sub.refl _ | exact Sub.tt rfl | exact Sub.ff rfl)) ?_; rintro _ rfl; conv => whnf)
    | (refine And.intro rfl ?_; conv => whnf)
    | (refine And.intro ⟨by decide, by decide⟩ ?_; conv => whnf)
    | (refine And.intro ⟨rfl, rfl, by decide⟩ ?_; conv => whnf)
    | (refine BsK.pure (fun x hx => by rcases List.mem_singleton.1 hx with rfl; rfl) rfl ?_; conv => whnf)
    | (refine IdxK.map (by omega) (fun _ => rfl) ?_; conv => whnf)
    | (refine IdxK.xs (by omega) ?_; conv => whnf)
    | (refine IdxK.ss (by omega) ?_; conv => whnf)
    | (refine ByteK.at (by omega) ?_; conv => whnf)
    | (refine Wr.i64 (by omega) (by omega) ?_; conv => whnf))
  all_goals first
    | contradiction
    | exact RetK.int (by unfold cmpI; simp [*])
    | exact RetK.int (by unfold cmpI; rw [if_neg (by assumption), if_pos (by omega)])
    | exact RetK.int (by unfold cmpI; rw [if_neg (by assumption), if_neg (by omega)])
def orI : List Int → Int
  | [] => 0
  | a :: r => if a = 0 then orI r else a
set_option maxRecDepth 100000 in
theorem cmp_Or_int_ (l : List Int) : SpecP Tryz.prog 202 [eInts l] (fun r => r = .int .i64 (orI l)) := by
  refine SpecP.body I_cmp_Or_int_ tabOK Tryz.func202 rfl Tryz.call202 (by show 1 ≤ _; decide) ?_
  conv => whnf
  repeat' (
    first
    | (intro (_ : _ ≤ 9223372036854775807); conv => whnf)
    | (refine Br.dec (fun _ => ?_) (fun _ => ?_) <;> first | (exfalso; omega) | conv => whnf)
    | (refine Br.dec2 (fun _ => ?_) (fun _ => ?_) <;> first | (exfalso; omega) | conv => whnf)
    | (refine DrawK.auto tabOK mixed (by kernel_rfl) ?_; conv => whnf)
    | (refine Br.n (fun _ => ?_) (fun _ => ?_) <;> conv => whnf)
    | (refine Br.b (fun _ => ?_) (fun _ => ?_) <;> conv => whnf)
    | (refine And.intro rfl ?_; conv => whnf)
    | (refine And.intro ⟨by decide, by decide⟩ ?_; conv => whnf)
    | (refine And.intro ⟨rfl, rfl, by decide⟩ ?_; conv => whnf)
    | (refine BsK.pure (fun x hx => by rcases List.mem_singleton.1 hx with rfl; rfl) rfl ?_; conv => whnf)
    | (refine IdxK.map (by omega) (fun _ => rfl) ?_; conv => whnf)
    | (refine IdxK.xs (by omega) ?_; conv => whnf)
    | (refine IdxK.ss (by omega) ?_; conv => whnf)
    | (refine ByteK.at (by omega) ?_; conv => whnf)
    | (refine Wr.i64 (by omega) (by omega) ?_; conv => whnf))
  have hl : (l.map (AV.int .i64)).length = l.length := List.length_map _
  refine LoopK.inv tabOK (fun j : Nat => ⟨[(3, .p (.int .i64 0)), (6, .p (eInts l)), (7, .p (.int .i64 (l.map (AV.int .i64)).length)), (8, .p (.int .i64 j))], []⟩) (fun j => j ≤ l.length ∧ orI (l.drop j) = orI l) (fun j => l.length - j) 0 (Le.of_eq rfl) ⟨Nat.zero_le _, rfl⟩ ?_
  rintro j ⟨h2, h3⟩
  rcases Nat.lt_or_ge j l.length with hj | hj
  · rw [List.drop_eq_getElem_cons hj, orI] at h3
    conv => whnf
    repeat' (
      first
      | (intro (_ : _ ≤ 9223372036854775807); conv => whnf)
      | (refine Br.dec (fun _ => ?_) (fun _ => ?_) <;> first | (exfalso; omega) | conv => whnf)
      | (refine Br.dec2 (fun _ => ?_) (fun _ => ?_) <;> first | (exfalso; omega) | conv => whnf)
      | (refine DrawK.auto tabOK mixed (by kernel_rfl) ?_; conv => whnf)
      | (refine Br.n (fun _ => ?_) (fun _ => ?_) <;> conv => whnf)
      | (refine Br.b (fun _ => ?_) (fun _ => ?_) <;> conv => whnf)
      | (refine And.intro rfl ?_; conv => whnf)
      | (refine And.intro ⟨by decide, by decide⟩ ?_; conv => whnf)
      | (refine And.intro ⟨rfl, rfl, by decide⟩ ?_; conv => whnf)
      | (refine BsK.pure (fun x hx => by rcases List.mem_singleton.1 hx with rfl; rfl) rfl ?_; conv => whnf)
      | (refine IdxK.map (by omega) (fun _ => rfl) ?_; conv => whnf)
      | (refine IdxK.xs (by omega) ?_; conv => whnf)
      | (refine IdxK.ss (by omega) ?_; conv => whnf)
      | (refine ByteK.at (by omega) ?_; conv => whnf)
      | (refine Wr.i64 (by omega) (by omega) ?_; conv => whnf))
    all_goals first
      | exact RetK.int (by rw [← h3, if_neg (by assumption)])
      | exact ⟨j + 1, ⟨by omega, by rw [← h3, if_pos (by assumption)]⟩, by omega, Le.of_eq rfl⟩
      | exact ⟨j + 1, ⟨by omega, by rw [← h3, if_pos (by simp_all)]⟩, by omega, Le.of_eq rfl⟩
  · rw [List.drop_eq_nil_of_le hj, orI] at h3
    conv => whnf
    repeat' (
      first
      | (intro (_ : _ ≤ 9223372036854775807); conv => whnf)
      | (refine Br.dec (fun _ => ?_) (fun _ => ?_) <;> first | (exfalso; omega) | conv => whnf)
      | (refine Br.dec2 (fun _ => ?_) (fun _ => ?_) <;> first | (exfalso; omega) | conv => whnf)
      | (refine DrawK.auto tabOK mixed (by kernel_rfl) ?_; conv => whnf)
      | (refine Br.n (fun _ => ?_) (fun _ => ?_) <;> conv => whnf)
      | (refine Br.b (fun _ => ?_) (fun _ => ?_) <;> conv => whnf)
      | (refine And.intro rfl ?_; conv => whnf)
      | (refine And.intro ⟨by decide, by decide⟩ ?_; conv => whnf)
      | (refine And.intro ⟨rfl, rfl, by decide⟩ ?_; conv => whnf)
      | (refine BsK.pure (fun x hx => by rcases List.mem_singleton.1 hx with rfl; rfl) rfl ?_; conv => whnf)
      | (refine IdxK.map (by omega) (fun _ => rfl) ?_; conv => whnf)
      | (refine IdxK.xs (by omega) ?_; conv => whnf)
      | (refine IdxK.ss (by omega) ?_; conv => whnf)
      | (refine ByteK.at (by omega) ?_; conv => whnf)
      | (refine Wr.i64 (by omega) (by omega) ?_; conv => whnf))
    exact RetK.int h3
def headI (l : List S) (o : Int) : Int := match l with
  | [] => o
  | t :: _ => t.id
set_option maxRecDepth 100000 in
theorem flat_head (l : List S) (o : Int) : SpecP Tryz.prog 226 [.sl (l.map fun t => .agg t.cells), .int .i64 o] (fun r => r = .int .i64 (headI l o)) := by
  refine SpecP.body I_flat_head tabOK Tryz.func226 rfl Tryz.call226 (by show 2 ≤ _; decide) ?_
  conv => whnf
  repeat' (
    first
    | (intro (_ : _ ≤ 9223372036854775807); conv => whnf)
    | (refine Br.dec (fun _ => ?_) (fun _ => ?_) <;> first | (exfalso; omega) | conv => whnf)
    | (refine Br.dec2 (fun _ => ?_) (fun _ => ?_) <;> first | (exfalso; omega) | conv => whnf)
    | (refine DrawK.auto tabOK mixed (by kernel_rfl) ?_; conv => whnf)
    | (refine Br.n (fun _ => ?_) (fun _ => ?_) <;> conv => whnf)
    | (refine Br.b (fun _ => ?_) (fun _ => ?_) <;> conv => whnf)
    | (refine And.intro rfl ?_; conv => whnf)
    | (refine And.intro ⟨by decide, by decide⟩ ?_; conv => whnf)
    | (refine And.intro ⟨rfl, rfl, by decide⟩ ?_; conv => whnf)
    | (refine BsK.pure (fun x hx => by rcases List.mem_singleton.1 hx with rfl; rfl) rfl ?_; conv => whnf)
    | (refine IdxK.map (by omega) (fun _ => rfl) ?_; conv => whnf)
    | (refine IdxK.xs (by omega) ?_; conv => whnf)
    | (refine IdxK.ss (by omega) ?_; conv => whnf)
    | (refine ByteK.at (by omega) ?_; conv => whnf)
    | (refine Wr.i64 (by omega) (by omega) ?_; conv => whnf))
  · cases l with
    | nil => simp at *
    | cons t r =>
      refine IdxK.at (k := 0) rfl rfl rfl ?_
      exact RetK.int rfl
  · cases l with
    | nil => exact RetK.int rfl
    | cons t r => simp at *
def sameStep (a b : Step) : Bool := decide (a.src = b.src) && decide (a.dst = b.dst)
set_option maxRecDepth 100000 in
theorem flat_Sort_2 (a b : Step) : SpecP Tryz.prog 206 [.agg a.cells, .agg b.cells] (fun r => r = .bool (sameStep a b)) := by
  refine SpecP.body I_flat_Sort_2 tabOK Tryz.func206 rfl Tryz.call206 (by show 2 ≤ _; decide) ?_
  conv => whnf
  repeat' (
    first
    | (intro (_ : _ ≤ 9223372036854775807); conv => whnf)
    | (refine Br.dec (fun _ => ?_) (fun _ => ?_) <;> first | (exfalso; omega) | conv => whnf)
    | (refine Br.dec2 (fun _ => ?_) (fun _ => ?_) <;> first | (exfalso; omega) | conv => whnf)
    | (refine DrawK.auto tabOK mixed (by kernel_rfl) ?_; conv => whnf)
    | (refine Br.n (fun _ => ?_) (fun _ => ?_) <;> conv => whnf)
    | (refine Br.b (fun _ => ?_) (fun _ => ?_) <;> conv => whnf)
    | (refine And.intro rfl ?_; conv => whnf)
    | (refine And.intro ⟨by decide, by decide⟩ ?_; conv => whnf)
    | (refine And.intro ⟨rfl, rfl, by decide⟩ ?_; conv => whnf)
    | (refine BsK.pure (fun x hx => by rcases List.mem_singleton.1 hx with rfl; rfl) rfl ?_; conv => whnf)
    | (refine IdxK.map (by omega) (fun _ => rfl) ?_; conv => whnf)
    | (refine IdxK.xs (by omega) ?_; conv => whnf)
    | (refine IdxK.ss (by omega) ?_; conv => whnf)
    | (refine ByteK.at (by omega) ?_; conv => whnf)
    | (refine Wr.i64 (by omega) (by omega) ?_; conv => whnf))
  all_goals first
    | exact RetK.bool (show (a.dst == b.dst) = sameStep a b by unfold sameStep; simp [*]; rfl)
    | exact RetK.ff (by unfold sameStep; simp [*])
def stepC (a b : Step) : Int := orI [cmpI (rankI a.src) (rankI b.src), cmpI (rankI a.dst) (rankI b.dst), cmpI a.kind b.kind]
set_option maxRecDepth 100000 in
theorem flat_Sort_1 (a b : Step) : SpecP Tryz.prog 201 [.agg a.cells, .agg b.cells] (fun r => r = .int .i64 (stepC a b)) := by
  refine SpecP.body I_flat_Sort_1 tabOK Tryz.func201 rfl Tryz.call201 (by show 2 ≤ _; decide) ?_
  conv => whnf
  repeat' (
    first
    | (intro (_ : _ ≤ 9223372036854775807); conv => whnf)
    | (refine Br.dec (fun _ => ?_) (fun _ => ?_) <;> first | (exfalso; omega) | conv => whnf)
    | (refine Br.dec2 (fun _ => ?_) (fun _ => ?_) <;> first | (exfalso; omega) | conv => whnf)
    | (refine DrawK.auto tabOK mixed (by kernel_rfl) ?_; conv => whnf)
    | (refine Br.n (fun _ => ?_) (fun _ => ?_) <;> conv => whnf)
    | (refine Br.b (fun _ => ?_) (fun _ => ?_) <;> conv => whnf)
    | (refine CallK.pure (flat_Rank _) (by repeat' (first | exact ArgP.nil | refine ArgP.cons ?_ ?_ | exact Sub.refl _ | exact Sub.tt rfl | exact Sub.ff rfl)) ?_; rintro _ rfl; conv => whnf)
    | (refine CallK.pure (cmp_Compare_int_ _ _) (by repeat' (first | exact ArgP.nil | refine ArgP.cons ?_ ?_ | exact Sub.refl _ | exact Sub.tt rfl | exact Sub.ff rfl)) ?_; rintro _ rfl; conv => whnf)
    | (refine CallK.pure (cmp_Or_int_ [cmpI (rankI a.src) (rankI b.src), cmpI (rankI a.dst) (rankI b.dst), cmpI a.kind b.kind]) (by repeat' (first | exact ArgP.nil | refine ArgP.cons ?_ ?_ | exact Sub.refl _ | exact Sub.tt rfl | exact Sub.ff rfl | exact Sub.int (by omega))) ?_; rintro _ rfl; conv => whnf)
    | (refine And.intro rfl ?_; conv => whnf)
    | (refine And.intro ⟨by decide, by decide⟩ ?_; conv => whnf)
    | (refine And.intro ⟨rfl, rfl, by decide⟩ ?_; conv => whnf)
    | (refine BsK.pure (fun x hx => by rcases List.mem_singleton.1 hx with rfl; rfl) rfl ?_; conv => whnf)
    | (refine IdxK.map (by omega) (fun _ => rfl) ?_; conv => whnf)
    | (refine IdxK.xs (by omega) ?_; conv => whnf)
    | (refine IdxK.ss (by omega) ?_; conv => whnf)
    | (refine ByteK.at (by omega) ?_; conv => whnf)
    | (refine Wr.i64 (by omega) (by omega) ?_; conv => whnf)
    | (refine BsK.pureL rfl rfl ?_; conv => whnf))
  exact RetK.int rfl
end Go.Ab
namespace Go.Ab
open Go.Proofs Go.Sort
theorem Frm.trans {B : Nat → Prop} {w w' w'' : World} (h : Frm B w w') (k : Frm B w' w'') : Frm B w w'' :=
  ⟨k.os.trans h.os, k.tape.trans h.tape, k.output.trans h.output, Nat.le_trans h.drawn k.drawn, Nat.le_trans h.size k.size, fun j hj hn => (k.block j (Nat.lt_of_lt_of_le hj h.size) hn).trans (h.block j hj hn)⟩
theorem Frm.weak {B B' : Nat → Prop} {w w' : World} (h : Frm B w w') (hB : ∀ k, B k → B' k) : Frm B' w w' :=
  ⟨h.os, h.tape, h.output, h.drawn, h.size, fun j hj hn => h.block j hj fun hb => hn (hB j hb)⟩
theorem Frm.drewN (B : Nat → Prop) (w : World) (n : Nat) : Frm B w (w.drewN n) := ⟨rfl, rfl, rfl, Nat.le_add_right _ _, Nat.le_refl _, fun _ _ _ => rfl⟩
/-- One row of the caller's own turned in place, others beside it. -/
theorem row_turn2 {σ : Mem} {β : Lab} {k : Nat} {c c' : Chunk} {rest : Heap} {w w' : World} {i : BInfo} (h : HRel σ β ((k, c) :: rest) w) (hi : β k = some i) (hf : Frm (fun b => b = i.blk) w w')
    (hnew : c'.holds σ β w' k) : HRel σ β ((k, c') :: rest) w' ∧ Later σ β ((k, c) :: rest) w σ β ((k, c') :: rest) w' := by
  have hap := h.apart k (by simp) i hi
  have hkr : ∀ j ∈ rest.map (·.1), j ≠ k := fun j hj he => by
    have := h.nodup
    simp only [List.map_cons, List.nodup_cons] at this
    exact this.1 (he ▸ hj)
  refine ⟨⟨fun b cs hb => ?_, fun j d hj => ?_, h.nodup, fun j hj i' hi' b hb => ?_, h.inj⟩, Mem.le_refl σ, ⟨hf.os, hf.tape, hf.output, hf.drawn, hf.size, fun b hb hn => hf.block b hb fun he => hn ⟨k, by simp, i, hi, .inl he.symm⟩⟩,
    fun b h0 h1 => absurd h0 h1, fun b ho => .inl ho, fun _ _ _ => rfl⟩
  · obtain ⟨e, fr, hh⟩ := h.mem b cs hb
    exact ⟨e, fr, (hf.block b (Array.getElem?_eq_some_iff.1 hh).1 fun he => by rw [he, (hap _ i.has_blk).1] at hb; cases hb).trans hh⟩
  · rcases List.mem_cons.1 hj with he | hj
    · cases he
      exact hnew
    · have hjm : j ∈ rest.map (·.1) := List.mem_map.2 ⟨_, hj, rfl⟩
      refine (h.chunks j d (List.mem_cons_of_mem _ hj)).mono (Mem.le_refl σ) fun i' hi' b hb => hf.block b (h.apart j (List.mem_cons_of_mem _ hjm) i' hi' b hb).2 fun he => ?_
      exact hkr j hjm (h.inj j (List.mem_cons_of_mem _ hjm) k (by simp) i' i hi' hi b hb (.inl he.symm))
  · have := h.apart j hj i' hi' b hb
    exact ⟨this.1, Nat.lt_of_lt_of_le this.2 hf.size⟩
/-- One row of the caller's own put into a new block, others beside it. -/
theorem row_grow {σ : Mem} {β : Lab} {k : Nat} {c c' : Chunk} {rest : Heap} {w w' : World} {i' : BInfo} (h : HRel σ β ((k, c) :: rest) w) (hk : 2000 ≤ k) (hf : Frm (fun _ => False) w w') (hb : i'.blk = w.heap.size) (hs : i'.subs = []) (hlt : w.heap.size < w'.heap.size)
    (hfree : ∀ j d, (j, d) ∈ rest → d.free k = true) (hnew : c'.holds σ (β.set k (some i')) w' k) :
    HRel σ (β.set k (some i')) ((k, c') :: rest) w' ∧ Later σ β ((k, c) :: rest) w σ (β.set k (some i')) ((k, c') :: rest) w' := by
  have hkr : ∀ j ∈ rest.map (·.1), j ≠ k := fun j hj he => by
    have := h.nodup
    simp only [List.map_cons, List.nodup_cons] at this
    exact this.1 (he ▸ hj)
  have hset : ∀ j, j ≠ k → (β.set k (some i')) j = β j := fun j hj => by simp [Lab.set, hj]
  have hsetk : (β.set k (some i')) k = some i' := by simp [Lab.set]
  have hhas : ∀ b, i'.has b → b = w.heap.size := fun b hbb => by
    rcases hbb with hbb | ⟨_, hbb⟩
    · rw [← hbb, hb]
    · rw [hs] at hbb; cases hbb
  refine ⟨⟨fun b cs hb => ?_, fun j d hj => ?_, h.nodup, fun j hj i1 hi1 b hb => ?_, fun j hj j' hj' i1 i2 h1 h2 b hb1 hb2 => ?_⟩, Mem.le_refl σ, hf.weak fun _ h => h.elim,
    fun b h0 h1 => absurd h0 h1, fun b ⟨j, hj, i1, h1, hb1⟩ => ?_, fun j h0 h1 => hset j (by omega)⟩
  · obtain ⟨e, fr, hh⟩ := h.mem b cs hb
    exact ⟨e, fr, (hf.block b (Array.getElem?_eq_some_iff.1 hh).1 id).trans hh⟩
  · rcases List.mem_cons.1 hj with he | hj
    · cases he
      exact hnew
    · have hjm : j ∈ rest.map (·.1) := List.mem_map.2 ⟨_, hj, rfl⟩
      exact ((h.chunks j d (List.mem_cons_of_mem _ hj)).mono (Mem.le_refl σ) fun i1 hi1 b hb => hf.block b (h.apart j (List.mem_cons_of_mem _ hjm) i1 hi1 b hb).2 id).set _ (hkr j hjm) (hfree j d hj)
  · by_cases hjk : j = k
    · subst hjk
      rw [hsetk] at hi1; cases hi1
      have hbs := hhas b hb
      refine ⟨?_, by omega⟩
      cases hσ : σ b with
      | none => rfl
      | some cs =>
        obtain ⟨e, fr, hh⟩ := h.mem b cs hσ
        have := (Array.getElem?_eq_some_iff.1 hh).1
        omega
    · rw [hset j hjk] at hi1
      have := h.apart j hj i1 hi1 b hb
      exact ⟨this.1, Nat.lt_of_lt_of_le this.2 hf.size⟩
  · by_cases hjk : j = k <;> by_cases hjk' : j' = k
    · rw [hjk, hjk']
    · subst hjk
      rw [hsetk] at h1; cases h1
      rw [hset j' hjk'] at h2
      have := (h.apart j' hj' i2 h2 b hb2).2
      have := hhas b hb1
      omega
    · subst hjk'
      rw [hsetk] at h2; cases h2
      rw [hset j hjk] at h1
      have := (h.apart j hj i1 h1 b hb1).2
      have := hhas b hb2
      omega
    · rw [hset j hjk] at h1
      rw [hset j' hjk'] at h2
      exact h.inj j hj j' hj' i1 i2 h1 h2 b hb1 hb2
  · by_cases hjk : j = k
    · subst hjk
      rw [hsetk] at h1; cases h1
      exact .inr (by rw [hhas b hb1]; exact Nat.le_refl _)
    · rw [hset j hjk] at h1
      exact .inl ⟨j, hj, i1, h1, hb1⟩
def setL (cs : Array Value) : Nat → List Value → Array Value
  | _, [] => cs
  | o, v :: r => setL (cs.setIfInBounds o v) (o + 1) r
theorem setL_size : ∀ (vs : List Value) (cs : Array Value) (o : Nat), (setL cs o vs).size = cs.size
  | [], _, _ => rfl
  | v :: r, cs, o => by rw [setL, setL_size r]; simp
theorem setL_get : ∀ (vs : List Value) (cs : Array Value) (o j : Nat), o + vs.length ≤ cs.size → (setL cs o vs)[j]? = if o ≤ j ∧ j < o + vs.length then vs[j - o]? else cs[j]?
  | [], cs, o, j, _ => by simp [setL]; intros; omega
  | v :: r, cs, o, j, h => by
    simp only [List.length_cons] at h
    rw [setL, setL_get r _ (o + 1) j (by simp; omega)]
    simp only [List.length_cons]
    by_cases h1 : j = o
    · subst h1
      rw [if_neg (by omega), if_pos (by omega), Array.getElem?_setIfInBounds_self_of_lt (by omega)]
      simp
    · by_cases h2 : o + 1 ≤ j ∧ j < o + 1 + r.length
      · rw [if_pos h2, if_pos (by omega), show j - o = (j - (o + 1)) + 1 by omega]
        simp
      · rw [if_neg h2, if_neg (by omega), Array.getElem?_setIfInBounds_ne (Ne.symm h1)]
theorem setCells_own {b : Nat} {e : TypeId} : ∀ (vs : List Value) (o : Nat) {w : World} {cs : Array Value}, w.heap[b]? = some (.cells cs e (0, 0)) →
    (w.setCells b o vs).heap[b]? = some (.cells (setL cs o vs) e (0, 0)) ∧ Frm (fun x => x = b) w (w.setCells b o vs)
  | [], _, w, cs, h => ⟨h, Frm.refl _ _⟩
  | v :: r, o, w, cs, h => by
    have h1 : (w.setCell ⟨b, o, none⟩ v).heap[b]? = some (.cells (cs.setIfInBounds o v) e (0, 0)) := by
      simp [World.setCell, Array.getElem?_modify, h]
    have h2 : Frm (fun x => x = b) w (w.setCell ⟨b, o, none⟩ v) := ⟨rfl, rfl, rfl, Nat.le_refl _, by simp [World.setCell], fun k _ hn => by simp [World.setCell, Array.getElem?_modify, Ne.symm hn]⟩
    obtain ⟨h3, h4⟩ := setCells_own r (o + 1) h1
    exact ⟨h3, h2.trans h4⟩
theorem ints_get {σ : Mem} {l : List Int} {vs : Array Value} (h : ∀ (m : Nat) (x : AV), (l.map (AV.int .i64))[m]? = some x → x.cells.length = 1 ∧ ∀ (j : Nat) (c : AV), x.cells[j]? = some c → ∃ u : Value, vs[m * 1 + j]? = some u ∧ Rep σ c u) {j : Nat} (hj : j < l.length) :
    vs[j]? = some (.int .i64 l[j]) := by
  obtain ⟨u, h1, h2⟩ := (h j (.int .i64 l[j]) (by simp [hj])).2 0 (.int .i64 l[j]) rfl
  cases h2 with
  | int => simpa using h1
theorem ints_rep {σ : Mem} {l : List Int} {vs : Array Value} (h : ∀ j (hj : j < l.length), vs[j]? = some (.int .i64 l[j])) : ∀ (m : Nat) (x : AV), (l.map (AV.int .i64))[m]? = some x → x.cells.length = 1 ∧ ∀ (j : Nat) (c : AV), x.cells[j]? = some c → ∃ u : Value, vs[m * 1 + j]? = some u ∧ Rep σ c u := by
  intro m x hx
  rw [List.getElem?_map] at hx
  cases hq : l[m]? with
  | none => rw [hq] at hx; cases hx
  | some s =>
    rw [hq] at hx; cases hx
    obtain ⟨hm, rfl⟩ := List.getElem?_eq_some_iff.1 hq
    refine ⟨rfl, fun j c hj => ?_⟩
    have hj0 : j = 0 := by
      have := (List.getElem?_eq_some_iff.1 hj).1
      simpa [AV.cells] using this
    subst hj0
    simp only [AV.cells, List.getElem?_cons_zero, Option.some.injEq] at hj
    subst hj
    exact ⟨_, by simpa using h m hm, .int _ _⟩
theorem vals2 {vals : Array Value} {l l' : LV} (h : vals.size = [l, l'].length) : ∃ v u, vals = #[v, u] := by
  obtain ⟨vs⟩ := vals
  match vs, h with
  | [a, b], _ => exact ⟨a, b, rfl⟩
theorem vals3 {vals : Array Value} {l l' l'' : LV} (h : vals.size = [l, l', l''].length) : ∃ v u t, vals = #[v, u, t] := by
  obtain ⟨vs⟩ := vals
  match vs, h with
  | [a, b, c], _ => exact ⟨a, b, c, rfl⟩
theorem int_val {σ : Mem} {β : Lab} {k : IntKind} {n : Int} {v : Value} (h : RepL σ β (.p (.int k n)) v) : v = .int k n := by
  cases h with
  | p h => cases h; rfl
theorem Rep.tup2 {σ : Mem} {n : Int} {b : Bool} : Rep σ (.tup [.int .i64 n, .bool b]) (.tuple #[.int .i64 n, .bool b]) :=
  .tup _ _ (fun j => (#[Value.int .i64 n, .bool b]).getD j undef) rfl (fun j c hj => by
    match j, hj with
    | 0, _ => rfl
    | 1, _ => rfl) (fun j c hj => by
    match j, hj with
    | 0, hj => cases hj; exact .int _ _
    | 1, hj => cases hj; exact .bool _)
theorem slices_BinarySearchP (l : List Int) (x : Int) (hs : l.Pairwise (· ≤ ·)) (hlen : l.length ≤ 1000000000) :
    SpecP Tryz.prog 253 [.sl (l.map (.int .i64)), .int .i64 x] (fun r => r = .tup [.int .i64 (l.countP (· < x) : Nat), .bool (l.contains x)]) := by
  refine ⟨Tryz.call253, fun σ w vals hn hv hw => ?_⟩
  obtain ⟨v, u, rfl⟩ := vals2 (l := .p .und) (l' := .p .und) hn
  have hv1 : Rep σ (.sl (l.map (.int .i64))) v := by simpa using hv 0 _ rfl
  have hv2 : Rep σ (.int .i64 x) u := by simpa using hv 1 _ rfl
  obtain rfl : u = .int .i64 x := by cases hv2; rfl
  have empty : ∀ a c, l = [] → Calls Tryz.prog 253 #[.slice a 0 c, .int .i64 x] w fun e w' => ∃ c u σ', e = .returned u ∧ c = AV.tup [.int .i64 (l.countP (· < x) : Nat), .bool (l.contains x)] ∧ Rep σ' c u ∧ σ.le σ' ∧ σ'.lies w' ∧ Frm (fun _ => False) w w' ∧ ∀ b, σ b = none → σ' b ≠ none → w.heap.size ≤ b := by
    intro a c hl
    subst hl
    have hc := Any.slices_BinarySearch_int_empty Tryz.laysB a c x w
    change Calls Tryz.prog 253 _ _ _ at hc
    refine hc.mono ?_
    rintro e w' ⟨rfl, rfl⟩
    exact ⟨_, _, σ, rfl, rfl, Rep.tup2, Mem.le_refl σ, hw, Frm.refl _ _, fun b h h' => absurd h h'⟩
  generalize hes : l.map (AV.int .i64) = es at hv1
  cases hv1 with
  | nilsl => exact empty _ _ (by simpa using hes)
  | slz b => exact empty _ _ (by simpa using hes)
  | sl _ b off cap sz cells ug hb hcap hmax hsz hc hr =>
    subst hes
    by_cases hl : l = []
    · have := empty (some ⟨b, off, none⟩) cap hl
      subst hl
      exact this
    · have hl0 : 0 < l.length := List.length_pos_iff.2 hl
      have hsz1 : sz = 1 := (hsz 0 (.int .i64 l[0]) (by simp [hl0])).symm
      subst hsz1
      obtain ⟨e, fr, hh⟩ := hw b cells hb
      rw [List.length_map]
      have hcc := Any.slices_BinarySearch_int Tryz.laysB b off l.length cap l x w (Nat.le_refl _) (by omega) (fun j hj => by
        have h1 := hc j (.int .i64 l[j]) 0 (.int .i64 l[j]) (by simp [hj]) rfl
        have h2 := hr j (.int .i64 l[j]) 0 (.int .i64 l[j]) (by simp [hj]) rfl
        rw [show w.cell? ⟨b, off + j, none⟩ = cells[off + j]? by simp [World.cell?, hh]]
        simp only [Nat.mul_one, Nat.add_zero] at h1
        rw [h1]
        generalize ug j 0 = z at h2
        cases h2
        simp [hj]) (by rw [List.take_length]; exact hs)
      change Calls Tryz.prog 253 _ _ _ at hcc
      refine hcc.mono ?_
      rintro e w' ⟨rfl, q, rfl⟩
      rw [List.take_length]
      exact ⟨_, _, σ, rfl, rfl, Rep.tup2, Mem.le_refl σ, hw, Frm.drewN _ w q, fun b h h' => absurd h h'⟩
def insI (l : List Int) (k : Nat) (x : Int) : List Int := l.take k ++ x :: l.drop k
theorem insI_len {l : List Int} {k : Nat} {x : Int} (h : k ≤ l.length) : (insI l k x).length = l.length + 1 := by simp [insI]; omega
theorem insI_get {l : List Int} {k j : Nat} {x : Int} (h : k ≤ l.length) : (insI l k x)[j]? = if j < k then l[j]? else if j = k then some x else l[j - 1]? := by
  unfold insI
  rw [List.getElem?_append]
  simp only [List.length_take, Nat.min_eq_left h]
  by_cases h1 : j < k
  · rw [if_pos h1, if_pos h1, List.getElem?_take_of_lt h1]
  · rw [if_neg h1, if_neg h1]
    by_cases h2 : j = k
    · subst h2; simp
    · rw [if_neg h2, show j - k = (j - 1 - k) + 1 by omega, List.getElem?_cons_succ, List.getElem?_drop]
      congr 1; omega
theorem ints_rep2 {σ : Mem} {l : List Int} {vs : Array Value} (h : ∀ j, j < l.length → vs[j]? = (l[j]?).map (Value.int .i64)) : ∀ (m : Nat) (x : AV), (l.map (AV.int .i64))[m]? = some x → x.cells.length = 1 ∧ ∀ (j : Nat) (c : AV), x.cells[j]? = some c → ∃ u : Value, vs[m * 1 + j]? = some u ∧ Rep σ c u :=
  ints_rep fun j hj => by rw [h j hj, List.getElem?_eq_getElem hj]; rfl
theorem Frm.new {w w' : World} (h : Frm (fun x => x = w.heap.size) w w') : Frm (fun _ => False) w w' :=
  ⟨h.os, h.tape, h.output, h.drawn, h.size, fun k hk _ => h.block k hk (by omega)⟩
theorem alloc_frm (w : World) (o : Obj) (B : Nat → Prop) : Frm B w (w.alloc o) := ⟨rfl, rfl, rfl, Nat.le_refl _, show w.heap.size ≤ (w.heap.push o).size by simp, fun k hk _ => heap_alloc_old w o hk⟩
theorem shape_own {w : World} {b : Nat} {vs : Array Value} {e : TypeId} (h : w.heap[b]? = some (.cells vs e (0, 0))) : w.shape? b = some (e, vs.size) := by
  simp [World.shape?, h]
theorem zero_size (n : Nat) : (Builtin.zeroCells (Value.int .i64 0).cells n).size = n := by
  rw [size_zeroCells]
  exact Nat.mul_one n
theorem slices_Insert (l : List Int) (k : Nat) (x : Int) (hk : k ≤ l.length) (hlen : l.length ≤ 1000000000) :
    SpecH Tryz.prog 254 [.hd 2000 0 l.length, .p (.int .i64 k), .hd 1000 0 1] [(2000, .own 3 1 (l.map (.int .i64))), (1000, .own 3 1 [.int .i64 x])]
      (fun r H => r = .hd 2000 0 (l.length + 1) ∧ H = [(2000, .own 3 1 ((insI l k x).map (.int .i64))), (1000, .own 3 1 [.int .i64 x])]) := by
  refine ⟨Tryz.call254, fun σ β w vals hn hv hH => ?_⟩
  obtain ⟨v, u, t, rfl⟩ := vals3 hn
  have hv1 : RepL σ β (.hd 2000 0 l.length) v := by simpa using hv 0 _ rfl
  have hv2 : RepL σ β (.p (.int .i64 k)) u := by simpa using hv 1 _ rfl
  have hv3 : RepL σ β (.hd 1000 0 1) t := by simpa using hv 2 _ rfl
  cases int_val hv2
  have hil := insI_len (x := x) hk
  obtain ⟨cs, hcs⟩ : ∃ cs, cs = l.map (Value.int .i64) := ⟨_, rfl⟩
  have hcl : cs.length = l.length := by rw [hcs]; simp
  have hcg : ∀ j : Nat, cs[j]? = (l[j]?).map (Value.int .i64) := fun j => by rw [hcs]; simp
  have h1c : ∀ v ∈ cs, v.oneCell' = true := fun v hv => by
    rw [hcs] at hv
    obtain ⟨z, _, rfl⟩ := List.mem_map.1 hv
    rfl
  have h1v : ∀ v ∈ [Value.int .i64 x], v.oneCell' = true := fun v hv => by
    rcases List.mem_singleton.1 hv with rfl
    rfl
  have hch1 : (Chunk.own 3 1 [.int .i64 x]).holds σ β w 1000 := hH.chunks 1000 _ (List.mem_cons_of_mem _ List.mem_cons_self)
  rcases hch1 with ⟨_, hes⟩ | ⟨iv, vv, hiv, hszv, hhv, hv5, hv6, hv7, hv8⟩
  · cases hes
  have hte := hd_own hv3 hiv
  subst hte
  have hvx : vv[0]? = some (.int .i64 x) := by
    have := ints_get (σ := σ) (l := [x]) hv8 (j := 0) (by simp)
    simpa using this
  have hvs : ∀ j v, [Value.int .i64 x][j]? = some v → w.cell? ⟨iv.blk, 0 + j, none⟩ = some v := fun j v hj => by
    rw [cell_own hhv]
    match j, hj with
    | 0, hj => cases hj; simpa using hvx
  have hv6' : 1 ≤ iv.cap := by simpa using hv6
  have hltv := (hH.apart 1000 (by simp) iv hiv iv.blk iv.has_blk).2
  -- the new row is in a new block
  have grown : ∀ (w' : World) (vs' : Array Value) (cap : Nat), Frm (fun x => x = w.heap.size) w w' → w'.heap[w.heap.size]? = some (.cells vs' 3 (0, 0)) → vs'.size = cap → l.length + 1 ≤ cap → cap ≤ maxLen →
      (∀ j, j < l.length + 1 → vs'[j]? = ((insI l k x)[j]?).map (Value.int .i64)) →
      ∃ β', RepL σ β' (.hd 2000 0 (l.length + 1)) (.slice (some ⟨w.heap.size, 0, none⟩) (l.length + 1) cap) ∧ HRel σ β' [(2000, .own 3 1 ((insI l k x).map (.int .i64))), (1000, .own 3 1 [.int .i64 x])] w' ∧ Later σ β [(2000, .own 3 1 (l.map (.int .i64))), (1000, .own 3 1 [.int .i64 x])] w σ β' [(2000, .own 3 1 ((insI l k x).map (.int .i64))), (1000, .own 3 1 [.int .i64 x])] w' := by
    intro w' vs' cap hf hb hsz hle hmax hget
    obtain ⟨hH', hL⟩ := row_grow (c' := .own 3 1 ((insI l k x).map (.int .i64))) (i' := ⟨w.heap.size, cap, 1, []⟩) hH (Nat.le_refl _) hf.new rfl rfl (Array.getElem?_eq_some_iff.1 hb).1 (fun j d hj => by
      simp at hj; rw [hj.2]; rfl) (.inr ⟨⟨w.heap.size, cap, 1, []⟩, vs', by simp [Lab.set], rfl, hb, by simp [hsz], by simp [hil, hle], hmax, ints_rep2 fun j hj => hget j (by omega)⟩)
    refine ⟨_, ?_, hH', hL⟩
    have := RepL.hd (σ := σ) (β := β.set 2000 (some ⟨w.heap.size, cap, 1, []⟩)) 2000 0 (l.length + 1) ⟨w.heap.size, cap, 1, []⟩ 0 (by simp [Lab.set]) (by simpa using hle) (.inl (by simp))
    simpa using this
  rcases hH.chunks 2000 _ List.mem_cons_self with ⟨hb0, hes⟩ | ⟨i, vs, hi, hsz, hh, h2, h3, h4, h5⟩
  · have hl0 : l = [] := by simpa using hes
    subst hl0
    obtain ⟨rfl, _⟩ := hd_nil hv1 hb0
    obtain rfl : k = 0 := by simpa using hk
    have hc := Any2.slices_Insert_int_end_grow Tryz.laysI none 0 0 iv.blk 0 1 iv.cap [] [.int .i64 x] w (by omega) (by omega) (by omega) (by omega) rfl rfl (fun _ => rfl) (fun _ h => by cases h) hvs h1v
    change Calls Tryz.prog 254 _ _ _ at hc
    refine hc.mono ?_
    rintro e w' ⟨rfl, rfl⟩
    have hge := grownCap_ge w (0 + 1) 0 (Tryz.laysI_ren.t 3)
    have hmx := grownCap_le_maxLen w (0 + 1) 0 (Tryz.laysI_ren.t 3) (by unfold maxLen; omega)
    generalize grownCap w (0 + 1) 0 (Tryz.laysI_ren.t 3) = cap at hge hmx ⊢
    obtain ⟨A, hA⟩ : ∃ A, A = ([] ++ [Value.int .i64 x] : List Value).toArray ++ Builtin.zeroCells (Value.int .i64 0).cells (cap - (0 + 1)) := ⟨_, rfl⟩
    rw [← hA]
    obtain ⟨β', g1, g2, g3⟩ := grown _ A cap ((Frm.drewN _ w 1).trans (alloc_frm _ _ _)) (heap_alloc_new w.drew _) (by rw [hA]; simp [zero_size]; omega) hge hmx (fun j hj => by
      have hj0 : j = 0 := by simpa using hj
      subst hj0
      rw [hA, Array.getElem?_append_left (by simp)]
      rfl)
    exact ⟨_, _, σ, β', _, rfl, ⟨rfl, rfl⟩, g1, g2, g3⟩
  · have hve := hd_own hv1 hi
    subst hve
    have hlt := (hH.apart 2000 (by simp) i hi i.blk i.has_blk).2
    have hget := fun j hj => ints_get (σ := σ) (l := l) h5 (j := j) hj
    have hne : iv.blk ≠ i.blk := fun he => by
      have := hH.inj 1000 (by simp) 2000 (by simp) iv i hiv hi iv.blk iv.has_blk (.inl he.symm)
      omega
    have hcap : l.length ≤ i.cap := by simpa using h3
    have hvsz : vs.size = i.cap := by simpa using h2
    have hgetc : ∀ j v, cs[j]? = some v → w.cell? ⟨i.blk, 0 + j, none⟩ = some v := fun j v hj => by
      rw [hcg] at hj
      cases hq : l[j]? with
      | none => rw [hq] at hj; cases hj
      | some z =>
        rw [hq] at hj; cases hj
        obtain ⟨hjl, rfl⟩ := List.getElem?_eq_some_iff.1 hq
        rw [cell_own hh, Nat.zero_add, hget j hjl]
    -- in place
    have placed : ∀ (w' : World) (vs' : Array Value), Frm (fun x => x = i.blk) w w' → w'.heap[i.blk]? = some (.cells vs' 3 (0, 0)) → vs'.size = i.cap → l.length + 1 ≤ i.cap →
        (∀ j, j < l.length + 1 → vs'[j]? = ((insI l k x)[j]?).map (Value.int .i64)) →
        RepL σ β (.hd 2000 0 (l.length + 1)) (.slice (some ⟨i.blk, 0, none⟩) (l.length + 1) i.cap) ∧ HRel σ β [(2000, .own 3 1 ((insI l k x).map (.int .i64))), (1000, .own 3 1 [.int .i64 x])] w' ∧ Later σ β [(2000, .own 3 1 (l.map (.int .i64))), (1000, .own 3 1 [.int .i64 x])] w σ β [(2000, .own 3 1 ((insI l k x).map (.int .i64))), (1000, .own 3 1 [.int .i64 x])] w' := by
      intro w' vs' hf hb hsz' hle hget'
      obtain ⟨hH', hL⟩ := row_turn2 (c' := .own 3 1 ((insI l k x).map (.int .i64))) hH hi hf (.inr ⟨i, vs', hi, hsz, hb, by simp [hsz'], by simp [hil, hle], h4, ints_rep2 fun j hj => hget' j (by omega)⟩)
      refine ⟨?_, hH', hL⟩
      have := RepL.hd (σ := σ) (β := β) 2000 0 (l.length + 1) i 0 hi (by simpa using hle) (.inl (by simp))
      simpa using this
    by_cases hroom : l.length + 1 ≤ i.cap
    · by_cases hkn : k < l.length
      · have hc := Any2.slices_Insert_int_shift Tryz.laysI i.blk 0 l.length i.cap k iv.blk 0 1 iv.cap cs [.int .i64 x] w hkn (by omega) hroom h4 hne hcl rfl hgetc
          (fun j hj => by rw [cell_own hh, Nat.zero_add, Array.getElem?_eq_getElem (by omega)]; rfl) (fun j hj => frozen_own hh _) hvs h1c h1v _ _ _ _ (shape_own hhv) (shape_own hh) (by omega) (frozen_own hhv _) (frozen_own hhv _)
        change Calls Tryz.prog 254 _ _ _ at hc
        refine hc.mono ?_
        rintro e w' ⟨rfl, rfl⟩
        obtain ⟨s1, s2⟩ := setCells_own (cs.drop k) (0 + (k + 1)) (w := w.drew) hh
        obtain ⟨s3, s4⟩ := setCells_own [Value.int .i64 x] (0 + k) s1
        have hdl : (cs.drop k).length = l.length - k := by simp [hcl]
        obtain ⟨g1, g2, g3⟩ := placed _ _ (((Frm.drewN _ w 1).trans s2).trans s4) s3 (by rw [setL_size, setL_size, hvsz]) hroom (fun j hj => by
          rw [setL_get _ _ _ _ (by rw [setL_size]; simp; omega), setL_get _ _ _ _ (by rw [hdl]; omega), insI_get hk, hdl]
          simp only [Nat.zero_add, List.length_singleton]
          by_cases e1 : j < k
          · rw [if_neg (by omega), if_neg (by omega), if_pos e1, hget j (by omega), List.getElem?_eq_getElem (by omega)]; rfl
          · rw [if_neg e1]
            by_cases e2 : j = k
            · subst e2; rw [if_pos (by omega), if_pos rfl]; simp
            · rw [if_neg (by omega), if_pos (by omega), if_neg e2, List.getElem?_drop, hcg]
              congr 2; omega)
        exact ⟨_, _, σ, β, _, rfl, ⟨rfl, rfl⟩, g1, g2, g3⟩
      · obtain rfl : k = l.length := by omega
        have hc := Any2.slices_Insert_int_end_room Tryz.laysI i.blk 0 l.length i.cap iv.blk 0 1 iv.cap [.int .i64 x] w (by omega) hroom h4 rfl
          (fun j hj => by rw [cell_own hh, Array.getElem?_eq_getElem (by omega)]; rfl) (fun j hj => frozen_own hh _) hvs h1v
        change Calls Tryz.prog 254 _ _ _ at hc
        refine hc.mono ?_
        rintro e w' ⟨rfl, rfl⟩
        obtain ⟨s3, s4⟩ := setCells_own [Value.int .i64 x] (0 + l.length) hh
        obtain ⟨g1, g2, g3⟩ := placed _ _ s4 s3 (by rw [setL_size, hvsz]) hroom (fun j hj => by
          rw [setL_get _ _ _ _ (by simp; omega), insI_get hk]
          simp only [Nat.zero_add, List.length_singleton]
          by_cases e1 : j < l.length
          · rw [if_neg (by omega), if_pos e1, hget j (by omega), List.getElem?_eq_getElem (by omega)]; rfl
          · obtain rfl : j = l.length := by omega
            simp)
        exact ⟨_, _, σ, β, _, rfl, ⟨rfl, rfl⟩, g1, g2, g3⟩
    · by_cases hkn : k < l.length
      · have hc := Any2.slices_Insert_int_grow Tryz.laysI i.blk 0 l.length i.cap k iv.blk 0 1 iv.cap cs [.int .i64 x] w hkn (by omega) hcap (by omega) (by omega) hcl rfl hgetc hvs h1c h1v
        change Calls Tryz.prog 254 _ _ _ at hc
        refine hc.mono ?_
        rintro e w' ⟨rfl, rfl⟩
        have hge := grownCap_ge w (l.length + 1) i.cap (Tryz.laysI_ren.t 3)
        have hmx := grownCap_le_maxLen w (l.length + 1) i.cap (Tryz.laysI_ren.t 3) (by unfold maxLen; omega)
        generalize grownCap w (l.length + 1) i.cap (Tryz.laysI_ren.t 3) = cap at hge hmx ⊢
        have hdl : (cs.drop k).length = l.length - k := by simp [hcl]
        obtain ⟨A, hA⟩ : ∃ A, A = (cs.take k).toArray ++ Builtin.zeroCells (Value.int .i64 0).cells (l.length + 1 - k) ++ Builtin.zeroCells (Value.int .i64 0).cells (cap - (l.length + 1)) := ⟨_, rfl⟩
        have hAs : A.size = cap := by rw [hA]; simp [zero_size, hcl]; omega
        have hAg : ∀ j, j < k → A[j]? = (l[j]?).map (Value.int .i64) := fun j hj => by
          rw [hA, Array.getElem?_append_left (by simp [hcl]; omega), Array.getElem?_append_left (by simp [hcl]; omega)]
          simp [hj, hcg]
        rw [← hA]
        have s0 : (w.alloc (.cells A (Tryz.laysI_ren.t 3))).drew.heap[w.heap.size]? = some (.cells A 3 (0, 0)) := heap_alloc_new w _
        obtain ⟨s1, s2⟩ := setCells_own [Value.int .i64 x] k s0
        obtain ⟨s3, s4⟩ := setCells_own (cs.drop k) (k + 1) (w := (((w.alloc (.cells A (Tryz.laysI_ren.t 3))).drew.setCells w.heap.size k [Value.int .i64 x]).drew)) s1
        obtain ⟨β', g1, g2, g3⟩ := grown _ _ cap ((((alloc_frm w _ _).trans (Frm.drewN _ _ 1)).trans s2).trans ((Frm.drewN _ _ 1).trans s4)) s3 (by rw [setL_size, setL_size, hAs]) hge hmx (fun j hj => by
          rw [setL_get _ _ _ _ (by rw [setL_size]; omega), setL_get _ _ _ _ (by simp; omega), insI_get hk, hdl]
          simp only [List.length_singleton]
          by_cases e1 : j < k
          · rw [if_neg (by omega), if_neg (by omega), if_pos e1, hAg j e1]
          · rw [if_neg e1]
            by_cases e2 : j = k
            · subst e2; rw [if_neg (by omega), if_pos (by omega), if_pos rfl]; simp
            · rw [if_pos (by omega), if_neg e2, List.getElem?_drop, hcg]
              congr 2; omega)
        exact ⟨_, _, σ, β', _, rfl, ⟨rfl, rfl⟩, g1, g2, g3⟩
      · obtain rfl : k = l.length := by omega
        have hc := Any2.slices_Insert_int_end_grow Tryz.laysI (some ⟨i.blk, 0, none⟩) l.length i.cap iv.blk 0 1 iv.cap cs [.int .i64 x] w (by omega) hcap (by omega) (by omega) hcl rfl (fun h => by cases h) (fun a ha j v hj => by
          cases ha
          rw [Addr.add_lit]
          exact hgetc j v hj) hvs h1v
        change Calls Tryz.prog 254 _ _ _ at hc
        refine hc.mono ?_
        rintro e w' ⟨rfl, rfl⟩
        have hge := grownCap_ge w (l.length + 1) i.cap (Tryz.laysI_ren.t 3)
        have hmx := grownCap_le_maxLen w (l.length + 1) i.cap (Tryz.laysI_ren.t 3) (by unfold maxLen; omega)
        generalize grownCap w (l.length + 1) i.cap (Tryz.laysI_ren.t 3) = cap at hge hmx ⊢
        obtain ⟨A, hA⟩ : ∃ A, A = (cs ++ [Value.int .i64 x]).toArray ++ Builtin.zeroCells (Value.int .i64 0).cells (cap - (l.length + 1)) := ⟨_, rfl⟩
        rw [← hA]
        obtain ⟨β', g1, g2, g3⟩ := grown _ A cap ((Frm.drewN _ w 1).trans (alloc_frm _ _ _)) (heap_alloc_new w.drew _) (by rw [hA]; simp [zero_size, hcl]; omega) hge hmx (fun j hj => by
          rw [hA, Array.getElem?_append_left (by simp [hcl]; omega), insI_get hk]
          simp only [List.getElem?_toArray, List.getElem?_append, hcl]
          by_cases e1 : j < l.length
          · rw [if_pos e1, if_pos e1, hcg]
          · obtain rfl : j = l.length := by omega
            simp)
        exact ⟨_, _, σ, β', _, rfl, ⟨rfl, rfl⟩, g1, g2, g3⟩
end Go.Ab
namespace Go.Ab
open Go.Proofs
def avI (rows : List (List Int)) : List (List AV) := rows.map fun r => r.map (.int .i64)
def graphH (n : Nat) (N P : List (List Int)) : Heap := [(1000, .obj 196 [.hd 2001 0 n, .hd 2002 0 n]), (2001, .ext (.mat 48 3 1 (avI N) [])), (2002, .ext (.mat 48 3 1 (avI P) []))]
def hasB (n : Nat) (a : Int) : Bool := decide (0 ≤ a) && decide (a < n)
set_option maxRecDepth 100000 in
theorem graph_has_own (n : Nat) (N P : List (List Int)) (a : Int) :
    SpecH Tryz.prog 177 [.ptr 1000 0, .p (.int .i64 a)] (graphH n N P) (fun r H => r = .p (.bool (hasB n a)) ∧ H = graphH n N P) := by
  refine SpecH.body I_graph_Graph_has tabOK Tryz.func177 rfl Tryz.call177 (by show 2 ≤ _; decide) ?_
  conv => whnf
  repeat' (
    first
    | (intro (_ : _ ≤ 9223372036854775807); conv => whnf)
    | (refine Br.dec (fun _ => ?_) (fun _ => ?_) <;> first | (exfalso; omega) | conv => whnf)
    | (refine Br.dec2 (fun _ => ?_) (fun _ => ?_) <;> first | (exfalso; omega) | conv => whnf)
    | (refine DrawK.auto tabOK mixed (by kernel_rfl) ?_; conv => whnf)
    | (refine Br.n (fun _ => ?_) (fun _ => ?_) <;> conv => whnf)
    | (refine Br.b (fun _ => ?_) (fun _ => ?_) <;> conv => whnf)
    | (refine And.intro rfl ?_; conv => whnf)
    | (refine And.intro ⟨by decide, by decide⟩ ?_; conv => whnf)
    | (refine And.intro ⟨rfl, rfl, by decide⟩ ?_; conv => whnf)
    | (refine BsK.pure (fun x hx => by rcases List.mem_singleton.1 hx with rfl; rfl) rfl ?_; conv => whnf)
    | (refine IdxK.map (by omega) (fun _ => rfl) ?_; conv => whnf)
    | (refine IdxK.xs (by omega) ?_; conv => whnf)
    | (refine IdxK.ss (by omega) ?_; conv => whnf)
    | (refine ByteK.at (by omega) ?_; conv => whnf)
    | (refine Wr.i64 (by omega) (by omega) ?_; conv => whnf))
  · exact ⟨_, LSub.p (Sub.bool (by unfold hasB; simp; omega)), rfl, rfl⟩
  · exact ⟨_, LSub.p (Sub.ff (by unfold hasB; simp; omega)), rfl, rfl⟩
def srtM (N : List (List Int)) : Prop := ∀ r ∈ N, r.Pairwise (· ≤ ·) ∧ r.length ≤ 100000000
def putR (N : List (List Int)) (a : Nat) (b : Int) : List (List Int) := N.set a (insI (N.getD a []) ((N.getD a []).countP (· < b)) b)
theorem avI_put {N : List (List Int)} {i : Nat} (hi : i < N.length) (b : Int) : avI (putR N i b) = (avI N).set i ((insI N[i] (N[i].countP (· < b)) b).map (.int .i64)) := by
  unfold avI putR
  rw [List.map_set]
  simp [hi]
set_option maxHeartbeats 2000000 in
set_option maxRecDepth 100000 in
theorem graph_Add (n : Nat) (N P : List (List Int)) (a b : Int) (hN : N.length = n) (hP : P.length = n) (hn : n ≤ 5000) (sN : srtM N) (sP : srtM P) :
    SpecH Tryz.prog 227 [.ptr 1000 0, .p (.int .i64 a), .p (.int .i64 b)] (graphH n N P) (fun r H => ∃ t, r = .p (.bool t) ∧ H = graphH n
      (bif hasB n a && hasB n b && !(N.getD a.toNat []).contains b then putR N a.toNat b else N) (bif hasB n a && hasB n b && !(N.getD a.toNat []).contains b then putR P b.toNat a else P)) := by
  refine SpecH.body I_graph_Graph_Add tabOK Tryz.func227 rfl Tryz.call227 (by show 3 ≤ _; decide) ?_
  conv => whnf
  repeat' (
    first
    | (intro (_ : _ ≤ 9223372036854775807); conv => whnf)
    | (refine Br.dec (fun _ => ?_) (fun _ => ?_) <;> first | (exfalso; omega) | conv => whnf)
    | (refine Br.dec2 (fun _ => ?_) (fun _ => ?_) <;> first | (exfalso; omega) | conv => whnf)
    | (refine DrawK.auto tabOK mixed (by kernel_rfl) ?_; conv => whnf)
    | (refine Br.n (fun _ => ?_) (fun _ => ?_) <;> conv => whnf)
    | (refine Br.b (fun _ => ?_) (fun _ => ?_) <;> conv => whnf)
    | (refine And.intro rfl ?_; conv => whnf)
    | (refine And.intro ⟨by decide, by decide⟩ ?_; conv => whnf)
    | (refine And.intro ⟨rfl, rfl, by decide⟩ ?_; conv => whnf)
    | (refine BsK.pure (fun x hx => by rcases List.mem_singleton.1 hx with rfl; rfl) rfl ?_; conv => whnf)
    | (refine IdxK.map (by omega) (fun _ => rfl) ?_; conv => whnf)
    | (refine IdxK.xs (by omega) ?_; conv => whnf)
    | (refine IdxK.ss (by omega) ?_; conv => whnf)
    | (refine ByteK.at (by omega) ?_; conv => whnf)
    | (refine Wr.i64 (by omega) (by omega) ?_; conv => whnf)
    | (refine CallK.heap [(1000, 1000), (2001, 2001), (2002, 2002)] 0 (by repeat' (first | exact ArgsH.nil | refine ArgsH.cons ?_ ?_ | exact LSub.refl _ | exact LSub.p Sub.nils | exact LSub.p (Sub.tt rfl) | exact LSub.p (Sub.ff rfl) | exact LSub.p (Sub.int (by omega)))) (by refine BlksH.cons (j := 1000) rfl rfl ?_ ?_; exact CSub.refl _; refine BlksH.cons (j := 2001) rfl rfl ?_ ?_; exact CSub.refl _; refine BlksH.cons (j := 2002) rfl rfl ?_ ?_; exact CSub.refl _; exact BlksH.nil) (graph_has_own n N P _) rfl rfl ?_; rintro l' H' ⟨rfl, rfl⟩; conv => whnf))
  rotate_left 1
  · exact ⟨_, LSub.p (Sub.ff rfl), false, rfl, by simp [*]; rfl⟩
  · exact ⟨_, LSub.p (Sub.ff rfl), false, rfl, by simp [*]; rfl⟩
  have ha : 0 ≤ a ∧ a < n := by rename_i h _; unfold hasB at h; simpa using h
  have hb : 0 ≤ b ∧ b < n := by rename_i h; unfold hasB at h; simpa using h
  have hA : hasB n a = true := by assumption
  have hB : hasB n b = true := by assumption
  obtain ⟨i, rfl⟩ : ∃ i : Nat, a = i := ⟨a.toNat, by omega⟩
  obtain ⟨j, rfl⟩ : ∃ j : Nat, b = j := ⟨b.toNat, by omega⟩
  have hi : i < N.length := by omega
  have hj : j < P.length := by omega
  obtain ⟨sn1, sn2⟩ := sN _ (List.getElem_mem hi)
  obtain ⟨sp1, sp2⟩ := sP _ (List.getElem_mem hj)
  have hNi : (avI N)[i]? = some (N[i].map (.int .i64)) := by unfold avI; simp [hi]
  have hPj : (avI P)[j]? = some (P[j].map (.int .i64)) := by unfold avI; simp [hj]
  have gN : N.getD (i : Int).toNat [] = N[i] := by simp [hi]
  have gP : P.getD (j : Int).toNat [] = P[j] := by simp [hj]
  refine IdxL.mk i rfl (by omega) ?_
  conv => whnf
  repeat' (
    first
    | (intro (_ : _ ≤ 9223372036854775807); conv => whnf)
    | (refine Br.dec (fun _ => ?_) (fun _ => ?_) <;> first | (exfalso; omega) | conv => whnf)
    | (refine Br.dec2 (fun _ => ?_) (fun _ => ?_) <;> first | (exfalso; omega) | conv => whnf)
    | (refine Br.n (fun _ => ?_) (fun _ => ?_) <;> conv => whnf)
    | (refine Br.b (fun _ => ?_) (fun _ => ?_) <;> conv => whnf)
    | (refine And.intro rfl ?_; conv => whnf)
    | (refine And.intro ⟨by decide, by decide⟩ ?_; conv => whnf)
    | (refine And.intro ⟨rfl, rfl, by decide⟩ ?_; conv => whnf)
    | (refine BsK.pure (fun x hx => by rcases List.mem_singleton.1 hx with rfl; rfl) rfl ?_; conv => whnf)
    | (refine IdxK.map (by omega) (fun _ => rfl) ?_; conv => whnf)
    | (refine IdxK.xs (by omega) ?_; conv => whnf)
    | (refine IdxK.ss (by omega) ?_; conv => whnf)
    | (refine ByteK.at (by omega) ?_; conv => whnf)
    | (refine Wr.i64 (by omega) (by omega) ?_; conv => whnf)
    | (refine RowK.mk i _ (by omega) hNi (by simp) ?_; conv => whnf)
    | (refine CallK.borrow (slices_BinarySearchP N[i] j sn1 (by omega)) (.cons (.row rfl hNi (by simp)) (.cons (.p (Sub.refl _)) .nil)) (by rintro _ rfl; rfl) ?_; rintro _ rfl; conv => whnf))
  · exact ⟨_, LSub.p (Sub.ff rfl), false, rfl, by rw [gN, hA, hB, show N[i].contains (j : Int) = true by assumption]; rfl⟩
  have hcn : N[i].countP (· < (j : Int)) ≤ N[i].length := List.countP_le_length
  refine DrawK.join ⟨[(0, .ptr 1000 0), (1, .p (.int .i64 i)), (2, .p (.int .i64 j))], graphH n (putR N i j) P⟩ ?_ ?_
  · refine DrawK.of tabOK mixed (.cons 13 true (.cons 0 false (.cons 1 false (.cons 2 false (.cons 4 false (.cons 5 false (.cons 6 false (.cons 7 false (.cons 9 false (.alo 8 (.alo 10 (.alo 11 (.alo 12 (.fork 3 (.cons 14 true (.cons 15 true (.cons 16 true (.cons 17 true .nil)))) 14 (.fork 3 (.cons 15 true (.cons 16 true (.cons 17 true .nil))) 15 (.cons 3 true (.cons 16 true (.cons 17 true .nil)))))))))))))))))) (by kernel_rfl) ?_
    conv => whnf
    repeat' (
      first
      | (intro (_ : _ ≤ 9223372036854775807); conv => whnf)
      | (refine Br.dec (fun _ => ?_) (fun _ => ?_) <;> first | (exfalso; omega) | conv => whnf)
      | (refine Br.dec2 (fun _ => ?_) (fun _ => ?_) <;> first | (exfalso; omega) | conv => whnf)
      | (refine DrawK.auto tabOK mixed (by kernel_rfl) ?_; conv => whnf)
      | (refine Br.n (fun _ => ?_) (fun _ => ?_) <;> conv => whnf)
      | (refine Br.b (fun _ => ?_) (fun _ => ?_) <;> conv => whnf)
      | (refine And.intro rfl ?_; conv => whnf)
      | (refine And.intro ⟨by decide, by decide⟩ ?_; conv => whnf)
      | (refine And.intro ⟨rfl, rfl, by decide⟩ ?_; conv => whnf)
      | (refine IdxK.map (by omega) (fun _ => rfl) ?_; conv => whnf)
      | (refine IdxK.xs (by omega) ?_; conv => whnf)
      | (refine IdxK.ss (by omega) ?_; conv => whnf)
      | (refine ByteK.at (by omega) ?_; conv => whnf)
      | (refine Wr.i64 (by omega) (by omega) ?_; conv => whnf)
      | (refine IdxL.mk i rfl (by omega) ?_; conv => whnf)
      | (refine RowK.mk i _ (by omega) hNi (by simp) ?_; conv => whnf)
      | (refine BsK.own (fun x hx => by rcases List.mem_singleton.1 hx with rfl; rfl) rfl ?_; conv => whnf)
      | (refine CallK.focus 2001 i 1 rfl rfl hNi (by simp) rfl (.row (.cons rfl (.cons rfl .nil))) ?_; conv => whnf)
      | (refine CallK.heap [(2000, 1), (1000, 0)] 0 (ArgsH.cons (LSub.of_eq (by rw [List.length_map]; rfl)) (ArgsH.cons (LSub.refl _) (ArgsH.cons (LSub.refl _) ArgsH.nil))) (by refine BlksH.cons (j := 1) rfl rfl ?_ ?_; exact CSub.refl _; refine BlksH.cons (j := 0) rfl rfl ?_ ?_; exact CSub.refl _; exact BlksH.nil) (slices_Insert N[i] (N[i].countP (· < (j : Int))) j hcn (by omega)) rfl rfl ?_; rintro l' H' ⟨rfl, rfl⟩; conv => whnf)
      | (refine OpK.stMat tabOK rfl rfl rfl rfl rfl rfl rfl rfl rfl (by decide) i [] (by omega) (by unfold avI; rw [List.length_map]; omega) (by rw [List.length_map, insI_len hcn]) ⟨by simp, by simp, by simp⟩ ?_; conv => whnf)
      | (refine And.intro ?_ ?_ <;> conv => whnf))
    all_goals exact Le.of_eq (by unfold graphH; rw [avI_put hi])
  conv => whnf
  have hcp : P[j].countP (· < (i : Int)) ≤ P[j].length := List.countP_le_length
  repeat' (
    first
    | (intro (_ : _ ≤ 9223372036854775807); conv => whnf)
    | (refine Br.dec (fun _ => ?_) (fun _ => ?_) <;> first | (exfalso; omega) | conv => whnf)
    | (refine Br.dec2 (fun _ => ?_) (fun _ => ?_) <;> first | (exfalso; omega) | conv => whnf)
    | (refine Br.n (fun _ => ?_) (fun _ => ?_) <;> conv => whnf)
    | (refine Br.b (fun _ => ?_) (fun _ => ?_) <;> conv => whnf)
    | (refine And.intro rfl ?_; conv => whnf)
    | (refine And.intro ⟨by decide, by decide⟩ ?_; conv => whnf)
    | (refine And.intro ⟨rfl, rfl, by decide⟩ ?_; conv => whnf)
    | (refine BsK.pure (fun x hx => by rcases List.mem_singleton.1 hx with rfl; rfl) rfl ?_; conv => whnf)
    | (refine IdxK.map (by omega) (fun _ => rfl) ?_; conv => whnf)
    | (refine IdxK.xs (by omega) ?_; conv => whnf)
    | (refine IdxK.ss (by omega) ?_; conv => whnf)
    | (refine ByteK.at (by omega) ?_; conv => whnf)
    | (refine Wr.i64 (by omega) (by omega) ?_; conv => whnf)
    | (refine IdxL.mk j rfl (by omega) ?_; conv => whnf)
    | (refine RowK.mk j _ (by omega) hPj (by simp) ?_; conv => whnf)
    | (refine CallK.borrow (slices_BinarySearchP P[j] i sp1 (by omega)) (.cons (.row rfl hPj (by simp)) (.cons (.p (Sub.refl _)) .nil)) (by rintro _ rfl; rfl) ?_; rintro _ rfl; conv => whnf))
  refine DrawK.join ⟨[], graphH n (putR N i j) (putR P j i)⟩ ?_ ?_
  · refine DrawK.of tabOK mixed (.cons 13 true (.cons 0 false (.cons 1 false (.cons 2 false (.cons 4 false (.cons 5 false (.cons 6 false (.cons 7 false (.cons 9 false (.alo 8 (.alo 10 (.alo 11 (.alo 12 (.fork 3 (.cons 14 true (.cons 15 true (.cons 16 true (.cons 17 true .nil)))) 14 (.fork 3 (.cons 15 true (.cons 16 true (.cons 17 true .nil))) 15 (.cons 3 true (.cons 16 true (.cons 17 true .nil)))))))))))))))))) (by kernel_rfl) ?_
    conv => whnf
    repeat' (
      first
      | (intro (_ : _ ≤ 9223372036854775807); conv => whnf)
      | (refine Br.dec (fun _ => ?_) (fun _ => ?_) <;> first | (exfalso; omega) | conv => whnf)
      | (refine Br.dec2 (fun _ => ?_) (fun _ => ?_) <;> first | (exfalso; omega) | conv => whnf)
      | (refine DrawK.auto tabOK mixed (by kernel_rfl) ?_; conv => whnf)
      | (refine Br.n (fun _ => ?_) (fun _ => ?_) <;> conv => whnf)
      | (refine Br.b (fun _ => ?_) (fun _ => ?_) <;> conv => whnf)
      | (refine And.intro rfl ?_; conv => whnf)
      | (refine And.intro ⟨by decide, by decide⟩ ?_; conv => whnf)
      | (refine And.intro ⟨rfl, rfl, by decide⟩ ?_; conv => whnf)
      | (refine IdxK.map (by omega) (fun _ => rfl) ?_; conv => whnf)
      | (refine IdxK.xs (by omega) ?_; conv => whnf)
      | (refine IdxK.ss (by omega) ?_; conv => whnf)
      | (refine ByteK.at (by omega) ?_; conv => whnf)
      | (refine Wr.i64 (by omega) (by omega) ?_; conv => whnf)
      | (refine IdxL.mk j rfl (by omega) ?_; conv => whnf)
      | (refine RowK.mk j _ (by omega) hPj (by simp) ?_; conv => whnf)
      | (refine BsK.own (fun x hx => by rcases List.mem_singleton.1 hx with rfl; rfl) rfl ?_; conv => whnf)
      | (refine CallK.focus 2002 j 1 rfl rfl hPj (by simp) rfl (.row (.cons rfl (.cons rfl .nil))) ?_; conv => whnf)
      | (refine CallK.heap [(2000, 1), (1000, 0)] 0 (ArgsH.cons (LSub.of_eq (by rw [List.length_map]; rfl)) (ArgsH.cons (LSub.refl _) (ArgsH.cons (LSub.refl _) ArgsH.nil))) (by refine BlksH.cons (j := 1) rfl rfl ?_ ?_; exact CSub.refl _; refine BlksH.cons (j := 0) rfl rfl ?_ ?_; exact CSub.refl _; exact BlksH.nil) (slices_Insert P[j] (P[j].countP (· < (i : Int))) i hcp (by omega)) rfl rfl ?_; rintro l' H' ⟨rfl, rfl⟩; conv => whnf)
      | (refine OpK.stMat tabOK rfl rfl rfl rfl rfl rfl rfl rfl rfl (by decide) j [] (by omega) (by unfold avI; rw [List.length_map]; omega) (by rw [List.length_map, insI_len hcp]) ⟨by simp, by simp, by simp⟩ ?_; conv => whnf)
      | (refine And.intro ?_ ?_ <;> conv => whnf))
    all_goals exact Le.of_eq (by unfold graphH; rw [avI_put hj])
  conv => whnf
  repeat' (
    first
    | (intro (_ : _ ≤ 9223372036854775807); conv => whnf)
    | (refine Br.dec (fun _ => ?_) (fun _ => ?_) <;> first | (exfalso; omega) | conv => whnf)
    | (refine Br.dec2 (fun _ => ?_) (fun _ => ?_) <;> first | (exfalso; omega) | conv => whnf)
    | (refine DrawK.auto tabOK mixed (by kernel_rfl) ?_; conv => whnf)
    | (refine Br.n (fun _ => ?_) (fun _ => ?_) <;> conv => whnf)
    | (refine Br.b (fun _ => ?_) (fun _ => ?_) <;> conv => whnf)
    | (refine And.intro rfl ?_; conv => whnf)
    | (refine And.intro ⟨by decide, by decide⟩ ?_; conv => whnf)
    | (refine And.intro ⟨rfl, rfl, by decide⟩ ?_; conv => whnf)
    | (refine BsK.pure (fun x hx => by rcases List.mem_singleton.1 hx with rfl; rfl) rfl ?_; conv => whnf)
    | (refine IdxK.map (by omega) (fun _ => rfl) ?_; conv => whnf)
    | (refine IdxK.xs (by omega) ?_; conv => whnf)
    | (refine IdxK.ss (by omega) ?_; conv => whnf)
    | (refine ByteK.at (by omega) ?_; conv => whnf)
    | (refine Wr.i64 (by omega) (by omega) ?_; conv => whnf))
  exact ⟨_, LSub.p (Sub.tt rfl), true, rfl, by rw [gN, hA, hB, show N[i].contains (j : Int) = false by assumption]; rfl⟩
end Go.Ab
