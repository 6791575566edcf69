/- jump: labels, where jumps go. -/
import Derived.Test.YtabdfngdamikiaaGreatFirst10
set_option linter.unusedSimpArgs false
set_option linter.unusedVariables false
namespace Go.Ab
open Go.Proofs
def joinO : List Str → List Str → Option (List Str)
  | seen, [] => some seen
  | seen, n :: r => bif seen.any (fun s => n == s) then none else joinO (seen ++ [n]) r
theorem joinO_no {seen l : List Str} {j : Nat} (hj : j < l.length) (h : (seen.any fun s => l[j] == s) = true) : joinO seen (l.drop j) = none := by
  rw [drop_cons hj, joinO, h]; rfl
theorem joinO_yes {seen l : List Str} {j : Nat} (hj : j < l.length) (h : (seen.any fun s => l[j] == s) = false) : joinO seen (l.drop j) = joinO (seen ++ [l[j]]) (l.drop (j + 1)) := by
  rw [drop_cons hj, joinO, h]; rfl
theorem joinO_len : ∀ {l seen out : List Str}, joinO seen l = some out → out = seen ++ l
  | [], seen, out, h => by rw [joinO] at h; cases h; simp
  | n :: r, seen, out, h => by
    rw [joinO] at h
    cases hc : (seen.any fun s => n == s) <;> rw [hc] at h
    · have := joinO_len h
      simpa using this
    · cases h
def joinR (t : Nat) (seen l : List Str) (r : LV) (H : Heap) : Prop :=
  match joinO seen l with
  | some out => r = .tup [.hd 2000 0 out.length, .p .tt] ∧ H = outH t out
  | none => ∃ out, r = .tup [.hd 2000 0 out.length, .p .ff] ∧ H = outH t out
theorem joinR_cases {t : Nat} {seen l : List Str} {Q : LV → Heap → Prop} (h1 : joinO seen l = some (seen ++ l) → Q (.tup [.hd 2000 0 (seen ++ l).length, .p .tt]) (outH t (seen ++ l)))
    (h2 : joinO seen l = none → ∀ out, Q (.tup [.hd 2000 0 out.length, .p .ff]) (outH t out)) : ∀ l' H', joinR t seen l l' H' → Q l' H' := by
  intro l' H' h
  unfold joinR at h
  cases hr : joinO seen l with
  | some out =>
    rw [hr] at h
    obtain ⟨rfl, rfl⟩ := h
    have := joinO_len hr
    subst this
    exact h1 hr
  | none =>
    rw [hr] at h
    obtain ⟨out, rfl, rfl⟩ := h
    exact h2 hr out
set_option maxRecDepth 100000 in
theorem jump_join (seen l : List Str) (hlen : seen.length + l.length ≤ 1000000000) :
    SpecH Tryz.prog 167 [.hd 2000 0 seen.length, .p (eStrs l)] (outH 9 seen) (joinR 9 seen l) := by
  refine SpecH.body I_jump_join tabOK Tryz.func167 rfl Tryz.call167 (by show 2 ≤ _; decide) ?_
  conv => whnf
  repeat' (
    first
    | (intro (_ : _ ≤ 9223372036854775807); conv => whnf)
    | (refine Br.dec (fun _ => ?_) (fun _ => ?_) <;> first | (exfalso; omega) | conv => whnf)
    | (refine Br.dec2 (fun _ => ?_) (fun _ => ?_) <;> first | (exfalso; omega) | conv => whnf)
    | (refine DrawK.auto tabOK mixed (by kernel_rfl) ?_; conv => whnf)
    | (refine Br.n (fun _ => ?_) (fun _ => ?_) <;> conv => whnf)
    | (refine Br.b (fun _ => ?_) (fun _ => ?_) <;> conv => whnf)
    | (refine And.intro rfl ?_; conv => whnf)
    | (refine And.intro ⟨by decide, by decide⟩ ?_; conv => whnf)
    | (refine And.intro ⟨rfl, rfl, by decide⟩ ?_; conv => whnf)
    | (refine BsK.pure (fun x hx => by rcases List.mem_singleton.1 hx with rfl; rfl) rfl ?_; conv => whnf)
    | (refine IdxK.map (by omega) (fun _ => rfl) ?_; conv => whnf)
    | (refine IdxK.xs (by omega) ?_; conv => whnf)
    | (refine IdxK.ss (by omega) ?_; conv => whnf)
    | (refine ByteK.at (by omega) ?_; conv => whnf)
    | (refine Wr.i64 (by omega) (by omega) ?_; conv => whnf))
  have hl : (l.map AV.str).length = l.length := List.length_map _
  refine LoopK.inv tabOK (fun i : Nat × List Str => ⟨[(0, .hd 2000 0 i.2.length), (8, .p (eStrs l)), (9, .p (.int .i64 (l.map AV.str).length)), (10, .p (.int .i64 i.1))], outH 9 i.2⟩) (fun i => i.1 ≤ l.length ∧ i.2.length + (l.length - i.1) = seen.length + l.length ∧ joinO i.2 (l.drop i.1) = joinO seen l) (fun i => l.length - i.1) (0, seen) (Le.of_eq rfl) ⟨Nat.zero_le _, by simp, rfl⟩ ?_
  rintro ⟨j, acc⟩ ⟨h2, h3, h4⟩
  simp only at h2 h3 h4 ⊢
  rcases Nat.lt_or_ge j l.length with hj | hj
  · conv => whnf
    repeat' (
      first
      | (intro (_ : _ ≤ 9223372036854775807); conv => whnf)
      | (refine Br.dec (fun _ => ?_) (fun _ => ?_) <;> first | (exfalso; omega) | conv => whnf)
      | (refine Br.dec2 (fun _ => ?_) (fun _ => ?_) <;> first | (exfalso; omega) | conv => whnf)
      | (refine DrawK.auto tabOK mixed (by kernel_rfl) ?_; conv => whnf)
      | (refine Br.n (fun _ => ?_) (fun _ => ?_) <;> conv => whnf)
      | (refine Br.b (fun _ => ?_) (fun _ => ?_) <;> conv => whnf)
      | (refine And.intro rfl ?_; conv => whnf)
      | (refine And.intro ⟨by decide, by decide⟩ ?_; conv => whnf)
      | (refine And.intro ⟨rfl, rfl, by decide⟩ ?_; conv => whnf)
      | (refine BsK.pure (fun x hx => by rcases List.mem_singleton.1 hx with rfl; rfl) rfl ?_; conv => whnf)
      | (refine IdxK.map (by omega) (fun _ => rfl) ?_; conv => whnf)
      | (refine IdxK.xs (by omega) ?_; conv => whnf)
      | (refine IdxK.ss (by omega) ?_; conv => whnf)
      | (refine ByteK.at (by omega) ?_; conv => whnf)
      | (refine Wr.i64 (by omega) (by omega) ?_; conv => whnf)
      | (refine CallK.borrow (slices_Contains_string_string_ acc (l[j]'hj)) (.cons (.hd rfl (by simp)) (.cons (.p (Sub.refl _)) .nil)) (by rintro _ rfl; rfl) ?_; rintro _ rfl; conv => whnf)
      | (refine AppK.str1 (by simp) (by simp; omega) ?_; conv => whnf))
    · exact ⟨_, .refl _, by unfold joinR; rw [← h4, joinO_no hj (by assumption)]; exact ⟨acc, rfl, rfl⟩⟩
    · exact ⟨(j + 1, acc ++ [l[j]]), ⟨by simp only; omega, by simp; omega, by simp only; rw [← h4, joinO_yes hj (by assumption)]⟩, by simp only; omega, Le.of_eq (by simp only [outH, List.length_append, List.map_append]; rfl)⟩
  · conv => whnf
    repeat' (
      first
      | (intro (_ : _ ≤ 9223372036854775807); conv => whnf)
      | (refine Br.dec (fun _ => ?_) (fun _ => ?_) <;> first | (exfalso; omega) | conv => whnf)
      | (refine Br.dec2 (fun _ => ?_) (fun _ => ?_) <;> first | (exfalso; omega) | conv => whnf)
      | (refine DrawK.auto tabOK mixed (by kernel_rfl) ?_; conv => whnf)
      | (refine Br.n (fun _ => ?_) (fun _ => ?_) <;> conv => whnf)
      | (refine Br.b (fun _ => ?_) (fun _ => ?_) <;> conv => whnf)
      | (refine And.intro rfl ?_; conv => whnf)
      | (refine And.intro ⟨by decide, by decide⟩ ?_; conv => whnf)
      | (refine And.intro ⟨rfl, rfl, by decide⟩ ?_; conv => whnf)
      | (refine BsK.pure (fun x hx => by rcases List.mem_singleton.1 hx with rfl; rfl) rfl ?_; conv => whnf)
      | (refine IdxK.map (by omega) (fun _ => rfl) ?_; conv => whnf)
      | (refine IdxK.xs (by omega) ?_; conv => whnf)
      | (refine IdxK.ss (by omega) ?_; conv => whnf)
      | (refine ByteK.at (by omega) ?_; conv => whnf)
      | (refine Wr.i64 (by omega) (by omega) ?_; conv => whnf))
    rw [List.drop_eq_nil_of_le hj, joinO] at h4
    exact ⟨_, .refl _, by unfold joinR; rw [← h4]; exact ⟨rfl, rfl⟩⟩
def atB (f : Pr) (label : Str) : Int × Bool :=
  match (flL f.body).find? fun t => t.labels.any fun s => label == s with
  | some t => (t.id, true)
  | none => bif f.fin.any fun s => label == s then (-1, true) else (0, false)
theorem RetK.tup2 {H : Heap} {k : IntKind} {m n : Int} {x : AV} {b : Bool} (h : m = n) (hb : Sub x (.bool b)) : RetK H (.p (.tup [.int k m, x])) (fun r => r = .tup [.int k n, .bool b]) :=
  ⟨_, .p (Sub.tup (SubL.cons (Sub.int h) (SubL.cons hb SubL.nil))), rfl⟩
set_option maxHeartbeats 1000000 in
set_option maxRecDepth 100000 in
theorem flat_Sheet_At (p : Pg) (j : Nat) (f : Pr) (hj : p.procs[j]? = some f) (hc : cntP p.procs ≤ 1000) (label : Str) : SpecP Tryz.prog 221 [.ip (sheetOf p).cells, .int .i64 j, .str label] (fun r => r = .tup [.int .i64 (atB f label).1, .bool (atB f label).2]) := by
  refine SpecP.body I_flat_Sheet_At tabOK Tryz.func221 rfl Tryz.call221 (by show 3 ≤ _; decide) ?_
  conv => whnf
  repeat' (
    first
    | (intro (_ : _ ≤ 9223372036854775807); conv => whnf)
    | (refine Br.dec (fun _ => ?_) (fun _ => ?_) <;> first | (exfalso; omega) | conv => whnf)
    | (refine Br.dec2 (fun _ => ?_) (fun _ => ?_) <;> first | (exfalso; omega) | conv => whnf)
    | (refine DrawK.auto tabOK mixed (by kernel_rfl) ?_; conv => whnf)
    | (refine Br.n (fun _ => ?_) (fun _ => ?_) <;> conv => whnf)
    | (refine Br.b (fun _ => ?_) (fun _ => ?_) <;> conv => whnf)
    | (refine And.intro rfl ?_; conv => whnf)
    | (refine And.intro ⟨by decide, by decide⟩ ?_; conv => whnf)
    | (refine And.intro ⟨rfl, rfl, by decide⟩ ?_; conv => whnf)
    | (refine BsK.pure (fun x hx => by rcases List.mem_singleton.1 hx with rfl; rfl) rfl ?_; conv => whnf)
    | (refine IdxK.map (by omega) (fun _ => rfl) ?_; conv => whnf)
    | (refine IdxK.xs (by omega) ?_; conv => whnf)
    | (refine IdxK.ss (by omega) ?_; conv => whnf)
    | (refine ByteK.at (by omega) ?_; conv => whnf)
    | (refine Wr.i64 (by omega) (by omega) ?_; conv => whnf)
    | (refine CallK.pure (Of_at p hj hc) (.cons (Sub.refl _) (.cons (Sub.refl _) .nil)) ?_; rintro _ rfl; conv => whnf))
  have hfi := find_items (q := fun t => t.labels.any fun s => label == s) (itL (j : Nat) 0 (-1) 0 (offN p.procs j) f.body)
  rw [itL_s] at hfi
  have hib : (itL (j : Nat) 0 (-1) 0 (offN p.procs j) f.body).length ≤ 1000 := by
    have := (sheet_spec p).2.2.2.2 j f hj
    rw [itL_len]
    omega
  generalize hits : itL (j : Nat) 0 (-1) 0 (offN p.procs j) f.body = its at hfi hib ⊢
  have hil := eItems_len its
  have hat : atB f label = match (its.find? fun it => it.s.labels.any fun s => label == s).map (fun it => it.s.id) with
    | some a => (a, true)
    | none => bif f.fin.any fun s => label == s then (-1, true) else (0, false) := by
    unfold atB
    rw [hfi]
    cases (flL f.body).find? fun t => t.labels.any fun s => label == s <;> rfl
  rw [hat]
  refine LoopK.inv tabOK (fun k : Nat => ⟨[(0, .p (.ip (sheetOf p).cells)), (1, .p (.int .i64 j)), (2, .p (.str label)), (12, .p (eItems its)), (13, .p (.int .i64 (its.map fun i => AV.agg i.cells).length)), (14, .p (.int .i64 k))], []⟩)
    (fun k => k ≤ its.length ∧ (its.drop k).find? (fun it => it.s.labels.any fun s => label == s) = its.find? fun it => it.s.labels.any fun s => label == s) (fun k => its.length - k) 0 (Le.of_eq rfl) ⟨Nat.zero_le _, rfl⟩ ?_
  rintro k ⟨h5, h6⟩
  rcases Nat.lt_or_ge k its.length with hk | hk
  · conv => whnf
    repeat' (
      first
      | (intro (_ : _ ≤ 9223372036854775807); conv => whnf)
      | (refine Br.dec (fun _ => ?_) (fun _ => ?_) <;> first | (exfalso; omega) | conv => whnf)
      | (refine Br.dec2 (fun _ => ?_) (fun _ => ?_) <;> first | (exfalso; omega) | conv => whnf)
      | (refine DrawK.auto tabOK mixed (by kernel_rfl) ?_; conv => whnf)
      | (refine Br.n (fun _ => ?_) (fun _ => ?_) <;> conv => whnf)
      | (refine Br.b (fun _ => ?_) (fun _ => ?_) <;> conv => whnf)
      | (refine CallK.pure (slices_Contains_string_string_ _ _) (by repeat' (first | exact ArgP.nil | refine ArgP.cons ?_ ?_ | exact Sub.refl _ | exact Sub.tt rfl | exact Sub.ff rfl)) ?_; rintro _ rfl; conv => whnf)
      | (refine And.intro rfl ?_; conv => whnf)
      | (refine And.intro ⟨by decide, by decide⟩ ?_; conv => whnf)
      | (refine And.intro ⟨rfl, rfl, by decide⟩ ?_; conv => whnf)
      | (refine BsK.pure (fun x hx => by rcases List.mem_singleton.1 hx with rfl; rfl) rfl ?_; conv => whnf)
      | (refine IdxK.map (by omega) (fun _ => rfl) ?_; conv => whnf)
      | (refine IdxK.xs (by omega) ?_; conv => whnf)
      | (refine IdxK.ss (by omega) ?_; conv => whnf)
      | (refine ByteK.at (by omega) ?_; conv => whnf)
      | (refine Wr.i64 (by omega) (by omega) ?_; conv => whnf))
    · have e3 := find_yes (p := fun it : Item => it.s.labels.any fun s => label == s) hk (by assumption)
      rw [← h6, e3]
      exact RetK.tup2 rfl (Sub.tt rfl)
    · exact ⟨k + 1, ⟨by omega, by rw [← h6, find_no (p := fun it : Item => it.s.labels.any fun s => label == s) hk (by assumption)]⟩, by omega, Le.of_eq rfl⟩
  · rw [← h6, find_end hk]
    have hpj : (p.procs.map fun f => AV.agg f.cells)[j]? = some (.agg f.cells) := by simp [hj]
    conv => whnf
    repeat' (
      first
      | (intro (_ : _ ≤ 9223372036854775807); conv => whnf)
      | (refine Br.dec (fun _ => ?_) (fun _ => ?_) <;> first | (exfalso; omega) | conv => whnf)
      | (refine Br.dec2 (fun _ => ?_) (fun _ => ?_) <;> first | (exfalso; omega) | conv => whnf)
      | (refine DrawK.auto tabOK mixed (by kernel_rfl) ?_; conv => whnf)
      | (refine Br.n (fun _ => ?_) (fun _ => ?_) <;> conv => whnf)
      | (refine Br.b (fun _ => ?_) (fun _ => ?_) <;> conv => whnf)
      | (refine CallK.pure (slices_Contains_string_string_ _ _) (by repeat' (first | exact ArgP.nil | refine ArgP.cons ?_ ?_ | exact Sub.refl _ | exact Sub.tt rfl | exact Sub.ff rfl)) ?_; rintro _ rfl; conv => whnf)
      | (refine And.intro rfl ?_; conv => whnf)
      | (refine And.intro ⟨by decide, by decide⟩ ?_; conv => whnf)
      | (refine And.intro ⟨rfl, rfl, by decide⟩ ?_; conv => whnf)
      | (refine BsK.pure (fun x hx => by rcases List.mem_singleton.1 hx with rfl; rfl) rfl ?_; conv => whnf)
      | (refine IdxK.map (by omega) (fun _ => rfl) ?_; conv => whnf)
      | (refine IdxK.xs (by omega) ?_; conv => whnf)
      | (refine IdxK.ss (by omega) ?_; conv => whnf)
      | (refine ByteK.at (by omega) ?_; conv => whnf)
      | (refine Wr.i64 (by omega) (by omega) ?_; conv => whnf)
      | (refine IdxK.at rfl hpj rfl ?_; conv => whnf))
    · exact RetK.tup2 (by simp [*]) (Sub.tt (by simp [*]))
    · exact RetK.tup2 (by simp [*]) (Sub.ff (by simp [*]))
def leadsB (f : Pr) (it : Item) : Bool := if it.s.kind = 7 ∨ it.s.kind = 8 then !(it.loop == 0) else if it.s.kind = 10 then (atB f it.s.name).2 else true
set_option maxRecDepth 100000 in
theorem jump_leads (p : Pg) (j : Nat) (f : Pr) (hj : p.procs[j]? = some f) (hc : cntP p.procs ≤ 1000) (it : Item) (hp : it.proc = j) : SpecP Tryz.prog 168 [.ip (sheetOf p).cells, .agg it.cells] (fun r => r = .bool (leadsB f it)) := by
  refine SpecP.body I_jump_leads tabOK Tryz.func168 rfl Tryz.call168 (by show 2 ≤ _; decide) ?_
  conv => whnf
  repeat' (
    first
    | (intro (_ : _ ≤ 9223372036854775807); conv => whnf)
    | (refine Br.dec (fun _ => ?_) (fun _ => ?_) <;> first | (exfalso; omega) | conv => whnf)
    | (refine Br.dec2 (fun _ => ?_) (fun _ => ?_) <;> first | (exfalso; omega) | conv => whnf)
    | (refine DrawK.auto tabOK mixed (by kernel_rfl) ?_; conv => whnf)
    | (refine Br.n (fun _ => ?_) (fun _ => ?_) <;> conv => whnf)
    | (refine Br.b (fun _ => ?_) (fun _ => ?_) <;> conv => whnf)
    | (refine And.intro rfl ?_; conv => whnf)
    | (refine And.intro ⟨by decide, by decide⟩ ?_; conv => whnf)
    | (refine And.intro ⟨rfl, rfl, by decide⟩ ?_; conv => whnf)
    | (refine BsK.pure (fun x hx => by rcases List.mem_singleton.1 hx with rfl; rfl) rfl ?_; conv => whnf)
    | (refine IdxK.map (by omega) (fun _ => rfl) ?_; conv => whnf)
    | (refine IdxK.xs (by omega) ?_; conv => whnf)
    | (refine IdxK.ss (by omega) ?_; conv => whnf)
    | (refine ByteK.at (by omega) ?_; conv => whnf)
    | (refine Wr.i64 (by omega) (by omega) ?_; conv => whnf)
    | (refine CallK.pure (flat_Sheet_At p j f hj hc it.s.name) (.cons (Sub.refl _) (.cons (Sub.int hp) (.cons (Sub.refl _) .nil))) ?_; rintro _ rfl; conv => whnf))
  all_goals first
    | exact RetK.bool (by simp [leadsB, *]; rfl)
    | exact RetK.bool (by simp [leadsB, *])
    | exact RetK.tt (by simp [leadsB, *])
set_option maxRecDepth 100000 in
theorem jump_sheet (p : Pg) (hf : Fit p) (h : (scopeB p).1 = 0) : SpecP Tryz.prog 166 [.agg p.cells] (fun r => r = .ip (sheetOf p).cells) := by
  refine SpecP.body I_jump_sheet tabOK Tryz.func166 rfl Tryz.call166 (by show 1 ≤ _; decide) ?_
  conv => whnf
  obtain ⟨hm, hb, hns⟩ := scope_ok h
  obtain ⟨hg, hpl, hcn⟩ := mayB_cnt hm
  repeat' (
    first
    | (intro (_ : _ ≤ 9223372036854775807); conv => whnf)
    | (refine Br.dec (fun _ => ?_) (fun _ => ?_) <;> first | (exfalso; omega) | conv => whnf)
    | (refine Br.dec2 (fun _ => ?_) (fun _ => ?_) <;> first | (exfalso; omega) | conv => whnf)
    | (refine DrawK.auto tabOK mixed (by kernel_rfl) ?_; conv => whnf)
    | (refine Br.n (fun _ => ?_) (fun _ => ?_) <;> conv => whnf)
    | (refine Br.b (fun _ => ?_) (fun _ => ?_) <;> conv => whnf)
    | (refine CallK.pure (scope_Check p hf) (by repeat' (first | exact ArgP.nil | refine ArgP.cons ?_ ?_ | exact Sub.refl _ | exact Sub.tt rfl | exact Sub.ff rfl | exact Sub.int (by omega))) ?_; rintro _ rfl; conv => whnf)
    | (refine And.intro rfl ?_; conv => whnf)
    | (refine And.intro ⟨by decide, by decide⟩ ?_; conv => whnf)
    | (refine And.intro ⟨rfl, rfl, by decide⟩ ?_; conv => whnf)
    | (refine BsK.pure (fun x hx => by rcases List.mem_singleton.1 hx with rfl; rfl) rfl ?_; conv => whnf)
    | (refine IdxK.map (by omega) (fun _ => rfl) ?_; conv => whnf)
    | (refine IdxK.xs (by omega) ?_; conv => whnf)
    | (refine IdxK.ss (by omega) ?_; conv => whnf)
    | (refine ByteK.at (by omega) ?_; conv => whnf)
    | (refine Wr.i64 (by omega) (by omega) ?_; conv => whnf)
    | (refine CallK.pure (flat_New p (by omega) (by omega)) (.cons (Sub.refl _) .nil) ?_; rintro _ rfl; conv => whnf))
  exact RetK.p rfl
set_option maxRecDepth 100000 in
theorem jump_sheet_no (p : Pg) (hf : Fit p) (h : (scopeB p).1 ≠ 0) : SpecP Tryz.prog 166 [.agg p.cells] (fun r => r = .nilp) := by
  refine SpecP.body I_jump_sheet tabOK Tryz.func166 rfl Tryz.call166 (by show 1 ≤ _; decide) ?_
  conv => whnf
  repeat' (
    first
    | (intro (_ : _ ≤ 9223372036854775807); conv => whnf)
    | (refine Br.dec (fun _ => ?_) (fun _ => ?_) <;> first | (exfalso; omega) | conv => whnf)
    | (refine Br.dec2 (fun _ => ?_) (fun _ => ?_) <;> first | (exfalso; omega) | conv => whnf)
    | (refine DrawK.auto tabOK mixed (by kernel_rfl) ?_; conv => whnf)
    | (refine Br.n (fun _ => ?_) (fun _ => ?_) <;> conv => whnf)
    | (refine Br.b (fun _ => ?_) (fun _ => ?_) <;> conv => whnf)
    | (refine CallK.pure (scope_Check p hf) (by repeat' (first | exact ArgP.nil | refine ArgP.cons ?_ ?_ | exact Sub.refl _ | exact Sub.tt rfl | exact Sub.ff rfl | exact Sub.int (by omega))) ?_; rintro _ rfl; conv => whnf)
    | (refine And.intro rfl ?_; conv => whnf)
    | (refine And.intro ⟨by decide, by decide⟩ ?_; conv => whnf)
    | (refine And.intro ⟨rfl, rfl, by decide⟩ ?_; conv => whnf)
    | (refine BsK.pure (fun x hx => by rcases List.mem_singleton.1 hx with rfl; rfl) rfl ?_; conv => whnf)
    | (refine IdxK.map (by omega) (fun _ => rfl) ?_; conv => whnf)
    | (refine IdxK.xs (by omega) ?_; conv => whnf)
    | (refine IdxK.ss (by omega) ?_; conv => whnf)
    | (refine ByteK.at (by omega) ?_; conv => whnf)
    | (refine Wr.i64 (by omega) (by omega) ?_; conv => whnf))
  exact RetK.p rfl
mutual
theorem itS_proc (proc up nx loop : Int) (n : Nat) : ∀ (t : S) (it : Item), it ∈ itS proc up nx loop n t → it.proc = proc
  | .mk id kind labels name pr x has args thn els, it, h => by
    rw [itS] at h
    rcases List.mem_cons.1 h with rfl | h
    · rfl
    · rcases List.mem_append.1 h with h | h
      · exact itL_proc _ _ _ _ _ thn it h
      · exact itL_proc _ _ _ _ _ els it h
theorem itL_proc (proc up nx loop : Int) (n : Nat) : ∀ (l : List S) (it : Item), it ∈ itL proc up nx loop n l → it.proc = proc
  | [], it, h => by rw [itL] at h; cases h
  | t :: r, it, h => by
    rw [itL] at h
    rcases List.mem_append.1 h with h | h
    · exact itS_proc _ _ _ _ _ t it h
    · exact itL_proc _ _ _ _ _ r it h
end
def jumpR (f : Pr) : List Item → List Str → Except Int (List Str)
  | [], seen => .ok seen
  | it :: r, seen => match joinO seen it.s.labels with
    | none => .error it.s.id
    | some s => bif leadsB f it then jumpR f r s else .error it.s.id
def jumpAt (p : Pg) (j : Nat) : Option Int :=
  match p.procs[j]? with
  | none => none
  | some f => match jumpR f (itL (j : Nat) 0 (-1) 0 (offN p.procs j) f.body) [] with
    | .error id => some id
    | .ok seen => match joinO seen f.fin with
      | none => some 0
      | some _ => none
def jumpB (p : Pg) : Int × Int :=
  if (scopeB p).1 ≠ 0 then (1, 0) else match (List.range p.procs.length).findSome? (jumpAt p) with
    | some a => (7, a)
    | none => (0, 0)
theorem jumpR_no {f : Pr} {its : List Item} {seen : List Str} {k : Nat} (hk : k < its.length) (h : joinO seen its[k].s.labels = none) : jumpR f (its.drop k) seen = .error its[k].s.id := by
  rw [drop_cons hk, jumpR, h]
theorem jumpR_bad {f : Pr} {its : List Item} {seen s : List Str} {k : Nat} (hk : k < its.length) (h : joinO seen its[k].s.labels = some s) (hl : leadsB f its[k] = false) : jumpR f (its.drop k) seen = .error its[k].s.id := by
  rw [drop_cons hk, jumpR, h]
  simp only [hl, cond_false]
theorem jumpR_yes {f : Pr} {its : List Item} {seen s : List Str} {k : Nat} (hk : k < its.length) (h : joinO seen its[k].s.labels = some s) (hl : leadsB f its[k] = true) : jumpR f (its.drop k) seen = jumpR f (its.drop (k + 1)) s := by
  rw [drop_cons hk, jumpR, h]
  simp only [hl, cond_true]
theorem item_labels {l : List Pr} {j : Nat} (hj : j < l.length) (h : wPr l[j] ≤ 20000) {a b c d : Int} {n k : Nat} (hk : k < (itL a b c d n l[j].body).length) : (itL a b c d n l[j].body)[k].s.labels.length ≤ 20000 := by
  have hm : (itL a b c d n l[j].body)[k].s ∈ flL l[j].body := by
    rw [← itL_s a b c d n]
    exact List.mem_map.2 ⟨_, List.getElem_mem hk, rfl⟩
  have h1 := flL_w _ _ hm
  have h2 := wS_eq (itL a b c d n l[j].body)[k].s
  have h3 := wTxs_len (itL a b c d n l[j].body)[k].s.labels
  unfold wPr at h
  omega
set_option maxHeartbeats 2000000 in
set_option maxRecDepth 100000 in
theorem jump_Check (p : Pg) (hf : Fit p) : SpecP Tryz.prog 120 [.agg p.cells] (fun r => r = eFault (jumpB p).1 (jumpB p).2) := by
  refine SpecP.body I_jump_Check tabOK Tryz.func120 rfl Tryz.call120 (by show 1 ≤ _; decide) ?_
  conv => whnf
  rcases Decidable.em ((scopeB p).1 = 0) with hs | hs
  rotate_left 1
  ·
    repeat' (
      first
      | (intro (_ : _ ≤ 9223372036854775807); conv => whnf)
      | (refine Br.dec (fun _ => ?_) (fun _ => ?_) <;> first | (exfalso; omega) | conv => whnf)
      | (refine Br.dec2 (fun _ => ?_) (fun _ => ?_) <;> first | (exfalso; omega) | conv => whnf)
      | (refine DrawK.auto tabOK mixed (by kernel_rfl) ?_; conv => whnf)
      | (refine Br.n (fun _ => ?_) (fun _ => ?_) <;> conv => whnf)
      | (refine Br.b (fun _ => ?_) (fun _ => ?_) <;> conv => whnf)
      | (refine CallK.pure (jump_sheet_no p hf hs) (by repeat' (first | exact ArgP.nil | refine ArgP.cons ?_ ?_ | exact Sub.refl _ | exact Sub.tt rfl | exact Sub.ff rfl | exact Sub.int (by omega))) ?_; rintro _ rfl; conv => whnf)
      | (refine And.intro rfl ?_; conv => whnf)
      | (refine And.intro ⟨by decide, by decide⟩ ?_; conv => whnf)
      | (refine And.intro ⟨rfl, rfl, by decide⟩ ?_; conv => whnf)
      | (refine BsK.pure (fun x hx => by rcases List.mem_singleton.1 hx with rfl; rfl) rfl ?_; conv => whnf)
      | (refine IdxK.map (by omega) (fun _ => rfl) ?_; conv => whnf)
      | (refine IdxK.xs (by omega) ?_; conv => whnf)
      | (refine IdxK.ss (by omega) ?_; conv => whnf)
      | (refine ByteK.at (by omega) ?_; conv => whnf)
      | (refine Wr.i64 (by omega) (by omega) ?_; conv => whnf))
    have e : jumpB p = (1, 0) := by unfold jumpB; rw [if_pos hs]
    exact RetK.fault (by rw [e]) (by rw [e])
  obtain ⟨hm, hb, hns⟩ := scope_ok hs
  obtain ⟨hg, hpl, hcn⟩ := mayB_cnt hm
  have hJ : jumpB p = match (List.range p.procs.length).findSome? (jumpAt p) with
    | some a => (7, a)
    | none => (0, 0) := by unfold jumpB; rw [if_neg (by omega)]
  rw [hJ]
  have hl : (p.procs.map fun f => AV.agg f.cells).length = p.procs.length := List.length_map _
  repeat' (
    first
    | (intro (_ : _ ≤ 9223372036854775807); conv => whnf)
    | (refine Br.dec (fun _ => ?_) (fun _ => ?_) <;> first | (exfalso; omega) | conv => whnf)
    | (refine Br.dec2 (fun _ => ?_) (fun _ => ?_) <;> first | (exfalso; omega) | conv => whnf)
    | (refine DrawK.auto tabOK mixed (by kernel_rfl) ?_; conv => whnf)
    | (refine Br.n (fun _ => ?_) (fun _ => ?_) <;> conv => whnf)
    | (refine Br.b (fun _ => ?_) (fun _ => ?_) <;> conv => whnf)
    | (refine CallK.pure (jump_sheet p hf hs) (by repeat' (first | exact ArgP.nil | refine ArgP.cons ?_ ?_ | exact Sub.refl _ | exact Sub.tt rfl | exact Sub.ff rfl | exact Sub.int (by omega))) ?_; rintro _ rfl; conv => whnf)
    | (refine And.intro rfl ?_; conv => whnf)
    | (refine And.intro ⟨by decide, by decide⟩ ?_; conv => whnf)
    | (refine And.intro ⟨rfl, rfl, by decide⟩ ?_; conv => whnf)
    | (refine BsK.pure (fun x hx => by rcases List.mem_singleton.1 hx with rfl; rfl) rfl ?_; conv => whnf)
    | (refine IdxK.map (by omega) (fun _ => rfl) ?_; conv => whnf)
    | (refine IdxK.xs (by omega) ?_; conv => whnf)
    | (refine IdxK.ss (by omega) ?_; conv => whnf)
    | (refine ByteK.at (by omega) ?_; conv => whnf)
    | (refine Wr.i64 (by omega) (by omega) ?_; conv => whnf))
  refine LoopK.inv tabOK (fun j : Nat => ⟨[(2, .ptr 1 0), (3, .p (.ip (sheetOf p).cells)), (16, .p (.sl (p.procs.map fun f => .agg f.cells))), (17, .p (.int .i64 (p.procs.map fun f => AV.agg f.cells).length)), (18, .p (.int .i64 j))], [(1, .obj 96 [.p (.int .i64 0), .p (.int .i64 0)])]⟩)
    (fun j => j ≤ p.procs.length ∧ ((List.range p.procs.length).drop j).findSome? (jumpAt p) = (List.range p.procs.length).findSome? (jumpAt p)) (fun j => p.procs.length - j) 0 (Le.of_eq rfl) ⟨Nat.zero_le _, rfl⟩ ?_
  rintro j ⟨h2, h3⟩
  rcases Nat.lt_or_ge j p.procs.length with hj | hj
  rotate_left 1
  · have e : (List.range p.procs.length).findSome? (jumpAt p) = none := by rw [← h3, findSome_end (by simpa using hj)]
    rw [e]
    conv => whnf
    repeat' (
      first
      | (intro (_ : _ ≤ 9223372036854775807); conv => whnf)
      | (refine Br.dec (fun _ => ?_) (fun _ => ?_) <;> first | (exfalso; omega) | conv => whnf)
      | (refine Br.dec2 (fun _ => ?_) (fun _ => ?_) <;> first | (exfalso; omega) | conv => whnf)
      | (refine DrawK.auto tabOK mixed (by kernel_rfl) ?_; conv => whnf)
      | (refine Br.n (fun _ => ?_) (fun _ => ?_) <;> conv => whnf)
      | (refine Br.b (fun _ => ?_) (fun _ => ?_) <;> conv => whnf)
      | (refine And.intro rfl ?_; conv => whnf)
      | (refine And.intro ⟨by decide, by decide⟩ ?_; conv => whnf)
      | (refine And.intro ⟨rfl, rfl, by decide⟩ ?_; conv => whnf)
      | (refine BsK.pure (fun x hx => by rcases List.mem_singleton.1 hx with rfl; rfl) rfl ?_; conv => whnf)
      | (refine IdxK.map (by omega) (fun _ => rfl) ?_; conv => whnf)
      | (refine IdxK.xs (by omega) ?_; conv => whnf)
      | (refine IdxK.ss (by omega) ?_; conv => whnf)
      | (refine ByteK.at (by omega) ?_; conv => whnf)
      | (refine Wr.i64 (by omega) (by omega) ?_; conv => whnf))
    exact RetK.fault rfl rfl
  have hfp := hf.pr (List.getElem_mem hj)
  have hjr : j < (List.range p.procs.length).length := by simpa using hj
  have hrj : (List.range p.procs.length)[j] = j := by simp
  have hpj : p.procs[j]? = some p.procs[j] := by simp [hj]
  conv => whnf
  repeat' (
    first
    | (intro (_ : _ ≤ 9223372036854775807); conv => whnf)
    | (refine Br.dec (fun _ => ?_) (fun _ => ?_) <;> first | (exfalso; omega) | conv => whnf)
    | (refine Br.dec2 (fun _ => ?_) (fun _ => ?_) <;> first | (exfalso; omega) | conv => whnf)
    | (refine DrawK.auto tabOK mixed (by kernel_rfl) ?_; conv => whnf)
    | (refine Br.n (fun _ => ?_) (fun _ => ?_) <;> conv => whnf)
    | (refine Br.b (fun _ => ?_) (fun _ => ?_) <;> conv => whnf)
    | (refine And.intro rfl ?_; conv => whnf)
    | (refine And.intro ⟨by decide, by decide⟩ ?_; conv => whnf)
    | (refine And.intro ⟨rfl, rfl, by decide⟩ ?_; conv => whnf)
    | (refine BsK.pure (fun x hx => by rcases List.mem_singleton.1 hx with rfl; rfl) rfl ?_; conv => whnf)
    | (refine IdxK.map (by omega) (fun _ => rfl) ?_; conv => whnf)
    | (refine IdxK.xs (by omega) ?_; conv => whnf)
    | (refine IdxK.ss (by omega) ?_; conv => whnf)
    | (refine ByteK.at (by omega) ?_; conv => whnf)
    | (refine Wr.i64 (by omega) (by omega) ?_; conv => whnf)
    | (refine CallK.pure (Of_at p (f := p.procs[j]'hj) hpj (by omega)) (.cons (Sub.refl _) (.cons (Sub.refl _) .nil)) ?_; rintro _ rfl; conv => whnf))
  have hlab : ∀ k (hk : k < (itL (j : Nat) 0 (-1) 0 (offN p.procs j) p.procs[j].body).length), (itL (j : Nat) 0 (-1) 0 (offN p.procs j) p.procs[j].body)[k].s.labels.length ≤ 20000 := fun k hk => item_labels hj hfp hk
  have hprc : ∀ k (hk : k < (itL (j : Nat) 0 (-1) 0 (offN p.procs j) p.procs[j].body).length), (itL (j : Nat) 0 (-1) 0 (offN p.procs j) p.procs[j].body)[k].proc = j := fun k hk => itL_proc _ _ _ _ _ _ _ (List.getElem_mem hk)
  have hib : (itL (j : Nat) 0 (-1) 0 (offN p.procs j) p.procs[j].body).length ≤ 200 := by
    have := (sheet_spec p).2.2.2.2 j _ hpj
    rw [itL_len]
    omega
  have hja : jumpAt p j = match jumpR p.procs[j] (itL (j : Nat) 0 (-1) 0 (offN p.procs j) p.procs[j].body) [] with
    | .error id => some id
    | .ok seen => match joinO seen p.procs[j].fin with
      | none => some 0
      | some _ => none := by
    unfold jumpAt
    rw [hpj]
  generalize hits : itL (j : Nat) 0 (-1) 0 (offN p.procs j) p.procs[j].body = its at hlab hprc hib hja ⊢
  have hil := eItems_len its
  refine LoopK.inv tabOK (fun i : Nat × List Str => ⟨[(2, .ptr 1 0), (3, .p (.ip (sheetOf p).cells)), (5, .p (.ip (p.procs[j]'hj).cells)), (6, .hd 0 0 i.2.length), (16, .p (.sl (p.procs.map fun f => .agg f.cells))), (17, .p (.int .i64 (p.procs.map fun f => AV.agg f.cells).length)), (18, .p (.int .i64 j)), (25, .p (eItems its)), (26, .p (.int .i64 (its.map fun i => AV.agg i.cells).length)), (27, .p (.int .i64 i.1))], [(0, .own 9 1 (i.2.map .str)), (1, .obj 96 [.p (.int .i64 0), .p (.int .i64 0)])]⟩)
    (fun i => i.1 ≤ its.length ∧ i.2.length ≤ 20000 * i.1 ∧ jumpR p.procs[j] (its.drop i.1) i.2 = jumpR p.procs[j] its []) (fun i => its.length - i.1) (0, [])
    (Le.mk [(0, .own 9 1 [])] (by simp [Chunk.new0]; rfl) (by simp) (by simp) (.cons (.refl _) (.cons (.refl _) (.cons (.refl _) (.cons (.nil List.mem_cons_self) (.cons (.refl _) (.cons (.refl _) (.cons (.refl _) (.cons (.refl _) (.cons (.refl _) (.cons (.refl _) .nil)))))))))) (.new List.mem_cons_self (.cons rfl (.refl _) .nil)))
    ⟨Nat.zero_le _, by simp, rfl⟩ ?_
  rintro ⟨k, acc⟩ ⟨h5, h6, h7⟩
  simp only at h5 h6 h7 ⊢
  rcases Nat.lt_or_ge k its.length with hk | hk
  · have hlk := hlab k hk
    conv => whnf
    repeat' (
      first
      | (intro (_ : _ ≤ 9223372036854775807); conv => whnf)
      | (refine Br.dec (fun _ => ?_) (fun _ => ?_) <;> first | (exfalso; omega) | conv => whnf)
      | (refine Br.dec2 (fun _ => ?_) (fun _ => ?_) <;> first | (exfalso; omega) | conv => whnf)
      | (refine DrawK.auto tabOK mixed (by kernel_rfl) ?_; conv => whnf)
      | (refine Br.n (fun _ => ?_) (fun _ => ?_) <;> conv => whnf)
      | (refine Br.b (fun _ => ?_) (fun _ => ?_) <;> conv => whnf)
      | (refine And.intro rfl ?_; conv => whnf)
      | (refine And.intro ⟨by decide, by decide⟩ ?_; conv => whnf)
      | (refine And.intro ⟨rfl, rfl, by decide⟩ ?_; conv => whnf)
      | (refine BsK.pure (fun x hx => by rcases List.mem_singleton.1 hx with rfl; rfl) rfl ?_; conv => whnf)
      | (refine IdxK.map (by omega) (fun _ => rfl) ?_; conv => whnf)
      | (refine IdxK.xs (by omega) ?_; conv => whnf)
      | (refine IdxK.ss (by omega) ?_; conv => whnf)
      | (refine ByteK.at (by omega) ?_; conv => whnf)
      | (refine Wr.i64 (by omega) (by omega) ?_; conv => whnf)
      | (refine CallK.heap [(2000, 0)] 0 (by repeat' (first | exact ArgsH.nil | refine ArgsH.cons ?_ ?_ | exact LSub.refl _ | exact LSub.p Sub.nils | exact LSub.p (Sub.tt rfl) | exact LSub.p (Sub.ff rfl) | exact LSub.p (Sub.int (by omega)))) (by refine BlksH.cons (j := 0) rfl rfl ?_ ?_; exact CSub.refl _; exact BlksH.nil) (jump_join acc its[k].s.labels (by omega)) rfl rfl (joinR_cases (fun hjo => ?_) (fun hjo out => ?_)) <;> conv => whnf)
      | (refine CallK.pure (jump_leads p j p.procs[j] hpj (by omega) its[k] (hprc k hk)) (.cons (Sub.refl _) (.cons (Sub.refl _) .nil)) ?_; rintro _ rfl; conv => whnf))
    · exact ⟨(k + 1, acc ++ its[k].s.labels), ⟨by simp only; omega, by simp; omega, by simp only; rw [← h7, jumpR_yes hk hjo (by assumption)]⟩, by simp only; omega, Le.of_eq rfl⟩
    · rw [← h7, jumpR_bad hk hjo (by assumption)] at hja
      have e2 := findSome_yes (f := jumpAt p) hjr (by rw [hrj]; exact hja)
      rw [h3] at e2
      rw [e2]
      exact RetK.fault rfl rfl
    · rw [← h7, jumpR_no hk hjo] at hja
      have e2 := findSome_yes (f := jumpAt p) hjr (by rw [hrj]; exact hja)
      rw [h3] at e2
      rw [e2]
      exact RetK.fault rfl rfl
  · have hfin : p.procs[j].fin.length ≤ 20000 := by
      have := wTxs_len p.procs[j].fin
      unfold wPr at hfp
      omega
    rw [List.drop_eq_nil_of_le hk, jumpR] at h7
    rw [← h7] at hja
    simp only at hja
    conv => whnf
    repeat' (
      first
      | (intro (_ : _ ≤ 9223372036854775807); conv => whnf)
      | (refine Br.dec (fun _ => ?_) (fun _ => ?_) <;> first | (exfalso; omega) | conv => whnf)
      | (refine Br.dec2 (fun _ => ?_) (fun _ => ?_) <;> first | (exfalso; omega) | conv => whnf)
      | (refine DrawK.auto tabOK mixed (by kernel_rfl) ?_; conv => whnf)
      | (refine Br.n (fun _ => ?_) (fun _ => ?_) <;> conv => whnf)
      | (refine Br.b (fun _ => ?_) (fun _ => ?_) <;> conv => whnf)
      | (refine And.intro rfl ?_; conv => whnf)
      | (refine And.intro ⟨by decide, by decide⟩ ?_; conv => whnf)
      | (refine And.intro ⟨rfl, rfl, by decide⟩ ?_; conv => whnf)
      | (refine BsK.pure (fun x hx => by rcases List.mem_singleton.1 hx with rfl; rfl) rfl ?_; conv => whnf)
      | (refine IdxK.map (by omega) (fun _ => rfl) ?_; conv => whnf)
      | (refine IdxK.xs (by omega) ?_; conv => whnf)
      | (refine IdxK.ss (by omega) ?_; conv => whnf)
      | (refine ByteK.at (by omega) ?_; conv => whnf)
      | (refine Wr.i64 (by omega) (by omega) ?_; conv => whnf)
      | (refine CallK.heap [(2000, 0)] 0 (by repeat' (first | exact ArgsH.nil | refine ArgsH.cons ?_ ?_ | exact LSub.refl _ | exact LSub.p Sub.nils | exact LSub.p (Sub.tt rfl) | exact LSub.p (Sub.ff rfl) | exact LSub.p (Sub.int (by omega)))) (by refine BlksH.cons (j := 0) rfl rfl ?_ ?_; exact CSub.refl _; exact BlksH.nil) (jump_join acc p.procs[j].fin (by omega)) rfl rfl (joinR_cases (fun hjo => ?_) (fun hjo out => ?_)) <;> conv => whnf))
    · rw [hjo] at hja
      exact ⟨j + 1, ⟨by omega, by rw [← h3, findSome_no (f := jumpAt p) hjr (by rw [hrj]; exact hja)]⟩, by omega, Le.of_eq rfl⟩
    · rw [hjo] at hja
      have e2 := findSome_yes (f := jumpAt p) hjr (by rw [hrj]; exact hja)
      rw [h3] at e2
      rw [e2]
      exact RetK.fault rfl rfl
theorem BsK.pureL {es : List AV} {sz : Nat} {out : List LV} {Kp Ko : Prop} (hx : (es.all fun x => x.cells.length == sz) = true) (ho : out = (es.flatMap AV.cells).map .p) (hK : Kp) : BsK es sz out Kp Ko := .pure (fun x h => by simpa using List.all_eq_true.1 hx x h) ho hK
end Go.Ab
namespace Go.Ab
open Go.Proofs
set_option maxRecDepth 100000 in
theorem whittlerref1_small (c : UInt8) : SpecP Tryz.prog 152 [.int .u8 c.toNat] (fun r => r = .bool (isLetter c)) := by
  refine SpecP.body I_whittlerref1_small tabOK Tryz.func152 rfl Tryz.call152 (by show 1 ≤ _; decide) ?_
  conv => whnf
  repeat' (
    first
    | (intro (_ : _ ≤ 9223372036854775807); conv => whnf)
    | (refine Br.dec (fun _ => ?_) (fun _ => ?_) <;> first | (exfalso; omega) | conv => whnf)
    | (refine Br.dec2 (fun _ => ?_) (fun _ => ?_) <;> first | (exfalso; omega) | conv => whnf)
    | (refine DrawK.auto tabOK mixed (by kernel_rfl) ?_; conv => whnf)
    | (refine Br.n (fun _ => ?_) (fun _ => ?_) <;> conv => whnf)
    | (refine Br.b (fun _ => ?_) (fun _ => ?_) <;> conv => whnf)
    | (refine And.intro rfl ?_; conv => whnf)
    | (refine And.intro ⟨by decide, by decide⟩ ?_; conv => whnf)
    | (refine And.intro ⟨rfl, rfl, by decide⟩ ?_; conv => whnf)
    | (refine BsK.pure (fun x hx => by rcases List.mem_singleton.1 hx with rfl; rfl) rfl ?_; conv => whnf)
    | (refine IdxK.map (by omega) (fun _ => rfl) ?_; conv => whnf)
    | (refine IdxK.xs (by omega) ?_; conv => whnf)
    | (refine IdxK.ss (by omega) ?_; conv => whnf)
    | (refine ByteK.at (by omega) ?_; conv => whnf)
    | (refine Wr.i64 (by omega) (by omega) ?_; conv => whnf))
  · exact RetK.bool (by simp_all [isLetter]; try omega)
  · exact RetK.ff (by simp_all [isLetter]; try omega)
set_option maxRecDepth 100000 in
theorem whittlerref1_digit (c : UInt8) : SpecP Tryz.prog 153 [.int .u8 c.toNat] (fun r => r = .bool (isDigit c)) := by
  refine SpecP.body I_whittlerref1_digit tabOK Tryz.func153 rfl Tryz.call153 (by show 1 ≤ _; decide) ?_
  conv => whnf
  repeat' (
    first
    | (intro (_ : _ ≤ 9223372036854775807); conv => whnf)
    | (refine Br.dec (fun _ => ?_) (fun _ => ?_) <;> first | (exfalso; omega) | conv => whnf)
    | (refine Br.dec2 (fun _ => ?_) (fun _ => ?_) <;> first | (exfalso; omega) | conv => whnf)
    | (refine DrawK.auto tabOK mixed (by kernel_rfl) ?_; conv => whnf)
    | (refine Br.n (fun _ => ?_) (fun _ => ?_) <;> conv => whnf)
    | (refine Br.b (fun _ => ?_) (fun _ => ?_) <;> conv => whnf)
    | (refine And.intro rfl ?_; conv => whnf)
    | (refine And.intro ⟨by decide, by decide⟩ ?_; conv => whnf)
    | (refine And.intro ⟨rfl, rfl, by decide⟩ ?_; conv => whnf)
    | (refine BsK.pure (fun x hx => by rcases List.mem_singleton.1 hx with rfl; rfl) rfl ?_; conv => whnf)
    | (refine IdxK.map (by omega) (fun _ => rfl) ?_; conv => whnf)
    | (refine IdxK.xs (by omega) ?_; conv => whnf)
    | (refine IdxK.ss (by omega) ?_; conv => whnf)
    | (refine ByteK.at (by omega) ?_; conv => whnf)
    | (refine Wr.i64 (by omega) (by omega) ?_; conv => whnf))
  · exact RetK.bool (by simp_all [isDigit]; try omega)
  · exact RetK.ff (by simp_all [isDigit]; try omega)
def wordsL : List Str := [[103, 108, 111, 98, 97, 108], [112, 114, 111, 99], [118, 97, 114], [114, 101, 102], [105, 102], [101, 108, 115, 101], [119, 104, 105, 108, 101], [98, 114, 101, 97, 107], [99, 111, 110, 116, 105, 110, 117, 101], [114, 101, 116, 117, 114, 110], [103, 111, 116, 111], [114, 101, 97, 100], [112, 114, 105, 110, 116]]
set_option maxRecDepth 100000 in
theorem whittlerref1_Words : SpecP Tryz.prog 213 [] (fun r => r = eStrs wordsL) := by
  refine SpecP.body I_whittlerref1_Words tabOK Tryz.func213 rfl Tryz.call213 (by show 0 ≤ _; decide) ?_
  conv => whnf
  repeat' (
    first
    | (intro (_ : _ ≤ 9223372036854775807); conv => whnf)
    | (refine Br.dec (fun _ => ?_) (fun _ => ?_) <;> first | (exfalso; omega) | conv => whnf)
    | (refine Br.dec2 (fun _ => ?_) (fun _ => ?_) <;> first | (exfalso; omega) | conv => whnf)
    | (refine DrawK.auto tabOK mixed (by kernel_rfl) ?_; conv => whnf)
    | (refine Br.n (fun _ => ?_) (fun _ => ?_) <;> conv => whnf)
    | (refine Br.b (fun _ => ?_) (fun _ => ?_) <;> conv => whnf)
    | (refine And.intro rfl ?_; conv => whnf)
    | (refine And.intro ⟨by decide, by decide⟩ ?_; conv => whnf)
    | (refine And.intro ⟨rfl, rfl, by decide⟩ ?_; conv => whnf)
    | (refine BsK.pure (fun x hx => by rcases List.mem_singleton.1 hx with rfl; rfl) rfl ?_; conv => whnf)
    | (refine IdxK.map (by omega) (fun _ => rfl) ?_; conv => whnf)
    | (refine IdxK.xs (by omega) ?_; conv => whnf)
    | (refine IdxK.ss (by omega) ?_; conv => whnf)
    | (refine ByteK.at (by omega) ?_; conv => whnf)
    | (refine Wr.i64 (by omega) (by omega) ?_; conv => whnf)
    | (refine BsK.pureL rfl rfl ?_; conv => whnf))
  exact RetK.p rfl
theorem isWord_any (s : Str) : isWord s = wordsL.any fun w => w == s := by
  rw [Bool.eq_iff_iff]
  unfold isWord wordsL
  simp only [Bool.or_eq_true, decide_eq_true_eq, List.any_cons, List.any_nil, Bool.or_false, beq_iff_eq, or_assoc, @eq_comm _ s]
set_option maxRecDepth 100000 in
theorem whittlerref1_Word (s : Str) : SpecP Tryz.prog 154 [.str s] (fun r => r = .bool (isWord s)) := by
  refine SpecP.body I_whittlerref1_Word tabOK Tryz.func154 rfl Tryz.call154 (by show 1 ≤ _; decide) ?_
  conv => whnf
  rw [isWord_any]
  repeat' (
    first
    | (intro (_ : _ ≤ 9223372036854775807); conv => whnf)
    | (refine Br.dec (fun _ => ?_) (fun _ => ?_) <;> first | (exfalso; omega) | conv => whnf)
    | (refine Br.dec2 (fun _ => ?_) (fun _ => ?_) <;> first | (exfalso; omega) | conv => whnf)
    | (refine DrawK.auto tabOK mixed (by kernel_rfl) ?_; conv => whnf)
    | (refine Br.n (fun _ => ?_) (fun _ => ?_) <;> conv => whnf)
    | (refine Br.b (fun _ => ?_) (fun _ => ?_) <;> conv => whnf)
    | (refine And.intro rfl ?_; conv => whnf)
    | (refine And.intro ⟨by decide, by decide⟩ ?_; conv => whnf)
    | (refine And.intro ⟨rfl, rfl, by decide⟩ ?_; conv => whnf)
    | (refine BsK.pure (fun x hx => by rcases List.mem_singleton.1 hx with rfl; rfl) rfl ?_; conv => whnf)
    | (refine IdxK.map (by omega) (fun _ => rfl) ?_; conv => whnf)
    | (refine IdxK.xs (by omega) ?_; conv => whnf)
    | (refine IdxK.ss (by omega) ?_; conv => whnf)
    | (refine ByteK.at (by omega) ?_; conv => whnf)
    | (refine Wr.i64 (by omega) (by omega) ?_; conv => whnf)
    | (refine CallK.pure whittlerref1_Words .nil ?_; rintro _ rfl; conv => whnf))
  have hlb : wordsL.length ≤ 1000 := by decide
  generalize wordsL = l at hlb ⊢
  have hl : (l.map AV.str).length = l.length := List.length_map _
  refine LoopK.inv tabOK (fun j : Nat => ⟨[(0, .p (.str s)), (5, .p (eStrs l)), (6, .p (.int .i64 (l.map AV.str).length)), (7, .p (.int .i64 j))], []⟩) (fun j => j ≤ l.length ∧ (l.drop j).any (fun w => w == s) = l.any fun w => w == s) (fun j => l.length - j) 0 (Le.of_eq rfl) ⟨Nat.zero_le _, rfl⟩ ?_
  rintro j ⟨h2, h3⟩
  conv => whnf
  repeat' (
    first
    | (intro (_ : _ ≤ 9223372036854775807); conv => whnf)
    | (refine Br.dec (fun _ => ?_) (fun _ => ?_) <;> first | (exfalso; omega) | conv => whnf)
    | (refine Br.dec2 (fun _ => ?_) (fun _ => ?_) <;> first | (exfalso; omega) | conv => whnf)
    | (refine DrawK.auto tabOK mixed (by kernel_rfl) ?_; conv => whnf)
    | (refine Br.n (fun _ => ?_) (fun _ => ?_) <;> conv => whnf)
    | (refine Br.b (fun _ => ?_) (fun _ => ?_) <;> conv => whnf)
    | (refine And.intro rfl ?_; conv => whnf)
    | (refine And.intro ⟨by decide, by decide⟩ ?_; conv => whnf)
    | (refine And.intro ⟨rfl, rfl, by decide⟩ ?_; conv => whnf)
    | (refine BsK.pure (fun x hx => by rcases List.mem_singleton.1 hx with rfl; rfl) rfl ?_; conv => whnf)
    | (refine IdxK.map (by omega) (fun _ => rfl) ?_; conv => whnf)
    | (refine IdxK.xs (by omega) ?_; conv => whnf)
    | (refine IdxK.ss (by omega) ?_; conv => whnf)
    | (refine ByteK.at (by omega) ?_; conv => whnf)
    | (refine Wr.i64 (by omega) (by omega) ?_; conv => whnf))
  · exact RetK.tt (by rw [← h3, any_yes (p := fun w => w == s) (by omega) (by assumption)])
  · exact ⟨j + 1, ⟨by omega, by rw [← h3, any_no (p := fun w => w == s) (by omega) (by assumption)]⟩, by omega, Le.of_eq rfl⟩
  · exact RetK.ff (by rw [← h3, any_end (by omega)])
theorem lexrun_full {s : Str} {i : Nat} (h : s.length ≤ i) : lexrun s i = i := lexrun_no fun hi => by omega
set_option maxRecDepth 100000 in
theorem whittlerref1_Name (s : Str) : SpecP Tryz.prog 114 [.str s] (fun r => r = .bool (isName s)) := by
  refine SpecP.body I_whittlerref1_Name tabOK Tryz.func114 rfl Tryz.call114 (by show 1 ≤ _; decide) ?_
  conv => whnf
  by_cases hs : s = []
  · subst hs
    have e : isName [] = false := by unfold isName; rw [dif_neg (by simp)]
    rw [e]
    repeat' (
      first
      | (intro (_ : _ ≤ 9223372036854775807); conv => whnf)
      | (refine Br.dec (fun _ => ?_) (fun _ => ?_) <;> first | (exfalso; omega) | conv => whnf)
      | (refine Br.dec2 (fun _ => ?_) (fun _ => ?_) <;> first | (exfalso; omega) | conv => whnf)
      | (refine DrawK.auto tabOK mixed (by kernel_rfl) ?_; conv => whnf)
      | (refine Br.n (fun _ => ?_) (fun _ => ?_) <;> conv => whnf)
      | (refine Br.b (fun _ => ?_) (fun _ => ?_) <;> conv => whnf)
      | (refine And.intro rfl ?_; conv => whnf)
      | (refine And.intro ⟨by decide, by decide⟩ ?_; conv => whnf)
      | (refine And.intro ⟨rfl, rfl, by decide⟩ ?_; conv => whnf)
      | (refine BsK.pure (fun x hx => by rcases List.mem_singleton.1 hx with rfl; rfl) rfl ?_; conv => whnf)
      | (refine IdxK.map (by omega) (fun _ => rfl) ?_; conv => whnf)
      | (refine IdxK.xs (by omega) ?_; conv => whnf)
      | (refine IdxK.ss (by omega) ?_; conv => whnf)
      | (refine ByteK.at (by omega) ?_; conv => whnf)
      | (refine Wr.i64 (by omega) (by omega) ?_; conv => whnf))
    all_goals first
      | exact RetK.ff rfl
      | (exfalso; simp_all; done)
  have hlen : 0 < s.length := List.length_pos_iff.2 hs
  have hsb : (s == (⟨#[]⟩ : ByteArray).data.toList) = false := by simpa using hs
  repeat' (
    first
    | (intro (_ : _ ≤ 9223372036854775807); conv => whnf)
    | (refine Br.dec (fun _ => ?_) (fun _ => ?_) <;> first | (exfalso; omega) | conv => whnf)
    | (refine Br.dec2 (fun _ => ?_) (fun _ => ?_) <;> first | (exfalso; omega) | conv => whnf)
    | (refine DrawK.auto tabOK mixed (by kernel_rfl) ?_; conv => whnf)
    | (refine Br.n (fun _ => ?_) (fun _ => ?_) <;> conv => whnf)
    | (refine Br.b (fun _ => ?_) (fun _ => ?_) <;> conv => whnf)
    | (refine CallK.pure (whittlerref1_small _) (by repeat' (first | exact ArgP.nil | refine ArgP.cons ?_ ?_ | exact Sub.refl _ | exact Sub.tt rfl | exact Sub.ff rfl)) ?_; rintro _ rfl; conv => whnf)
    | (refine And.intro rfl ?_; conv => whnf)
    | (refine And.intro ⟨by decide, by decide⟩ ?_; conv => whnf)
    | (refine And.intro ⟨rfl, rfl, by decide⟩ ?_; conv => whnf)
    | (refine BsK.pure (fun x hx => by rcases List.mem_singleton.1 hx with rfl; rfl) rfl ?_; conv => whnf)
    | (refine IdxK.map (by omega) (fun _ => rfl) ?_; conv => whnf)
    | (refine IdxK.xs (by omega) ?_; conv => whnf)
    | (refine IdxK.ss (by omega) ?_; conv => whnf)
    | (refine ByteK.at (by omega) ?_; conv => whnf)
    | (refine Wr.i64 (by omega) (by omega) ?_; conv => whnf)
    | (refine ByteK.at (k := 0) hlen ?_; conv => whnf))
  · exfalso
    rename_i h
    rw [hsb] at h
    cases h
  · exact RetK.ff (by unfold isName; rw [dif_neg (by omega)])
  rotate_left 1
  · exact RetK.ff (by unfold isName; rw [dif_pos (by omega)]; simp_all)
  have hl0 : isLetter s[0] = true := by assumption
  have hle : s.length ≤ 8 := by omega
  have e0 : lexrun s 0 = lexrun s 1 := (lexrun_yes hlen (by unfold isLd; rw [hl0]; rfl)).symm
  have en : isName s = (decide (lexrun s 1 = s.length) && !isWord s) := by
    unfold isName
    rw [dif_pos (by omega), hl0, e0]
    rfl
  refine LoopK.inv tabOK (fun j : Nat => ⟨[(0, .p (.str s)), (3, .p (.int .i64 j))], []⟩) (fun j => 1 ≤ j ∧ j ≤ s.length ∧ lexrun s j = lexrun s 1) (fun j => s.length - j) 1 (Le.of_eq rfl) ⟨Nat.le_refl _, hlen, rfl⟩ ?_
  rintro j ⟨h1, h2, h3⟩
  conv => whnf
  repeat' (
    first
    | (intro (_ : _ ≤ 9223372036854775807); conv => whnf)
    | (refine Br.dec (fun _ => ?_) (fun _ => ?_) <;> first | (exfalso; omega) | conv => whnf)
    | (refine Br.dec2 (fun _ => ?_) (fun _ => ?_) <;> first | (exfalso; omega) | conv => whnf)
    | (refine DrawK.auto tabOK mixed (by kernel_rfl) ?_; conv => whnf)
    | (refine Br.n (fun _ => ?_) (fun _ => ?_) <;> conv => whnf)
    | (refine Br.b (fun _ => ?_) (fun _ => ?_) <;> conv => whnf)
    | (refine CallK.pure (whittlerref1_small _) (by repeat' (first | exact ArgP.nil | refine ArgP.cons ?_ ?_ | exact Sub.refl _ | exact Sub.tt rfl | exact Sub.ff rfl)) ?_; rintro _ rfl; conv => whnf)
    | (refine CallK.pure (whittlerref1_digit _) (by repeat' (first | exact ArgP.nil | refine ArgP.cons ?_ ?_ | exact Sub.refl _ | exact Sub.tt rfl | exact Sub.ff rfl)) ?_; rintro _ rfl; conv => whnf)
    | (refine CallK.pure (whittlerref1_Word _) (by repeat' (first | exact ArgP.nil | refine ArgP.cons ?_ ?_ | exact Sub.refl _ | exact Sub.tt rfl | exact Sub.ff rfl)) ?_; rintro _ rfl; conv => whnf)
    | (refine And.intro rfl ?_; conv => whnf)
    | (refine And.intro ⟨by decide, by decide⟩ ?_; conv => whnf)
    | (refine And.intro ⟨rfl, rfl, by decide⟩ ?_; conv => whnf)
    | (refine BsK.pure (fun x hx => by rcases List.mem_singleton.1 hx with rfl; rfl) rfl ?_; conv => whnf)
    | (refine IdxK.map (by omega) (fun _ => rfl) ?_; conv => whnf)
    | (refine IdxK.xs (by omega) ?_; conv => whnf)
    | (refine IdxK.ss (by omega) ?_; conv => whnf)
    | (refine ByteK.at (by omega) ?_; conv => whnf)
    | (refine Wr.i64 (by omega) (by omega) ?_; conv => whnf))
  all_goals first
    | exact ⟨j + 1, ⟨by omega, by omega, by rw [lexrun_yes (by omega) (by simp_all [isLd])]; exact h3⟩, by omega, Le.of_eq rfl⟩
    | exact RetK.ff (by rw [en, ← h3, lexrun_no fun _ => by simp_all [isLd]]; simp; omega)
    | exact RetK.bool (by rw [en, ← h3, lexrun_full (by omega), show j = s.length by omega]; simp)
set_option maxRecDepth 100000 in
theorem whittlerref3_names (l : List Str) : SpecP Tryz.prog 113 [eStrs l] (fun r => r = .bool (namesB l)) := by
  refine SpecP.body I_whittlerref3_names tabOK Tryz.func113 rfl Tryz.call113 (by show 1 ≤ _; decide) ?_
  conv => whnf
  intro (_ : _ ≤ 9223372036854775807)
  conv => whnf
  refine LoopK.inv tabOK (fun j : Nat => ⟨[(5, .p (eStrs l)), (6, .p (.int .i64 (l.map AV.str).length)), (7, .p (.int .i64 j))], []⟩) (fun j => j ≤ l.length ∧ (l.drop j).all isName = namesB l) (fun j => l.length - j) 0 (Le.of_eq rfl) ⟨Nat.zero_le _, rfl⟩ ?_
  rintro j ⟨h2, h3⟩
  have hl : (l.map AV.str).length = l.length := List.length_map _
  conv => whnf
  repeat' (
    first
    | (intro (_ : _ ≤ 9223372036854775807); conv => whnf)
    | (refine Br.dec (fun _ => ?_) (fun _ => ?_) <;> first | (exfalso; omega) | conv => whnf)
    | (refine Br.dec2 (fun _ => ?_) (fun _ => ?_) <;> first | (exfalso; omega) | conv => whnf)
    | (refine DrawK.auto tabOK mixed (by kernel_rfl) ?_; conv => whnf)
    | (refine Br.n (fun _ => ?_) (fun _ => ?_) <;> conv => whnf)
    | (refine Br.b (fun _ => ?_) (fun _ => ?_) <;> conv => whnf)
    | (refine CallK.pure (whittlerref1_Name _) (by repeat' (first | exact ArgP.nil | refine ArgP.cons ?_ ?_ | exact Sub.refl _ | exact Sub.tt rfl | exact Sub.ff rfl)) ?_; rintro _ rfl; conv => whnf)
    | (refine And.intro rfl ?_; conv => whnf)
    | (refine And.intro ⟨by decide, by decide⟩ ?_; conv => whnf)
    | (refine And.intro ⟨rfl, rfl, by decide⟩ ?_; conv => whnf)
    | (refine BsK.pure (fun x hx => by rcases List.mem_singleton.1 hx with rfl; rfl) rfl ?_; conv => whnf)
    | (refine IdxK.map (by omega) (fun _ => rfl) ?_; conv => whnf)
    | (refine IdxK.xs (by omega) ?_; conv => whnf)
    | (refine IdxK.ss (by omega) ?_; conv => whnf)
    | (refine ByteK.at (by omega) ?_; conv => whnf)
    | (refine Wr.i64 (by omega) (by omega) ?_; conv => whnf))
  · exact ⟨j + 1, ⟨by omega, by rw [all_yes (by omega) (by assumption)]; exact h3⟩, by omega, Le.of_eq rfl⟩
  · exact RetK.ff (by rw [← h3, all_no (by omega) (by assumption)])
  · exact RetK.tt (by rw [← h3, all_end (by omega)])
end Go.Ab
namespace Go.Ab
open Go.Proofs
set_option maxRecDepth 100000 in
theorem whittlerref3_Arity (op : Int) : SpecP Tryz.prog 245 [.int .i64 op] (fun r => r = .int .i64 (kidsN op)) := by
  refine SpecP.body I_whittlerref3_Arity tabOK Tryz.func245 rfl Tryz.call245 (by show 1 ≤ _; decide) ?_
  conv => whnf
  repeat' (
    first
    | (intro (_ : _ ≤ 9223372036854775807); conv => whnf)
    | (refine Br.dec (fun _ => ?_) (fun _ => ?_) <;> first | (exfalso; omega) | conv => whnf)
    | (refine Br.dec2 (fun _ => ?_) (fun _ => ?_) <;> first | (exfalso; omega) | conv => whnf)
    | (refine DrawK.auto tabOK mixed (by kernel_rfl) ?_; conv => whnf)
    | (refine Br.n (fun _ => ?_) (fun _ => ?_) <;> conv => whnf)
    | (refine Br.b (fun _ => ?_) (fun _ => ?_) <;> conv => whnf)
    | (refine And.intro rfl ?_; conv => whnf)
    | (refine And.intro ⟨by decide, by decide⟩ ?_; conv => whnf)
    | (refine And.intro ⟨rfl, rfl, by decide⟩ ?_; conv => whnf)
    | (refine BsK.pure (fun x hx => by rcases List.mem_singleton.1 hx with rfl; rfl) rfl ?_; conv => whnf)
    | (refine IdxK.map (by omega) (fun _ => rfl) ?_; conv => whnf)
    | (refine IdxK.xs (by omega) ?_; conv => whnf)
    | (refine IdxK.ss (by omega) ?_; conv => whnf)
    | (refine ByteK.at (by omega) ?_; conv => whnf)
    | (refine Wr.i64 (by omega) (by omega) ?_; conv => whnf))
  all_goals exact RetK.int (by unfold kidsN; (repeat' split) <;> omega)
set_option maxRecDepth 100000 in
theorem whittlerref3_none (x : X) : SpecP Tryz.prog 156 [.agg x.cells] (fun r => r = .bool (noneB x)) := by
  refine SpecP.body I_whittlerref3_none tabOK Tryz.func156 rfl Tryz.call156 (by show 1 ≤ _; decide) ?_
  conv => whnf
  repeat' (
    first
    | (intro (_ : _ ≤ 9223372036854775807); conv => whnf)
    | (refine Br.dec (fun _ => ?_) (fun _ => ?_) <;> first | (exfalso; omega) | conv => whnf)
    | (refine Br.dec2 (fun _ => ?_) (fun _ => ?_) <;> first | (exfalso; omega) | conv => whnf)
    | (refine DrawK.auto tabOK mixed (by kernel_rfl) ?_; conv => whnf)
    | (refine Br.n (fun _ => ?_) (fun _ => ?_) <;> conv => whnf)
    | (refine Br.b (fun _ => ?_) (fun _ => ?_) <;> conv => whnf)
    | (refine And.intro rfl ?_; conv => whnf)
    | (refine And.intro ⟨by decide, by decide⟩ ?_; conv => whnf)
    | (refine And.intro ⟨rfl, rfl, by decide⟩ ?_; conv => whnf)
    | (refine BsK.pure (fun x hx => by rcases List.mem_singleton.1 hx with rfl; rfl) rfl ?_; conv => whnf)
    | (refine IdxK.map (by omega) (fun _ => rfl) ?_; conv => whnf)
    | (refine IdxK.xs (by omega) ?_; conv => whnf)
    | (refine IdxK.ss (by omega) ?_; conv => whnf)
    | (refine ByteK.at (by omega) ?_; conv => whnf)
    | (refine Wr.i64 (by omega) (by omega) ?_; conv => whnf))
  all_goals have hk : ((X.avs x.kids).length : Int) = x.kids.length := by rw [X.avs_len]
  all_goals first
    | exact RetK.ff (by simp_all [noneB]; done)
    | exact RetK.bool (by simp_all [noneB]; done)
def okForm (x : X) : Bool := decide (kidsN x.op = (x.kids.length : Int)) && (decide (x.op = 1) || decide (x.n = 0)) && decide (0 ≤ x.n) && (decide (x.op = 2) == !(x.name == [])) && ((x.name == []) || isName x.name)
def formF : Nat → X → Bool
  | 0, _ => true
  | k + 1, x => okForm x && x.kids.all (formF k)
theorem wXs_mem : ∀ (l : List X) (y : X), y ∈ l → wX y ≤ wXs l
  | [], y, h => by cases h
  | a :: r, y, h => by
    rw [wXs]
    rcases List.mem_cons.1 h with rfl | h
    · omega
    · have := wXs_mem r y h; omega
set_option maxHeartbeats 4000000 in
set_option maxRecDepth 100000 in
theorem whittlerref3_form : ∀ (k : Nat) (x : X) (_ : wX x < k), SpecP Tryz.prog 215 [.agg x.cells] (fun r => r = .bool (formF k x)) := by
  intro k
  induction k with
  | zero => intro x h; omega
  | succ k ih =>
    intro x hx
    have hxe : wX x = 1 + x.name.length + wXs x.kids := by cases x; rw [wX]; rfl
    have hk : ((X.avs x.kids).length : Int) = x.kids.length := by rw [X.avs_len]
    refine SpecP.body I_whittlerref3_form tabOK Tryz.func215 rfl Tryz.call215 (by show 1 ≤ _; decide) ?_
    conv => whnf
    repeat' (
      first
      | (intro (_ : _ ≤ 9223372036854775807); conv => whnf)
      | (refine Br.dec (fun _ => ?_) (fun _ => ?_) <;> first | (exfalso; omega) | conv => whnf)
      | (refine Br.dec2 (fun _ => ?_) (fun _ => ?_) <;> first | (exfalso; omega) | conv => whnf)
      | (refine DrawK.auto tabOK mixed (by kernel_rfl) ?_; conv => whnf)
      | (refine Br.n (fun _ => ?_) (fun _ => ?_) <;> conv => whnf)
      | (refine Br.b (fun _ => ?_) (fun _ => ?_) <;> conv => whnf)
      | (refine CallK.pure (whittlerref3_Arity _) (by repeat' (first | exact ArgP.nil | refine ArgP.cons ?_ ?_ | exact Sub.refl _ | exact Sub.tt rfl | exact Sub.ff rfl)) ?_; rintro _ rfl; conv => whnf)
      | (refine CallK.pure (whittlerref1_Name _) (by repeat' (first | exact ArgP.nil | refine ArgP.cons ?_ ?_ | exact Sub.refl _ | exact Sub.tt rfl | exact Sub.ff rfl)) ?_; rintro _ rfl; conv => whnf)
      | (refine And.intro rfl ?_; conv => whnf)
      | (refine And.intro ⟨by decide, by decide⟩ ?_; conv => whnf)
      | (refine And.intro ⟨rfl, rfl, by decide⟩ ?_; conv => whnf)
      | (refine BsK.pure (fun x hx => by rcases List.mem_singleton.1 hx with rfl; rfl) rfl ?_; conv => whnf)
      | (refine IdxK.map (by omega) (fun _ => rfl) ?_; conv => whnf)
      | (refine IdxK.xs (by omega) ?_; conv => whnf)
      | (refine IdxK.ss (by omega) ?_; conv => whnf)
      | (refine ByteK.at (by omega) ?_; conv => whnf)
      | (refine Wr.i64 (by omega) (by omega) ?_; conv => whnf)
      | (refine ValO.boolNeq tabOK rfl rfl rfl rfl rfl ?_; conv => whnf))
    all_goals simp only [show (ByteArray.mk #[]).data.toList = [] from rfl] at *
    all_goals first
      | (refine RetK.ff ?_
         rw [formF, Bool.and_eq_false_iff]
         left
         unfold okForm
         rw [show decide (0 ≤ x.n) = false from decide_eq_false (by omega)]
         simp
         done)
      | (refine RetK.ff ?_
         rw [formF, Bool.and_eq_false_iff]
         left
         rename_i h
         have hq : (decide (x.op = 2) == !(x.name == [])) = false := by
           have e : decide (x.op = 2) = (x.op == 2) := rfl
           rw [e]
           revert h
           cases (x.op == 2) <;> cases (x.name == []) <;> decide
         unfold okForm
         rw [hq]
         simp
         done)
      | (refine RetK.ff ?_
         rw [formF, Bool.and_eq_false_iff]
         left
         simp_all [okForm]
         done)
      | (refine RetK.ff ?_
         rw [formF, Bool.and_eq_false_iff]
         left
         simp_all [okForm]
         omega)
      | (have h0 : okForm x = true := by first
           | (simp_all [okForm]; done)
           | (simp_all [okForm]; omega)
         rw [show formF (k + 1) x = x.kids.all (formF k) by rw [formF, h0]; rfl])
    all_goals
      clear h0
      refine LoopK.inv tabOK (fun j : Nat => ⟨[(1, .p (.ip x.cells)), (48, .p (.int .i64 (X.avs x.kids).length)), (49, .p (.int .i64 j))], []⟩) (fun j => j ≤ x.kids.length ∧ (x.kids.drop j).all (formF k) = x.kids.all (formF k)) (fun j => x.kids.length - j) 0 (Le.of_eq rfl) ⟨Nat.zero_le _, rfl⟩ ?_
      rintro j ⟨h2, h3⟩
      rcases Nat.lt_or_ge j x.kids.length with hj | hj
      · have hw := wXs_mem x.kids _ (List.getElem_mem hj)
        conv => whnf
        repeat' (
          first
          | (intro (_ : _ ≤ 9223372036854775807); conv => whnf)
          | (refine Br.dec (fun _ => ?_) (fun _ => ?_) <;> first | (exfalso; omega) | conv => whnf)
          | (refine Br.dec2 (fun _ => ?_) (fun _ => ?_) <;> first | (exfalso; omega) | conv => whnf)
          | (refine DrawK.auto tabOK mixed (by kernel_rfl) ?_; conv => whnf)
          | (refine Br.n (fun _ => ?_) (fun _ => ?_) <;> conv => whnf)
          | (refine Br.b (fun _ => ?_) (fun _ => ?_) <;> conv => whnf)
          | (refine And.intro rfl ?_; conv => whnf)
          | (refine And.intro ⟨by decide, by decide⟩ ?_; conv => whnf)
          | (refine And.intro ⟨rfl, rfl, by decide⟩ ?_; conv => whnf)
          | (refine BsK.pure (fun x hx => by rcases List.mem_singleton.1 hx with rfl; rfl) rfl ?_; conv => whnf)
          | (refine IdxK.map (by omega) (fun _ => rfl) ?_; conv => whnf)
          | (refine IdxK.xs (by omega) ?_; conv => whnf)
          | (refine IdxK.ss (by omega) ?_; conv => whnf)
          | (refine ByteK.at (by omega) ?_; conv => whnf)
          | (refine Wr.i64 (by omega) (by omega) ?_; conv => whnf)
          | (refine CallK.pure (ih (x.kids[j]'hj) (by omega)) (.cons (Sub.refl _) .nil) ?_; rintro _ rfl; conv => whnf))
        · exact ⟨j + 1, ⟨by omega, by rw [all_yes (by omega) (by assumption)]; exact h3⟩, by omega, Le.of_eq rfl⟩
        · exact RetK.ff (by rw [← h3, all_no (by omega) (by assumption)])
      · conv => whnf
        repeat' (
          first
          | (intro (_ : _ ≤ 9223372036854775807); conv => whnf)
          | (refine Br.dec (fun _ => ?_) (fun _ => ?_) <;> first | (exfalso; omega) | conv => whnf)
          | (refine Br.dec2 (fun _ => ?_) (fun _ => ?_) <;> first | (exfalso; omega) | conv => whnf)
          | (refine DrawK.auto tabOK mixed (by kernel_rfl) ?_; conv => whnf)
          | (refine Br.n (fun _ => ?_) (fun _ => ?_) <;> conv => whnf)
          | (refine Br.b (fun _ => ?_) (fun _ => ?_) <;> conv => whnf)
          | (refine And.intro rfl ?_; conv => whnf)
          | (refine And.intro ⟨by decide, by decide⟩ ?_; conv => whnf)
          | (refine And.intro ⟨rfl, rfl, by decide⟩ ?_; conv => whnf)
          | (refine BsK.pure (fun x hx => by rcases List.mem_singleton.1 hx with rfl; rfl) rfl ?_; conv => whnf)
          | (refine IdxK.map (by omega) (fun _ => rfl) ?_; conv => whnf)
          | (refine IdxK.xs (by omega) ?_; conv => whnf)
          | (refine IdxK.ss (by omega) ?_; conv => whnf)
          | (refine ByteK.at (by omega) ?_; conv => whnf)
          | (refine Wr.i64 (by omega) (by omega) ?_; conv => whnf))
        exact RetK.tt (by rw [← h3, all_end (by omega)])
end Go.Ab
namespace Go.Ab
open Go.Proofs
def maxN : List Nat → Nat
  | [] => 0
  | a :: r => max a (maxN r)
def deepI : Nat → X → Nat
  | 0, _ => 1
  | m + 1, x => 1 + maxN (x.kids.map (deepI m))
theorem maxN_le {l : List Nat} {m : Nat} (h : ∀ a ∈ l, a ≤ m) : maxN l ≤ m := by
  induction l with
  | nil => exact Nat.zero_le _
  | cons a r ih =>
    have := ih fun b hb => h b (List.mem_cons_of_mem _ hb)
    have := h a List.mem_cons_self
    rw [maxN]
    omega
theorem deepI_le : ∀ (m : Nat) (x : X), deepI m x ≤ m + 1
  | 0, _ => Nat.le_refl _
  | m + 1, x => by
    rw [deepI]
    have : maxN (x.kids.map (deepI m)) ≤ m + 1 := maxN_le fun a ha => by
      obtain ⟨y, _, rfl⟩ := List.mem_map.1 ha
      exact deepI_le m y
    omega
set_option maxHeartbeats 2000000 in
set_option maxRecDepth 100000 in
theorem whittlerref3_deep : ∀ (m : Nat) (_ : m ≤ 1000) (x : X), SpecP Tryz.prog 214 [.agg x.cells, .int .i64 m] (fun r => r = .int .i64 (deepI m x)) := by
  intro m
  induction m with
  | zero =>
    intro _ x
    refine SpecP.body I_whittlerref3_deep tabOK Tryz.func214 rfl Tryz.call214 (by show 2 ≤ _; decide) ?_
    conv => whnf
    repeat' (
      first
      | (intro (_ : _ ≤ 9223372036854775807); conv => whnf)
      | (refine Br.dec (fun _ => ?_) (fun _ => ?_) <;> first | (exfalso; omega) | conv => whnf)
      | (refine Br.dec2 (fun _ => ?_) (fun _ => ?_) <;> first | (exfalso; omega) | conv => whnf)
      | (refine DrawK.auto tabOK mixed (by kernel_rfl) ?_; conv => whnf)
      | (refine Br.n (fun _ => ?_) (fun _ => ?_) <;> conv => whnf)
      | (refine Br.b (fun _ => ?_) (fun _ => ?_) <;> conv => whnf)
      | (refine And.intro rfl ?_; conv => whnf)
      | (refine And.intro ⟨by decide, by decide⟩ ?_; conv => whnf)
      | (refine And.intro ⟨rfl, rfl, by decide⟩ ?_; conv => whnf)
      | (refine BsK.pure (fun x hx => by rcases List.mem_singleton.1 hx with rfl; rfl) rfl ?_; conv => whnf)
      | (refine IdxK.map (by omega) (fun _ => rfl) ?_; conv => whnf)
      | (refine IdxK.xs (by omega) ?_; conv => whnf)
      | (refine IdxK.ss (by omega) ?_; conv => whnf)
      | (refine ByteK.at (by omega) ?_; conv => whnf)
      | (refine Wr.i64 (by omega) (by omega) ?_; conv => whnf))
    exact RetK.int rfl
  | succ m ih =>
    intro hm x
    have hk : ((X.avs x.kids).length : Int) = x.kids.length := by rw [X.avs_len]
    refine SpecP.body I_whittlerref3_deep tabOK Tryz.func214 rfl Tryz.call214 (by show 2 ≤ _; decide) ?_
    conv => whnf
    repeat' (
      first
      | (intro (_ : _ ≤ 9223372036854775807); conv => whnf)
      | (refine Br.dec (fun _ => ?_) (fun _ => ?_) <;> first | (exfalso; omega) | conv => whnf)
      | (refine Br.dec2 (fun _ => ?_) (fun _ => ?_) <;> first | (exfalso; omega) | conv => whnf)
      | (refine DrawK.auto tabOK mixed (by kernel_rfl) ?_; conv => whnf)
      | (refine Br.n (fun _ => ?_) (fun _ => ?_) <;> conv => whnf)
      | (refine Br.b (fun _ => ?_) (fun _ => ?_) <;> conv => whnf)
      | (refine And.intro rfl ?_; conv => whnf)
      | (refine And.intro ⟨by decide, by decide⟩ ?_; conv => whnf)
      | (refine And.intro ⟨rfl, rfl, by decide⟩ ?_; conv => whnf)
      | (refine BsK.pure (fun x hx => by rcases List.mem_singleton.1 hx with rfl; rfl) rfl ?_; conv => whnf)
      | (refine IdxK.map (by omega) (fun _ => rfl) ?_; conv => whnf)
      | (refine IdxK.xs (by omega) ?_; conv => whnf)
      | (refine IdxK.ss (by omega) ?_; conv => whnf)
      | (refine ByteK.at (by omega) ?_; conv => whnf)
      | (refine Wr.i64 (by omega) (by omega) ?_; conv => whnf))
    have hmx : maxN (x.kids.map (deepI m)) ≤ m + 1 := maxN_le fun a ha => by
      obtain ⟨y, _, rfl⟩ := List.mem_map.1 ha
      exact deepI_le m y
    refine LoopK.inv tabOK (fun y : Nat × Nat => ⟨[(1, .p (.int .i64 (m + 1 : Nat))), (2, .p (.ip x.cells)), (5, .p (.int .i64 y.2)), (6, .p (.int .i64 y.1))], []⟩) (fun y => y.1 ≤ x.kids.length ∧ y.2 ≤ m + 1 ∧ max y.2 (maxN ((x.kids.drop y.1).map (deepI m))) = maxN (x.kids.map (deepI m))) (fun y => x.kids.length - y.1) (0, 0) (Le.of_eq rfl) ⟨Nat.zero_le _, Nat.zero_le _, by simp⟩ ?_
    rintro ⟨j, d⟩ ⟨h2, h3, h4⟩
    simp only at h2 h3 h4 ⊢
    rcases Nat.lt_or_ge j x.kids.length with hj | hj
    · rw [List.drop_eq_getElem_cons hj, List.map_cons, maxN] at h4
      have hd := deepI_le m x.kids[j]
      conv => whnf
      repeat' (
        first
        | (intro (_ : _ ≤ 9223372036854775807); conv => whnf)
        | (refine Br.dec (fun _ => ?_) (fun _ => ?_) <;> first | (exfalso; omega) | conv => whnf)
        | (refine Br.dec2 (fun _ => ?_) (fun _ => ?_) <;> first | (exfalso; omega) | conv => whnf)
        | (refine DrawK.auto tabOK mixed (by kernel_rfl) ?_; conv => whnf)
        | (refine Br.n (fun _ => ?_) (fun _ => ?_) <;> conv => whnf)
        | (refine Br.b (fun _ => ?_) (fun _ => ?_) <;> conv => whnf)
        | (refine And.intro rfl ?_; conv => whnf)
        | (refine And.intro ⟨by decide, by decide⟩ ?_; conv => whnf)
        | (refine And.intro ⟨rfl, rfl, by decide⟩ ?_; conv => whnf)
        | (refine BsK.pure (fun x hx => by rcases List.mem_singleton.1 hx with rfl; rfl) rfl ?_; conv => whnf)
        | (refine IdxK.map (by omega) (fun _ => rfl) ?_; conv => whnf)
        | (refine IdxK.xs (by omega) ?_; conv => whnf)
        | (refine IdxK.ss (by omega) ?_; conv => whnf)
        | (refine ByteK.at (by omega) ?_; conv => whnf)
        | (refine Wr.i64 (by omega) (by omega) ?_; conv => whnf)
        | (refine CallK.pure (ih (by omega) (x.kids[j]'hj)) (.cons (Sub.refl _) (.cons (Sub.int (by omega)) .nil)) ?_; rintro _ rfl; conv => whnf))
      all_goals first
        | exact ⟨(j + 1, deepI m x.kids[j]), ⟨by simp only; omega, by simp only; omega, by simp only; omega⟩, by simp only; omega, Le.of_eq rfl⟩
        | exact ⟨(j + 1, d), ⟨by simp only; omega, by simp only; omega, by simp only; omega⟩, by simp only; omega, Le.of_eq rfl⟩
        | exact RetK.int (by rw [deepI]; omega)
    · rw [List.drop_eq_nil_of_le hj, List.map_nil, maxN] at h4
      conv => whnf
      repeat' (
        first
        | (intro (_ : _ ≤ 9223372036854775807); conv => whnf)
        | (refine Br.dec (fun _ => ?_) (fun _ => ?_) <;> first | (exfalso; omega) | conv => whnf)
        | (refine Br.dec2 (fun _ => ?_) (fun _ => ?_) <;> first | (exfalso; omega) | conv => whnf)
        | (refine DrawK.auto tabOK mixed (by kernel_rfl) ?_; conv => whnf)
        | (refine Br.n (fun _ => ?_) (fun _ => ?_) <;> conv => whnf)
        | (refine Br.b (fun _ => ?_) (fun _ => ?_) <;> conv => whnf)
        | (refine And.intro rfl ?_; conv => whnf)
        | (refine And.intro ⟨by decide, by decide⟩ ?_; conv => whnf)
        | (refine And.intro ⟨rfl, rfl, by decide⟩ ?_; conv => whnf)
        | (refine BsK.pure (fun x hx => by rcases List.mem_singleton.1 hx with rfl; rfl) rfl ?_; conv => whnf)
        | (refine IdxK.map (by omega) (fun _ => rfl) ?_; conv => whnf)
        | (refine IdxK.xs (by omega) ?_; conv => whnf)
        | (refine IdxK.ss (by omega) ?_; conv => whnf)
        | (refine ByteK.at (by omega) ?_; conv => whnf)
        | (refine Wr.i64 (by omega) (by omega) ?_; conv => whnf))
      exact RetK.int (by rw [deepI]; omega)
def mayXR (x : X) : Bool := decide (deepI 20 x ≤ 20) && formF (wX x + 1) x
set_option maxRecDepth 100000 in
theorem whittlerref3_MayExpr (x : X) : SpecP Tryz.prog 155 [.agg x.cells] (fun r => r = .bool (mayXR x)) := by
  refine SpecP.body I_whittlerref3_MayExpr tabOK Tryz.func155 rfl Tryz.call155 (by show 1 ≤ _; decide) ?_
  conv => whnf
  repeat' (
    first
    | (intro (_ : _ ≤ 9223372036854775807); conv => whnf)
    | (refine Br.dec (fun _ => ?_) (fun _ => ?_) <;> first | (exfalso; omega) | conv => whnf)
    | (refine Br.dec2 (fun _ => ?_) (fun _ => ?_) <;> first | (exfalso; omega) | conv => whnf)
    | (refine DrawK.auto tabOK mixed (by kernel_rfl) ?_; conv => whnf)
    | (refine Br.n (fun _ => ?_) (fun _ => ?_) <;> conv => whnf)
    | (refine Br.b (fun _ => ?_) (fun _ => ?_) <;> conv => whnf)
    | (refine And.intro rfl ?_; conv => whnf)
    | (refine And.intro ⟨by decide, by decide⟩ ?_; conv => whnf)
    | (refine And.intro ⟨rfl, rfl, by decide⟩ ?_; conv => whnf)
    | (refine BsK.pure (fun x hx => by rcases List.mem_singleton.1 hx with rfl; rfl) rfl ?_; conv => whnf)
    | (refine IdxK.map (by omega) (fun _ => rfl) ?_; conv => whnf)
    | (refine IdxK.xs (by omega) ?_; conv => whnf)
    | (refine IdxK.ss (by omega) ?_; conv => whnf)
    | (refine ByteK.at (by omega) ?_; conv => whnf)
    | (refine Wr.i64 (by omega) (by omega) ?_; conv => whnf)
    | (refine CallK.pure (whittlerref3_deep 20 (by omega) x) (.cons (Sub.refl _) (.cons (Sub.refl _) .nil)) ?_; rintro _ rfl; conv => whnf)
    | (refine CallK.pure (whittlerref3_form (wX x+1) x (by omega)) (.cons (Sub.refl _) .nil) ?_; rintro _ rfl; conv => whnf))
  all_goals first
    | exact RetK.bool (by unfold mayXR; rw [decide_eq_true (by omega)]; rfl)
    | exact RetK.ff (by unfold mayXR; rw [decide_eq_false (by omega)]; rfl)
/-- What the program's own reading lets stand, the reference's lets stand. -/
theorem deepB_form : ∀ (n : Nat) (x : X), deepB n x = true → deepI n x ≤ n ∧ ∀ k, formF k x = true
  | 0, x, h => by rw [deepB] at h; cases h
  | n + 1, x, h => by
    rw [deepB] at h
    simp only [Bool.and_eq_true, decide_eq_true_eq] at h
    obtain ⟨h1, h2⟩ := h
    have hkids : (∀ y ∈ x.kids, deepB n y = true) ∧ okForm x = true := by
      split at h2
      · rename_i ho
        simp only [Bool.and_eq_true, decide_eq_true_eq] at h2
        have hk0 : x.kids = [] := by
          rw [ho] at h1
          have : kidsN 1 = 0 := by decide
          rw [this] at h1
          exact List.length_eq_zero_iff.1 (by omega)
        refine ⟨by rw [hk0]; simp, ?_⟩
        unfold okForm
        rw [h1, ho, h2.2]
        simp [h2.1]
      split at h2
      · rename_i ho
        simp only [Bool.and_eq_true, decide_eq_true_eq] at h2
        have hk0 : x.kids = [] := by
          rw [ho] at h1
          have : kidsN 2 = 0 := by decide
          rw [this] at h1
          exact List.length_eq_zero_iff.1 (by omega)
        have hne : (x.name == []) = false := by
          cases hq : x.name with
          | nil =>
            have := h2.2
            rw [hq] at this
            unfold isName at this
            rw [dif_neg (by simp)] at this
            cases this
          | cons a r => rfl
        refine ⟨by rw [hk0]; simp, ?_⟩
        unfold okForm
        rw [h1, ho, h2.2, hne, h2.1]
        simp
      · rename_i ho1 ho2
        simp only [Bool.and_eq_true, decide_eq_true_eq, List.all_eq_true] at h2
        refine ⟨h2.2, ?_⟩
        unfold okForm
        rw [h1, h2.1.1, h2.1.2]
        simp [ho1, ho2]
    refine ⟨?_, fun k => ?_⟩
    · rw [deepI]
      have : maxN (x.kids.map (deepI n)) ≤ n := maxN_le fun a ha => by
        obtain ⟨y, hy, rfl⟩ := List.mem_map.1 ha
        exact (deepB_form n y (hkids.1 y hy)).1
      omega
    · cases k with
      | zero => rfl
      | succ k =>
        rw [formF, hkids.2, Bool.true_and, List.all_eq_true]
        exact fun y hy => (deepB_form n y (hkids.1 y hy)).2 k
theorem mayX_R {x : X} (h : mayX x = true) : mayXR x = true := by
  obtain ⟨h1, h2⟩ := deepB_form 20 x h
  unfold mayXR
  rw [decide_eq_true h1, h2]
  rfl
end Go.Ab
namespace Go.Ab
open Go.Proofs
def argR (a : Arg) : Bool := bif a.ref then isName a.name && noneB a.x else (a.name == []) && mayXR a.x
set_option maxRecDepth 100000 in
theorem whittlerref3_arg (a : Arg) : SpecP Tryz.prog 157 [.agg a.cells] (fun r => r = .bool (argR a)) := by
  refine SpecP.body I_whittlerref3_arg tabOK Tryz.func157 rfl Tryz.call157 (by show 1 ≤ _; decide) ?_
  conv => whnf
  repeat' (
    first
    | (intro (_ : _ ≤ 9223372036854775807); conv => whnf)
    | (refine Br.dec (fun _ => ?_) (fun _ => ?_) <;> first | (exfalso; omega) | conv => whnf)
    | (refine Br.dec2 (fun _ => ?_) (fun _ => ?_) <;> first | (exfalso; omega) | conv => whnf)
    | (refine DrawK.auto tabOK mixed (by kernel_rfl) ?_; conv => whnf)
    | (refine Br.n (fun _ => ?_) (fun _ => ?_) <;> conv => whnf)
    | (refine Br.b (fun _ => ?_) (fun _ => ?_) <;> conv => whnf)
    | (refine CallK.pure (whittlerref1_Name _) (by repeat' (first | exact ArgP.nil | refine ArgP.cons ?_ ?_ | exact Sub.refl _ | exact Sub.tt rfl | exact Sub.ff rfl)) ?_; rintro _ rfl; conv => whnf)
    | (refine CallK.pure (whittlerref3_none _) (by repeat' (first | exact ArgP.nil | refine ArgP.cons ?_ ?_ | exact Sub.refl _ | exact Sub.tt rfl | exact Sub.ff rfl)) ?_; rintro _ rfl; conv => whnf)
    | (refine CallK.pure (whittlerref3_MayExpr _) (by repeat' (first | exact ArgP.nil | refine ArgP.cons ?_ ?_ | exact Sub.refl _ | exact Sub.tt rfl | exact Sub.ff rfl)) ?_; rintro _ rfl; conv => whnf)
    | (refine And.intro rfl ?_; conv => whnf)
    | (refine And.intro ⟨by decide, by decide⟩ ?_; conv => whnf)
    | (refine And.intro ⟨rfl, rfl, by decide⟩ ?_; conv => whnf)
    | (refine BsK.pure (fun x hx => by rcases List.mem_singleton.1 hx with rfl; rfl) rfl ?_; conv => whnf)
    | (refine IdxK.map (by omega) (fun _ => rfl) ?_; conv => whnf)
    | (refine IdxK.xs (by omega) ?_; conv => whnf)
    | (refine IdxK.ss (by omega) ?_; conv => whnf)
    | (refine ByteK.at (by omega) ?_; conv => whnf)
    | (refine Wr.i64 (by omega) (by omega) ?_; conv => whnf))
  all_goals simp only [show (ByteArray.mk #[]).data.toList = [] from rfl] at *
  all_goals first
    | exact RetK.bool (by simp_all [argR])
    | exact RetK.ff (by simp_all [argR])
theorem handB_R {a : Arg} (h : handB a = true) : argR a = true := by
  unfold handB namedB worthB at h
  unfold argR
  cases hr : a.ref with
  | true =>
    rw [hr] at h
    simpa using h
  | false =>
    rw [hr] at h
    simp only [cond_false, Bool.not_false, cond_true, Bool.and_eq_true] at h
    rw [h.1, mayX_R h.2]
    rfl
end Go.Ab
namespace Go.Ab
open Go.Proofs
def oneOk (s : S) : Bool := fieldsB s && namesB s.labels
def hasXB (s : S) : Bool := decide (s.kind = 1) || decide (s.kind = 3) || decide (s.kind = 5) || decide (s.kind = 6) || (decide (s.kind = 9) && s.has)
structure OneF (s : S) : Prop where
  labels : namesB s.labels = true
  lo : 1 ≤ s.kind
  hi : s.kind ≤ 10
  x : hasXB s = true → mayXR s.x = true
  nox : hasXB s = false → noneB s.x = true
  has : s.has = true → s.kind = 9
  name : s.kind = 1 ∨ s.kind = 2 ∨ s.kind = 10 → isName s.name = true
  noname : ¬ (s.kind = 1 ∨ s.kind = 2 ∨ s.kind = 10) → (s.name == []) = true ∨ (s.kind = 4 ∧ isName s.name = true)
  proc : s.kind = 4 → isName s.proc = true
  noproc : s.kind ≠ 4 → (s.proc == []) = true
  args : s.args.all argR = true
  noargs : s.kind ≠ 4 → s.args.length = 0
  thn : s.thn.length = 0 ∨ s.kind = 5 ∨ s.kind = 6
  els : s.els.length = 0 ∨ s.kind = 5
theorem isName_nil {s : Str} (h : isName s = true) : (s == []) = false := by
  cases s with
  | nil => unfold isName at h; rw [dif_neg (by simp)] at h; cases h
  | cons a r => rfl
theorem one_facts {s : S} (h : oneOk s = true) : OneF s := by
  unfold oneOk at h
  rw [Bool.and_eq_true] at h
  obtain ⟨h, hlab⟩ := h
  have hargs : s.args.all handB = true → s.args.all argR = true := fun h => by
    rw [List.all_eq_true] at h ⊢
    exact fun a ha => handB_R (h a ha)
  have key : ∀ (k : Int) (f : Flds), s.kind = k → fldsOf s.kind s.has (s.name == []) = some f → f.has = false ∧ (f.thn = false → s.thn.length = 0) ∧ (f.els = false → s.els.length = 0) ∧ (s.kind ≠ 4 → s.args.length = 0) ∧ namedB s.name f.name = true ∧ namedB s.proc f.proc = true ∧ worthB s.x f.x = true ∧ s.args.all argR = true := fun k f hk hf => by
    rw [fieldsB_of hf] at h
    simp only [Bool.and_eq_true, Bool.not_eq_true', Bool.or_eq_false_iff, Bool.and_eq_false_iff, Bool.not_eq_false', decide_eq_false_iff_not, decide_eq_true_eq] at h
    obtain ⟨⟨⟨⟨⟨⟨⟨h1, h2⟩, h3⟩, h4⟩, h5⟩, h6⟩, h7⟩, h8⟩ := h
    refine ⟨h1, fun hq => ?_, fun hq => ?_, fun hq => ?_, h5, h6, h7, hargs h8⟩
    · rcases h2 with h2 | h2
      · rw [hq] at h2; cases h2
      · omega
    · rcases h3 with h3 | h3
      · rw [hq] at h3; cases h3
      · omega
    · rcases h4 with h4 | h4
      · exact absurd h4 hq
      · omega
  have hkind : s.kind = 1 ∨ s.kind = 2 ∨ s.kind = 3 ∨ s.kind = 4 ∨ s.kind = 5 ∨ s.kind = 6 ∨ s.kind = 7 ∨ s.kind = 8 ∨ s.kind = 9 ∨ s.kind = 10 := by
    unfold fieldsB at h
    split at h
    · cases h
    · rename_i f hf
      unfold fldsOf at hf
      (repeat' split at hf) <;> first | (cases hf; done) | omega
  have fin : ∀ (k : Int) (f : Flds), s.kind = k → fldsOf s.kind s.has (s.name == []) = some f → (1 ≤ k ∧ k ≤ 10) → f.x = hasXB s → (s.has = true → f.has = true ∨ k = 9) → ((k = 1 ∨ k = 2 ∨ k = 10) → f.name = true) → (¬ (k = 1 ∨ k = 2 ∨ k = 10) → f.name = false ∨ (k = 4 ∧ f.name = !(s.name == []))) → f.proc = decide (k = 4) → (f.thn = true → k = 5 ∨ k = 6) → (f.els = true → k = 5) → OneF s := fun k f hk hf hkk hfx hfh hfn hfnn hfp hft hfe => by
    obtain ⟨h1, h2, h3, h4, h5, h6, h7, h8⟩ := key k f hk hf
    unfold worthB at h7
    refine ⟨hlab, by omega, by omega, fun hq => ?_, fun hq => ?_, fun hq => ?_, fun hq => ?_, fun hq => ?_, fun hq => ?_, fun hq => ?_, h8, h4, ?_, ?_⟩
    · rw [hfx, hq] at h7; exact mayX_R h7
    · rw [hfx, hq] at h7; exact h7
    · rcases hfh hq with h9 | h9
      · rw [h1] at h9; cases h9
      · omega
    · rw [hfn (by omega)] at h5; exact h5
    · rcases hfnn (by omega) with h9 | ⟨h9, h10⟩
      · rw [h9] at h5; exact .inl h5
      · cases hq2 : s.name == [] with
        | true => exact .inl rfl
        | false =>
          rw [h10, hq2] at h5
          exact .inr ⟨by omega, h5⟩
    · rw [hfp, decide_eq_true (by omega)] at h6; exact h6
    · rw [hfp, decide_eq_false (by omega)] at h6; exact h6
    · cases ht : f.thn with
      | true => exact .inr (by have := hft ht; omega)
      | false => exact .inl (h2 ht)
    · cases he : f.els with
      | true => exact .inr (by have := hfe he; omega)
      | false => exact .inl (h3 he)
  rcases hkind with hk | hk | hk | hk | hk | hk | hk | hk | hk | hk
  · exact fin 1 ⟨true, false, true, s.has, false, false⟩ hk (by rw [hk]; rfl) (by omega) (by unfold hasXB; rw [hk]; rfl) (fun h => .inl h) (fun _ => rfl) (fun h => absurd (by omega) h) rfl (fun h => by cases h) (fun h => by cases h)
  · exact fin 2 ⟨true, false, false, s.has, false, false⟩ hk (by rw [hk]; rfl) (by omega) (by unfold hasXB; rw [hk]; rfl) (fun h => .inl h) (fun _ => rfl) (fun h => absurd (by omega) h) rfl (fun h => by cases h) (fun h => by cases h)
  · exact fin 3 ⟨false, false, true, s.has, false, false⟩ hk (by rw [hk]; rfl) (by omega) (by unfold hasXB; rw [hk]; rfl) (fun h => .inl h) (fun h => by omega) (fun _ => .inl rfl) rfl (fun h => by cases h) (fun h => by cases h)
  · exact fin 4 ⟨!(s.name == []), true, false, s.has, false, false⟩ hk (by rw [hk]; rfl) (by omega) (by unfold hasXB; rw [hk]; rfl) (fun h => .inl h) (fun h => by omega) (fun _ => .inr ⟨rfl, rfl⟩) rfl (fun h => by cases h) (fun h => by cases h)
  · exact fin 5 ⟨false, false, true, s.has, true, true⟩ hk (by rw [hk]; rfl) (by omega) (by unfold hasXB; rw [hk]; rfl) (fun h => .inl h) (fun h => by omega) (fun _ => .inl rfl) rfl (fun _ => .inl rfl) (fun _ => rfl)
  · exact fin 6 ⟨false, false, true, s.has, true, false⟩ hk (by rw [hk]; rfl) (by omega) (by unfold hasXB; rw [hk]; rfl) (fun h => .inl h) (fun h => by omega) (fun _ => .inl rfl) rfl (fun _ => .inr rfl) (fun h => by cases h)
  · exact fin 7 ⟨false, false, false, s.has, false, false⟩ hk (by rw [hk]; rfl) (by omega) (by unfold hasXB; rw [hk]; rfl) (fun h => .inl h) (fun h => by omega) (fun _ => .inl rfl) rfl (fun h => by cases h) (fun h => by cases h)
  · exact fin 8 ⟨false, false, false, s.has, false, false⟩ hk (by rw [hk]; rfl) (by omega) (by unfold hasXB; rw [hk]; rfl) (fun h => .inl h) (fun h => by omega) (fun _ => .inl rfl) rfl (fun h => by cases h) (fun h => by cases h)
  · exact fin 9 ⟨false, false, s.has, false, false, false⟩ hk (by rw [hk]; rfl) (by omega) (by unfold hasXB; rw [hk]; cases s.has <;> rfl) (fun _ => .inr rfl) (fun h => by omega) (fun _ => .inl rfl) rfl (fun h => by cases h) (fun h => by cases h)
  · exact fin 10 ⟨true, false, false, s.has, false, false⟩ hk (by rw [hk]; rfl) (by omega) (by unfold hasXB; rw [hk]; rfl) (fun h => .inl h) (fun _ => rfl) (fun h => absurd (by omega) h) rfl (fun h => by cases h) (fun h => by cases h)
end Go.Ab
namespace Go.Ab
open Go.Proofs
theorem one_no {s : S} {H : Heap} (h : oneOk s = true → False) : RetK H (.p .ff) (fun r => ∃ b, r = .bool b ∧ (oneOk s = true → b = true)) := ⟨.bool false, .p (Sub.ff rfl), false, rfl, fun hq => (h hq).elim⟩
set_option maxHeartbeats 16000000 in
set_option maxRecDepth 100000 in
theorem whittlerref3_one (s : S) : SpecP Tryz.prog 116 [.agg s.cells] (fun r => ∃ b, r = .bool b ∧ (oneOk s = true → b = true)) := by
  refine SpecP.body I_whittlerref3_one tabOK Tryz.func116 rfl Tryz.call116 (by show 1 ≤ _; decide) ?_
  conv => whnf
  have hal : (s.args.map fun a => AV.agg a.cells).length = s.args.length := List.length_map _
  have htl : ((S.avs s.thn).length : Int) = s.thn.length := by rw [S.avs_len]
  have hel : ((S.avs s.els).length : Int) = s.els.length := by rw [S.avs_len]
  repeat' (
    first
    | (intro (_ : _ ≤ 9223372036854775807); conv => whnf)
    | (refine Br.dec (fun _ => ?_) (fun _ => ?_) <;> first | (exfalso; omega) | conv => whnf)
    | (refine Br.dec2 (fun _ => ?_) (fun _ => ?_) <;> first | (exfalso; omega) | conv => whnf)
    | (refine DrawK.auto tabOK mixed (by kernel_rfl) ?_; conv => whnf)
    | (refine Br.n (fun _ => ?_) (fun _ => ?_) <;> conv => whnf)
    | (refine Br.b (fun _ => ?_) (fun _ => ?_) <;> conv => whnf)
    | (refine CallK.pure (whittlerref1_Name _) (by repeat' (first | exact ArgP.nil | refine ArgP.cons ?_ ?_ | exact Sub.refl _ | exact Sub.tt rfl | exact Sub.ff rfl)) ?_; rintro _ rfl; conv => whnf)
    | (refine CallK.pure (whittlerref3_names _) (by repeat' (first | exact ArgP.nil | refine ArgP.cons ?_ ?_ | exact Sub.refl _ | exact Sub.tt rfl | exact Sub.ff rfl)) ?_; rintro _ rfl; conv => whnf)
    | (refine CallK.pure (whittlerref3_none _) (by repeat' (first | exact ArgP.nil | refine ArgP.cons ?_ ?_ | exact Sub.refl _ | exact Sub.tt rfl | exact Sub.ff rfl)) ?_; rintro _ rfl; conv => whnf)
    | (refine CallK.pure (whittlerref3_MayExpr _) (by repeat' (first | exact ArgP.nil | refine ArgP.cons ?_ ?_ | exact Sub.refl _ | exact Sub.tt rfl | exact Sub.ff rfl)) ?_; rintro _ rfl; conv => whnf)
    | (refine CallK.pure (whittlerref3_arg _) (by repeat' (first | exact ArgP.nil | refine ArgP.cons ?_ ?_ | exact Sub.refl _ | exact Sub.tt rfl | exact Sub.ff rfl)) ?_; rintro _ rfl; conv => whnf)
    | (refine And.intro rfl ?_; conv => whnf)
    | (refine And.intro ⟨by decide, by decide⟩ ?_; conv => whnf)
    | (refine And.intro ⟨rfl, rfl, by decide⟩ ?_; conv => whnf)
    | (refine BsK.pure (fun x hx => by rcases List.mem_singleton.1 hx with rfl; rfl) rfl ?_; conv => whnf)
    | (refine IdxK.map (by omega) (fun _ => rfl) ?_; conv => whnf)
    | (refine IdxK.xs (by omega) ?_; conv => whnf)
    | (refine IdxK.ss (by omega) ?_; conv => whnf)
    | (refine ByteK.at (by omega) ?_; conv => whnf)
    | (refine Wr.i64 (by omega) (by omega) ?_; conv => whnf)
    | (refine ValO.boolNeq tabOK rfl rfl rfl rfl rfl ?_; conv => whnf))
  all_goals simp only [show (ByteArray.mk #[]).data.toList = [] from rfl] at *
  all_goals first
    | (refine one_no fun h => ?_
       obtain ⟨f1, f2, f3, f4, f5, f6, f7, f8, f9, f10, f11, f12, f13, f14⟩ := one_facts h
       first
         | omega
         | (exfalso; simp_all [hasXB]; done)
         | (exfalso; simp_all [hasXB]; omega)
         | (rename_i hq
            by_cases hk : s.kind = 4
            · have h15 := isName_nil (f9 hk)
              simp_all
              done
            · have h15 := f10 hk
              simp_all
              done))
    | skip
  all_goals
    refine LoopK.inv tabOK (fun j : Nat => ⟨[(1, .p (.ip s.cells)), (143, .p (.sl (s.args.map fun a => .agg a.cells))), (144, .p (.int .i64 (s.args.map fun a => AV.agg a.cells).length)), (145, .p (.int .i64 j))], []⟩) (fun j => j ≤ s.args.length) (fun j => s.args.length - j) 0 (Le.of_eq rfl) (Nat.zero_le _) ?_
    intro j h2
    rcases Nat.lt_or_ge j s.args.length with hj | hj
    · conv => whnf
      repeat' (
        first
        | (intro (_ : _ ≤ 9223372036854775807); conv => whnf)
        | (refine Br.dec (fun _ => ?_) (fun _ => ?_) <;> first | (exfalso; omega) | conv => whnf)
        | (refine Br.dec2 (fun _ => ?_) (fun _ => ?_) <;> first | (exfalso; omega) | conv => whnf)
        | (refine DrawK.auto tabOK mixed (by kernel_rfl) ?_; conv => whnf)
        | (refine Br.n (fun _ => ?_) (fun _ => ?_) <;> conv => whnf)
        | (refine Br.b (fun _ => ?_) (fun _ => ?_) <;> conv => whnf)
        | (refine CallK.pure (whittlerref3_arg _) (by repeat' (first | exact ArgP.nil | refine ArgP.cons ?_ ?_ | exact Sub.refl _ | exact Sub.tt rfl | exact Sub.ff rfl)) ?_; rintro _ rfl; conv => whnf)
        | (refine And.intro rfl ?_; conv => whnf)
        | (refine And.intro ⟨by decide, by decide⟩ ?_; conv => whnf)
        | (refine And.intro ⟨rfl, rfl, by decide⟩ ?_; conv => whnf)
        | (refine BsK.pure (fun x hx => by rcases List.mem_singleton.1 hx with rfl; rfl) rfl ?_; conv => whnf)
        | (refine IdxK.map (by omega) (fun _ => rfl) ?_; conv => whnf)
        | (refine IdxK.xs (by omega) ?_; conv => whnf)
        | (refine IdxK.ss (by omega) ?_; conv => whnf)
        | (refine ByteK.at (by omega) ?_; conv => whnf)
        | (refine Wr.i64 (by omega) (by omega) ?_; conv => whnf))
      all_goals first
        | exact ⟨j + 1, hj, by omega, Le.of_eq rfl⟩
        | (refine one_no fun h => ?_
           have h3 := List.all_eq_true.1 (one_facts h).args _ (List.getElem_mem hj)
           simp_all)
    · conv => whnf
      repeat' (
        first
        | (intro (_ : _ ≤ 9223372036854775807); conv => whnf)
        | (refine Br.dec (fun _ => ?_) (fun _ => ?_) <;> first | (exfalso; omega) | conv => whnf)
        | (refine Br.dec2 (fun _ => ?_) (fun _ => ?_) <;> first | (exfalso; omega) | conv => whnf)
        | (refine DrawK.auto tabOK mixed (by kernel_rfl) ?_; conv => whnf)
        | (refine Br.n (fun _ => ?_) (fun _ => ?_) <;> conv => whnf)
        | (refine Br.b (fun _ => ?_) (fun _ => ?_) <;> conv => whnf)
        | (refine And.intro rfl ?_; conv => whnf)
        | (refine And.intro ⟨by decide, by decide⟩ ?_; conv => whnf)
        | (refine And.intro ⟨rfl, rfl, by decide⟩ ?_; conv => whnf)
        | (refine BsK.pure (fun x hx => by rcases List.mem_singleton.1 hx with rfl; rfl) rfl ?_; conv => whnf)
        | (refine IdxK.map (by omega) (fun _ => rfl) ?_; conv => whnf)
        | (refine IdxK.xs (by omega) ?_; conv => whnf)
        | (refine IdxK.ss (by omega) ?_; conv => whnf)
        | (refine ByteK.at (by omega) ?_; conv => whnf)
        | (refine Wr.i64 (by omega) (by omega) ?_; conv => whnf))
      all_goals first
        | exact ⟨_, .p (Sub.tt rfl), true, rfl, fun _ => rfl⟩
        | (refine one_no fun h => ?_
           have F1 := (one_facts h).thn
           have F2 := (one_facts h).els
           omega)
        | (refine ⟨_, .p (Sub.refl _), _, rfl, fun h => ?_⟩
           have F1 := (one_facts h).thn
           have F2 := (one_facts h).els
           first
             | (simp; omega)
             | (simp_all; omega)
             | (simp_all; done))
end Go.Ab
