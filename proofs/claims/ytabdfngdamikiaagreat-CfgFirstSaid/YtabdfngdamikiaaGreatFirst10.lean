/- Weights; a sheet by its offsets; what a name is. -/
import Derived.Test.YtabdfngdamikiaaGreatFirst9
set_option linter.unusedSimpArgs false
set_option linter.unusedVariables false
namespace Go.Ab
open Go.Proofs
def wTxs : List Str → Nat
  | [] => 0
  | s :: r => 1 + s.length + wTxs r
mutual
def wX : X → Nat
  | .mk _ _ name kids => 1 + name.length + wXs kids
def wXs : List X → Nat
  | [] => 0
  | x :: r => wX x + wXs r
end
def wArgs : List Arg → Nat
  | [] => 0
  | a :: r => wX a.x + (1 + a.name.length) + wArgs r
mutual
def wS : S → Nat
  | .mk _ _ labels name proc x _ args thn els => wX x + wTxs labels + (1 + name.length) + (1 + proc.length) + wArgs args + wL thn + wL els
def wL : List S → Nat
  | [] => 0
  | s :: r => wS s + wL r
end
def wPms : List Param → Nat
  | [] => 0
  | a :: r => 1 + a.name.length + wPms r
def wPr (f : Pr) : Nat := 1 + f.name.length + wTxs f.vars + wTxs f.fin + wPms f.params + wL f.body
def wPrs : List Pr → Nat
  | [] => 0
  | f :: r => wPr f + wPrs r
def wPg (p : Pg) : Nat := wTxs p.globals + wPrs p.procs
def Fit (p : Pg) : Prop := wPg p ≤ 20000
theorem wTxs_len : ∀ l : List Str, l.length ≤ wTxs l
  | [] => Nat.zero_le _
  | s :: r => by have := wTxs_len r; simp only [List.length_cons, wTxs]; omega
theorem wArgs_len : ∀ l : List Arg, l.length ≤ wArgs l
  | [] => Nat.zero_le _
  | s :: r => by have := wArgs_len r; simp only [List.length_cons, wArgs]; omega
theorem wS_eq (s : S) : wS s = wX s.x + wTxs s.labels + (1 + s.name.length) + (1 + s.proc.length) + wArgs s.args + wL s.thn + wL s.els := by
  cases s
  rw [wS]
  rfl
mutual
theorem cnt_wS : ∀ s : S, cntS s ≤ wS s
  | .mk id kind labels name proc x has args thn els => by
    have := cnt_wL thn
    have := cnt_wL els
    rw [cntS, wS]
    omega
theorem cnt_wL : ∀ l : List S, cntL l ≤ wL l
  | [] => by rw [cntL, wL]; exact Nat.le_refl _
  | s :: r => by
    have := cnt_wS s
    have := cnt_wL r
    rw [cntL, wL]
    omega
end
theorem wPr_mem : ∀ {l : List Pr} {f : Pr}, f ∈ l → wPr f ≤ wPrs l
  | g :: r, f, h => by
    simp only [wPrs]
    rcases List.mem_cons.1 h with rfl | h
    · omega
    · have := wPr_mem h; omega
theorem Fit.pr {p : Pg} (h : Fit p) {f : Pr} (hf : f ∈ p.procs) : wPr f ≤ 20000 := by
  have := wPr_mem hf
  unfold Fit wPg at h
  omega

-- The statements of a row, in the order of their ids.
mutual
def flS : S → List S
  | .mk id kind labels name proc x has args thn els => .mk id kind labels name proc x has args thn els :: (flL thn ++ flL els)
def flL : List S → List S
  | [] => []
  | s :: r => flS s ++ flL r
end
theorem flS_eq (s : S) : flS s = s :: (flL s.thn ++ flL s.els) := by
  cases s
  rw [flS]
  rfl
mutual
theorem flS_len : ∀ s : S, (flS s).length = cntS s
  | .mk id kind labels name proc x has args thn els => by
    rw [flS, cntS, List.length_cons, List.length_append, flL_len thn, flL_len els]
    omega
theorem flL_len : ∀ l : List S, (flL l).length = cntL l
  | [] => by rw [flL, cntL]; rfl
  | s :: r => by rw [flL, cntL, List.length_append, flS_len s, flL_len r]
end
mutual
theorem flS_w : ∀ (s t : S), t ∈ flS s → wS t ≤ wS s
  | .mk id kind labels name proc x has args thn els, t, h => by
    rw [flS] at h
    rcases List.mem_cons.1 h with rfl | h
    · exact Nat.le_refl _
    · rw [wS]
      rcases List.mem_append.1 h with h | h
      · have := flL_w thn t h; omega
      · have := flL_w els t h; omega
theorem flL_w : ∀ (l : List S) (t : S), t ∈ flL l → wS t ≤ wL l
  | [], t, h => by rw [flL] at h; cases h
  | s :: r, t, h => by
    rw [flL] at h
    rw [wL]
    rcases List.mem_append.1 h with h | h
    · have := flS_w s t h; omega
    · have := flL_w r t h; omega
end

-- Items by their offset.
mutual
def itS (proc up nx loop : Int) (n : Nat) : S → List Item
  | .mk id kind labels name pr x has args thn els =>
    ⟨.mk id kind labels name pr x has args thn els, proc, up, nx, loop⟩ :: (itL proc (n + 1) (if kind = 6 then n + 1 else nx) (if kind = 6 then n + 1 else loop) (n + 1) thn ++
      itL proc (n + 1) (if kind = 6 then n + 1 else nx) (if kind = 6 then n + 1 else loop) (n + 1 + cntL thn) els)
def itL (proc up nx loop : Int) (n : Nat) : List S → List Item
  | [] => []
  | t :: r => itS proc up (if r.isEmpty then nx else n + 1 + cntS t) loop n t ++ itL proc up nx loop (n + cntS t) r
end
mutual
theorem rowT_it (proc up nx loop : Int) : ∀ (t : S) (acc : List Item), rowT proc up nx loop acc t = acc ++ itS proc up nx loop acc.length t
  | .mk id kind labels name pr x has args thn els, acc => by
    rw [rowT, itS, rowsF_it _ _ _ _ thn, rowsF_it _ _ _ _ els]
    simp only [List.length_append, List.length_cons, List.length_nil, List.append_assoc, List.cons_append, List.nil_append, itL_len proc _ _ _ _ thn, Nat.zero_add, Nat.add_assoc, Nat.add_comm (cntL thn) 1]
theorem rowsF_it (proc up nx loop : Int) : ∀ (l : List S) (acc : List Item), rowsF proc up nx loop acc l = acc ++ itL proc up nx loop acc.length l
  | [], acc => by rw [rowsF, itL, List.append_nil]
  | t :: r, acc => by
    rw [rowsF, itL, rowT_it _ _ _ _ t, rowsF_it _ _ _ _ r]
    simp only [List.length_append, List.append_assoc, itS_len proc _ _ _ _ t]
theorem itS_len (proc up nx loop : Int) (n : Nat) : ∀ t : S, (itS proc up nx loop n t).length = cntS t
  | .mk id kind labels name pr x has args thn els => by
    rw [itS, cntS, List.length_cons, List.length_append, itL_len _ _ _ _ _ thn, itL_len _ _ _ _ _ els]
    omega
theorem itL_len (proc up nx loop : Int) (n : Nat) : ∀ l : List S, (itL proc up nx loop n l).length = cntL l
  | [] => by rw [itL, cntL]; rfl
  | t :: r => by rw [itL, cntL, List.length_append, itS_len _ _ _ _ _ t, itL_len _ _ _ _ _ r]
end
mutual
theorem itS_s (proc up nx loop : Int) (n : Nat) : ∀ t : S, (itS proc up nx loop n t).map Item.s = flS t
  | .mk id kind labels name pr x has args thn els => by
    rw [itS, flS, List.map_cons, List.map_append, itL_s _ _ _ _ _ thn, itL_s _ _ _ _ _ els]
theorem itL_s (proc up nx loop : Int) (n : Nat) : ∀ l : List S, (itL proc up nx loop n l).map Item.s = flL l
  | [] => by rw [itL, flL]; rfl
  | t :: r => by rw [itL, flL, List.map_append, itS_s _ _ _ _ _ t, itL_s _ _ _ _ _ r]
end
def offN : List Pr → Nat → Nat
  | _, 0 => 0
  | [], _ + 1 => 0
  | f :: r, i + 1 => cntL f.body + offN r i
theorem newL_spec : ∀ (l : List Pr) (i : Nat) (acc : List Item) (lo hi : List Int), lo.length = i → hi.length = i →
    (newL i acc lo hi l).2.1.length = i + l.length ∧ (newL i acc lo hi l).2.2.length = i + l.length ∧
    (∀ k, k < i → (newL i acc lo hi l).2.1[k]? = lo[k]? ∧ (newL i acc lo hi l).2.2[k]? = hi[k]?) ∧ ∃ L, (newL i acc lo hi l).1 = acc ++ L ∧ L.length = cntP l ∧
    ∀ (k : Nat) (f : Pr), l[k]? = some f → (newL i acc lo hi l).2.1[i + k]? = some ((acc.length + offN l k : Nat) + 1 : Int) ∧ (newL i acc lo hi l).2.2[i + k]? = some ((acc.length + offN l k + cntL f.body : Nat) + 1 : Int) ∧
      offN l k + cntL f.body ≤ cntP l ∧ (L.take (offN l k + cntL f.body)).drop (offN l k) = itL (i + k : Nat) 0 (-1) 0 (acc.length + offN l k) f.body
  | [], i, acc, lo, hi, h1, h2 => by
    rw [newL]
    exact ⟨by simpa using h1, by simpa using h2, fun _ _ => ⟨rfl, rfl⟩, [], by simp, rfl, fun k f h => by simp at h⟩
  | f :: r, i, acc, lo, hi, h1, h2 => by
    rw [newL]
    have hrow := rowsF_it i 0 (-1) 0 f.body acc
    have hlen := rowsF_len i 0 (-1) 0 acc f.body
    obtain ⟨h3, h4, h5, L, h6, h7, h8⟩ := newL_spec r (i + 1) (rowsF i 0 (-1) 0 acc f.body) (lo ++ [(acc.length : Int) + 1]) (hi ++ [((rowsF i 0 (-1) 0 acc f.body).length : Int) + 1]) (by simp [h1]) (by simp [h2])
    refine ⟨by rw [h3, List.length_cons]; omega, by rw [h4, List.length_cons]; omega, fun k hk => ?_, itL i 0 (-1) 0 acc.length f.body ++ L, ?_, ?_, fun k g hg => ?_⟩
    · obtain ⟨h9, h10⟩ := h5 k (by omega)
      rw [h9, h10, List.getElem?_append_left (by omega), List.getElem?_append_left (by omega)]
      exact ⟨rfl, rfl⟩
    · rw [h6, hrow, List.append_assoc]
    · rw [List.length_append, h7, itL_len, cntP]
    · cases k with
      | zero =>
        simp only [List.getElem?_cons_zero, Option.some.injEq] at hg
        subst hg
        obtain ⟨h9, h10⟩ := h5 i (by omega)
        simp only [Nat.add_zero, offN, Nat.zero_add, List.drop_zero]
        refine ⟨?_, ?_, ?_, ?_⟩
        · rw [h9, List.getElem?_append_right (by omega), h1]; simp
        · rw [h10, List.getElem?_append_right (by omega), h2, hlen]; simp
        · rw [cntP]; omega
        · rw [List.take_append_of_le_length (by rw [itL_len]; omega), List.take_of_length_le (by rw [itL_len]; omega)]
      | succ k =>
        simp only [List.getElem?_cons_succ] at hg
        obtain ⟨h9, h10, h11, h12⟩ := h8 k g hg
        rw [hlen] at h12
        simp only [offN]
        refine ⟨?_, ?_, ?_, ?_⟩
        · rw [show i + (k + 1) = i + 1 + k by omega, h9, hlen]; congr 2; omega
        · rw [show i + (k + 1) = i + 1 + k by omega, h10, hlen]; congr 2; omega
        · rw [cntP]; omega
        · rw [List.take_append, List.drop_append, itL_len, List.take_of_length_le (by rw [itL_len]; omega), List.drop_eq_nil_of_le (by rw [itL_len]; omega), List.nil_append]
          simp only [itL_len]
          rw [show cntL f.body + offN r k + cntL g.body - cntL f.body = offN r k + cntL g.body by omega, show cntL f.body + offN r k - cntL f.body = offN r k by omega, h12]
          rw [show i + (k + 1) = i + 1 + k by omega, show acc.length + (cntL f.body + offN r k) = acc.length + cntL f.body + offN r k by omega]
theorem sheet_spec (p : Pg) : (sheetOf p).p = p ∧ (sheetOf p).lo.length = p.procs.length ∧ (sheetOf p).hi.length = p.procs.length ∧ (sheetOf p).l.length = cntP p.procs ∧
    ∀ (k : Nat) (f : Pr), p.procs[k]? = some f → (sheetOf p).lo[k]? = some ((offN p.procs k : Nat) + 1 : Int) ∧ (sheetOf p).hi[k]? = some ((offN p.procs k + cntL f.body : Nat) + 1 : Int) ∧
      offN p.procs k + cntL f.body ≤ cntP p.procs ∧ ((sheetOf p).l.take (offN p.procs k + cntL f.body)).drop (offN p.procs k) = itL k 0 (-1) 0 (offN p.procs k) f.body := by
  obtain ⟨h3, h4, _, L, h6, h7, h8⟩ := newL_spec p.procs 0 [] [] [] rfl rfl
  refine ⟨rfl, by unfold sheetOf; simpa using h3, by unfold sheetOf; simpa using h4, by unfold sheetOf; simp [h6, h7], fun k f hk => ?_⟩
  have := h8 k f hk
  unfold sheetOf
  simp only [h6, List.nil_append, List.length_nil, Nat.zero_add] at this ⊢
  exact this

-- How many statements a program that may be has.
mutual
theorem rowS_cnt (nest seen : Int) : ∀ (s : S) {m : Int}, rowS nest seen s = some m → m = seen + cntS s
  | .mk id kind labels name proc x has args thn els, m, h => by
    simp only [rowS] at h
    split at h
    · cases h
    split at h
    · cases h
    cases hn : namesB labels <;> rw [hn] at h
    · cases h
    cases hf : fieldsB (.mk id kind labels name proc x has args thn els) <;> rw [hf] at h
    · cases h
    simp only [cond_true] at h
    split at h
    · rename_i m1 h1
      have h2 := rowL_cnt (nest + 1) (seen + 1) thn h1
      have h3 := rowL_cnt (nest + 1) m1 els h
      rw [cntS]
      omega
    · cases h
theorem rowL_cnt (nest seen : Int) : ∀ (l : List S) {m : Int}, rowL nest seen l = some m → m = seen + cntL l
  | [], m, h => by
    simp only [rowL] at h
    cases h
    rw [cntL]
    simp
  | s :: r, m, h => by
    simp only [rowL] at h
    split at h
    · cases h
    split at h
    · rename_i m1 h1
      have h2 := rowS_cnt nest seen s h1
      have h3 := rowL_cnt nest m1 r h
      rw [cntL]
      omega
    · cases h
end
theorem mayPrs_cnt : ∀ (l : List Pr) {seen m : Int}, seen ≤ 200 → mayPrs seen l = some m → m = seen + cntP l ∧ m ≤ 200
  | [], seen, m, h0, h => by rw [mayPrs] at h; cases h; simp [cntP]; exact h0
  | f :: r, seen, m, h0, h => by
    rw [mayPrs] at h
    cases hm : mayPr f <;> rw [hm] at h
    · cases h
    simp only [cond_true] at h
    split at h
    · rename_i m1 h1
      have h2 := rowL_cnt 1 seen f.body h1
      have h3 := rowL_le 1 seen f.body h0 h1
      have h4 := mayPrs_cnt r (by omega) h
      rw [cntP]
      omega
    · cases h
theorem mayB_cnt {p : Pg} (h : mayB p = true) : p.globals.length ≤ 16 ∧ p.procs.length ≤ 16 ∧ cntP p.procs ≤ 200 := by
  unfold mayB at h
  simp only [Bool.and_eq_true, decide_eq_true_eq] at h
  obtain ⟨⟨⟨h1, h2⟩, _⟩, h3⟩ := h
  cases hm : mayPrs 0 p.procs with
  | none => rw [hm] at h3; cases h3
  | some m =>
    have := mayPrs_cnt p.procs (by decide) hm
    omega
theorem mayB_pr {p : Pg} (h : mayB p = true) {f : Pr} (hf : f ∈ p.procs) : mayPr f = true := by
  unfold mayB at h
  simp only [Bool.and_eq_true] at h
  have h3 := h.2
  have key : ∀ (l : List Pr) (seen : Int), (mayPrs seen l).isSome = true → ∀ f ∈ l, mayPr f = true := fun l => by
    induction l with
    | nil => intro _ _ f hf; cases hf
    | cons g r ih =>
      intro seen h f hf
      rw [mayPrs] at h
      cases hm : mayPr g <;> rw [hm] at h
      · cases h
      simp only [cond_true] at h
      split at h
      · rename_i m1 h1
        rcases List.mem_cons.1 hf with rfl | hf
        · exact hm
        · exact ih _ h f hf
      · cases h
  exact key _ _ h3 f hf
def kindI (p : Pg) (f : Pr) (name : Str) : Int :=
  match f.params.find? (fun a => a.name == name) with
  | some a => bif a.ref then 3 else 2
  | none => bif f.vars.any (fun s => name == s) then 4 else bif p.globals.any (fun s => name == s) then 1 else 0
theorem find_no {α : Type} {l : List α} {p : α → Bool} {j : Nat} (hj : j < l.length) (h : p l[j] = false) : (l.drop (j + 1)).find? p = (l.drop j).find? p := by
  rw [drop_cons hj, List.find?_cons, h]
theorem find_yes {α : Type} {l : List α} {p : α → Bool} {j : Nat} (hj : j < l.length) (h : p l[j] = true) : (l.drop j).find? p = some l[j] := by
  rw [drop_cons hj, List.find?_cons, h]
theorem find_end {α : Type} {l : List α} {p : α → Bool} {j : Nat} (hj : l.length ≤ j) : (l.drop j).find? p = none := by
  rw [List.drop_eq_nil_of_le hj]; rfl
set_option maxRecDepth 100000 in
theorem scope_kind (p : Pg) (f : Pr) (name : Str) : SpecP Tryz.prog 219 [.agg p.cells, .agg f.cells, .str name] (fun r => r = .int .i64 (kindI p f name)) := by
  refine SpecP.body I_scope_kind tabOK Tryz.func219 rfl Tryz.call219 (by show 3 ≤ _; decide) ?_
  conv => whnf
  repeat' (
    first
    | (intro (_ : _ ≤ 9223372036854775807); conv => whnf)
    | (refine Br.dec (fun _ => ?_) (fun _ => ?_) <;> first | (exfalso; omega) | conv => whnf)
    | (refine Br.dec2 (fun _ => ?_) (fun _ => ?_) <;> first | (exfalso; omega) | conv => whnf)
    | (refine DrawK.auto tabOK mixed (by kernel_rfl) ?_; conv => whnf)
    | (refine Br.n (fun _ => ?_) (fun _ => ?_) <;> conv => whnf)
    | (refine Br.b (fun _ => ?_) (fun _ => ?_) <;> conv => whnf)
    | (refine And.intro rfl ?_; conv => whnf)
    | (refine And.intro ⟨by decide, by decide⟩ ?_; conv => whnf)
    | (refine And.intro ⟨rfl, rfl, by decide⟩ ?_; conv => whnf)
    | (refine BsK.pure (fun x hx => by rcases List.mem_singleton.1 hx with rfl; rfl) rfl ?_; conv => whnf)
    | (refine IdxK.map (by omega) (fun _ => rfl) ?_; conv => whnf)
    | (refine IdxK.xs (by omega) ?_; conv => whnf)
    | (refine IdxK.ss (by omega) ?_; conv => whnf)
    | (refine ByteK.at (by omega) ?_; conv => whnf)
    | (refine Wr.i64 (by omega) (by omega) ?_; conv => whnf))
  have hl : (f.params.map fun a => AV.agg a.cells).length = f.params.length := List.length_map _
  refine LoopK.inv tabOK (fun j : Nat => ⟨[(2, .p (.str name)), (3, .p (.ip p.cells)), (4, .p (.ip f.cells)), (10, .p (.sl (f.params.map fun a => .agg a.cells))), (11, .p (.int .i64 (f.params.map fun a => AV.agg a.cells).length)), (12, .p (.int .i64 j))], []⟩) (fun j => j ≤ f.params.length ∧ (f.params.drop j).find? (fun a => a.name == name) = f.params.find? (fun a => a.name == name)) (fun j => f.params.length - j) 0 (Le.of_eq rfl) ⟨Nat.zero_le _, rfl⟩ ?_
  rintro j ⟨h2, h3⟩
  conv => whnf
  repeat' (
    first
    | (intro (_ : _ ≤ 9223372036854775807); conv => whnf)
    | (refine Br.dec (fun _ => ?_) (fun _ => ?_) <;> first | (exfalso; omega) | conv => whnf)
    | (refine Br.dec2 (fun _ => ?_) (fun _ => ?_) <;> first | (exfalso; omega) | conv => whnf)
    | (refine DrawK.auto tabOK mixed (by kernel_rfl) ?_; conv => whnf)
    | (refine Br.n (fun _ => ?_) (fun _ => ?_) <;> conv => whnf)
    | (refine Br.b (fun _ => ?_) (fun _ => ?_) <;> conv => whnf)
    | (refine CallK.pure (slices_Contains_string_string_ _ _) (by repeat' (first | exact ArgP.nil | refine ArgP.cons ?_ ?_ | exact Sub.refl _ | exact Sub.tt rfl | exact Sub.ff rfl)) ?_; rintro _ rfl; conv => whnf)
    | (refine And.intro rfl ?_; conv => whnf)
    | (refine And.intro ⟨by decide, by decide⟩ ?_; conv => whnf)
    | (refine And.intro ⟨rfl, rfl, by decide⟩ ?_; conv => whnf)
    | (refine BsK.pure (fun x hx => by rcases List.mem_singleton.1 hx with rfl; rfl) rfl ?_; conv => whnf)
    | (refine IdxK.map (by omega) (fun _ => rfl) ?_; conv => whnf)
    | (refine IdxK.xs (by omega) ?_; conv => whnf)
    | (refine IdxK.ss (by omega) ?_; conv => whnf)
    | (refine ByteK.at (by omega) ?_; conv => whnf)
    | (refine Wr.i64 (by omega) (by omega) ?_; conv => whnf))
  all_goals try have hj : j < f.params.length := by omega
  all_goals first
    | (exfalso
       have h8 : ((f.params[j]'(by omega)).name == name) = true := by assumption
       have h9 : ((f.params[j]'(by omega)).name == name) = false := by assumption
       rw [h8] at h9
       cases h9)
    | (have e := find_yes (p := fun a : Param => a.name == name) (by omega) (by assumption)
       rw [h3] at e
       exact RetK.int (by unfold kindI; rw [e]; simp [*]))
    | (refine ⟨j + 1, ⟨by omega, by rw [← h3, find_no (p := fun a : Param => a.name == name) (by omega) (by assumption)]⟩, by omega, Le.of_eq rfl⟩)
    | (have e : f.params.find? (fun a => a.name == name) = none := by rw [← h3, find_end (by omega)]
       exact RetK.int (by unfold kindI; rw [e]; simp [*]))
def mainS : Str := [109, 97, 105, 110]
def knownB (p : Pg) (f : Pr) (procs : List Str) (t : S) : Bool := (namesT t).all (fun n => !(kindI p f n == 0)) && (decide (t.kind ≠ 4) || (!(t.proc == mainS) && procs.any fun s => t.proc == s))
set_option maxRecDepth 100000 in
theorem scope_known (p : Pg) (f : Pr) (procs : List Str) (t : S) (ha : t.args.length ≤ 20000) : SpecP Tryz.prog 164 [.agg p.cells, .agg f.cells, eStrs procs, .agg t.cells] (fun r => r = .bool (knownB p f procs t)) := by
  refine SpecP.body I_scope_known tabOK Tryz.func164 rfl Tryz.call164 (by show 4 ≤ _; decide) ?_
  conv => whnf
  repeat' (
    first
    | (intro (_ : _ ≤ 9223372036854775807); conv => whnf)
    | (refine Br.dec (fun _ => ?_) (fun _ => ?_) <;> first | (exfalso; omega) | conv => whnf)
    | (refine Br.dec2 (fun _ => ?_) (fun _ => ?_) <;> first | (exfalso; omega) | conv => whnf)
    | (refine DrawK.auto tabOK mixed (by kernel_rfl) ?_; conv => whnf)
    | (refine Br.n (fun _ => ?_) (fun _ => ?_) <;> conv => whnf)
    | (refine Br.b (fun _ => ?_) (fun _ => ?_) <;> conv => whnf)
    | (refine CallK.pure (flat_Names _ ha) (by repeat' (first | exact ArgP.nil | refine ArgP.cons ?_ ?_ | exact Sub.refl _ | exact Sub.tt rfl | exact Sub.ff rfl | exact Sub.int (by omega))) ?_; rintro _ rfl; conv => whnf)
    | (refine And.intro rfl ?_; conv => whnf)
    | (refine And.intro ⟨by decide, by decide⟩ ?_; conv => whnf)
    | (refine And.intro ⟨rfl, rfl, by decide⟩ ?_; conv => whnf)
    | (refine BsK.pure (fun x hx => by rcases List.mem_singleton.1 hx with rfl; rfl) rfl ?_; conv => whnf)
    | (refine IdxK.map (by omega) (fun _ => rfl) ?_; conv => whnf)
    | (refine IdxK.xs (by omega) ?_; conv => whnf)
    | (refine IdxK.ss (by omega) ?_; conv => whnf)
    | (refine ByteK.at (by omega) ?_; conv => whnf)
    | (refine Wr.i64 (by omega) (by omega) ?_; conv => whnf))
  have hl : ((namesT t).map AV.str).length = (namesT t).length := List.length_map _
  refine LoopK.inv tabOK (fun j : Nat => ⟨[(2, .p (eStrs procs)), (4, .p (.ip p.cells)), (5, .p (.ip f.cells)), (7, .p (.ip t.cells)), (12, .p (eStrs (namesT t))), (13, .p (.int .i64 ((namesT t).map AV.str).length)), (14, .p (.int .i64 j))], []⟩) (fun j => j ≤ (namesT t).length ∧ ((namesT t).drop j).all (fun n => !(kindI p f n == 0)) = (namesT t).all (fun n => !(kindI p f n == 0))) (fun j => (namesT t).length - j) 0 (Le.of_eq rfl) ⟨Nat.zero_le _, rfl⟩ ?_
  rintro j ⟨h2, h3⟩
  conv => whnf
  repeat' (
    first
    | (intro (_ : _ ≤ 9223372036854775807); conv => whnf)
    | (refine Br.dec (fun _ => ?_) (fun _ => ?_) <;> first | (exfalso; omega) | conv => whnf)
    | (refine Br.dec2 (fun _ => ?_) (fun _ => ?_) <;> first | (exfalso; omega) | conv => whnf)
    | (refine DrawK.auto tabOK mixed (by kernel_rfl) ?_; conv => whnf)
    | (refine Br.n (fun _ => ?_) (fun _ => ?_) <;> conv => whnf)
    | (refine Br.b (fun _ => ?_) (fun _ => ?_) <;> conv => whnf)
    | (refine CallK.pure (scope_kind _ _ _) (by repeat' (first | exact ArgP.nil | refine ArgP.cons ?_ ?_ | exact Sub.refl _ | exact Sub.tt rfl | exact Sub.ff rfl)) ?_; rintro _ rfl; conv => whnf)
    | (refine CallK.pure (slices_Contains_string_string_ _ _) (by repeat' (first | exact ArgP.nil | refine ArgP.cons ?_ ?_ | exact Sub.refl _ | exact Sub.tt rfl | exact Sub.ff rfl)) ?_; rintro _ rfl; conv => whnf)
    | (refine And.intro rfl ?_; conv => whnf)
    | (refine And.intro ⟨by decide, by decide⟩ ?_; conv => whnf)
    | (refine And.intro ⟨rfl, rfl, by decide⟩ ?_; conv => whnf)
    | (refine BsK.pure (fun x hx => by rcases List.mem_singleton.1 hx with rfl; rfl) rfl ?_; conv => whnf)
    | (refine IdxK.map (by omega) (fun _ => rfl) ?_; conv => whnf)
    | (refine IdxK.xs (by omega) ?_; conv => whnf)
    | (refine IdxK.ss (by omega) ?_; conv => whnf)
    | (refine ByteK.at (by omega) ?_; conv => whnf)
    | (refine Wr.i64 (by omega) (by omega) ?_; conv => whnf))
  · exact RetK.ff (by
      have e := all_no (p := fun n => !(kindI p f n == 0)) (l := namesT t) (j := j) (by omega) (by simp; assumption)
      rw [knownB, ← h3, e, Bool.false_and])
  · exact ⟨j + 1, ⟨by omega, by rw [← h3, all_yes (p := fun n => !(kindI p f n == 0)) (by omega) (by simp; assumption)]⟩, by omega, Le.of_eq rfl⟩
  all_goals
    have e : (namesT t).all (fun n => !(kindI p f n == 0)) = true := by rw [← h3, all_end (by omega)]
  · exact RetK.ff (by
      have h8 : (t.proc == mainS) = true := by assumption
      rw [knownB, e, h8]
      simp [*])
  · exact RetK.bool (by
      have h8 : (t.proc == mainS) = false := by assumption
      rw [knownB, e, h8]
      simp [*])
  · exact RetK.tt (by rw [knownB, e]; simp [*])
end Go.Ab
namespace Go.Ab
open Go.Proofs
def eFault (c at_ : Int) : AV := .agg [.int .i64 c, .int .i64 at_]
def procsN (p : Pg) : List Str := p.procs.map Pr.name
def mainBad (p : Pg) : Bool := twiceB p.globals || (twiceB (procsN p) || (!((procsN p).any fun s => mainS == s) || match p.procs.find? (fun f => mainS == f.name) with
  | some f => decide (0 < f.params.length)
  | none => true))
def scopeAt (p : Pg) (f : Pr) : Option Int :=
  bif twiceB (ownL f) || (ownL f).any (fun n => p.globals.any fun s => n == s) then some 0 else ((flL f.body).find? fun t => !knownB p f (procsN p) t).map S.id
def scopeB (p : Pg) : Int × Int :=
  bif mayB p then bif mainBad p then (5, 0) else match p.procs.findSome? (scopeAt p) with
    | some a => (5, a)
    | none => (0, 0)
  else (1, 0)
theorem idx_find {α : Type} {l : List α} {p : α → Bool} (h : l.any p = true) : ∃ (k : Nat) (hk : k < l.length), idxF p l = k ∧ p l[k] = true ∧ l.find? p = some l[k] := by
  have h1 : l.findIdx p < l.length := by
    rw [List.findIdx_lt_length]
    exact List.any_eq_true.1 h
  refine ⟨l.findIdx p, h1, by unfold idxF; rw [h]; rfl, List.findIdx_getElem, ?_⟩
  rw [List.find?_eq_some_iff_getElem]
  exact ⟨List.findIdx_getElem, l.findIdx p, h1, rfl, fun j hj => by simpa using List.not_of_lt_findIdx hj⟩
theorem main_idx {p : Pg} (h : (procsN p).any (fun s => mainS == s) = true) : ∃ (k : Nat) (hk : k < p.procs.length), idxF (fun s => mainS == s) (procsN p) = k ∧ p.procs.find? (fun f => mainS == f.name) = some p.procs[k] := by
  have h' : p.procs.any (fun f => mainS == f.name) = true := by simpa [procsN, List.any_map, Function.comp_def] using h
  obtain ⟨k, hk, h1, _, h2⟩ := idx_find h'
  refine ⟨k, hk, ?_, h2⟩
  rw [← h1]
  unfold idxF
  rw [h, h']
  simp [procsN, List.findIdx_map, Function.comp_def]
theorem Of_at (p : Pg) {j : Nat} {f : Pr} (hj : p.procs[j]? = some f) (hc : cntP p.procs ≤ 1000) : SpecP Tryz.prog 142 [.ip (sheetOf p).cells, .int .i64 j] (fun r => r = eItems (itL j 0 (-1) 0 (offN p.procs j) f.body)) := by
  obtain ⟨_, h2, h3, h4, h5⟩ := sheet_spec p
  obtain ⟨h6, h7, h8, h9⟩ := h5 j f hj
  have := flat_Sheet_Of (sheetOf p) j _ _ h6 h7 (by omega) (by omega) (by omega)
  rw [h9] at this
  exact this
theorem eItems_len (l : List Item) : (l.map fun i => AV.agg i.cells).length = l.length := List.length_map _
theorem findSome_no {α β : Type} {l : List α} {f : α → Option β} {j : Nat} (hj : j < l.length) (h : f l[j] = none) : (l.drop (j + 1)).findSome? f = (l.drop j).findSome? f := by
  rw [drop_cons hj, List.findSome?_cons, h]
theorem findSome_yes {α β : Type} {l : List α} {f : α → Option β} {j : Nat} {b : β} (hj : j < l.length) (h : f l[j] = some b) : (l.drop j).findSome? f = some b := by
  rw [drop_cons hj, List.findSome?_cons, h]
theorem findSome_end {α β : Type} {l : List α} {f : α → Option β} {j : Nat} (hj : l.length ≤ j) : (l.drop j).findSome? f = none := by
  rw [List.drop_eq_nil_of_le hj]; rfl
theorem find_items {q : S → Bool} (l : List Item) : (l.find? fun it => q it.s).map (fun it => it.s.id) = ((l.map Item.s).find? q).map S.id := by
  rw [List.find?_map]
  cases h : l.find? (q ∘ Item.s) with
  | none => rw [show (l.find? fun it => q it.s) = none from h]; rfl
  | some i => rw [show (l.find? fun it => q it.s) = some i from h]; rfl
theorem item_args {l : List Pr} {j : Nat} (hj : j < l.length) (h : wPr l[j] ≤ 20000) {a b c d : Int} {n k : Nat} (hk : k < (itL a b c d n l[j].body).length) : (itL a b c d n l[j].body)[k].s.args.length ≤ 20000 := by
  have hm : (itL a b c d n l[j].body)[k].s ∈ flL l[j].body := by
    rw [← itL_s a b c d n]
    exact List.mem_map.2 ⟨_, List.getElem_mem hk, rfl⟩
  have h1 := flL_w _ _ hm
  have h2 := wS_eq (itL a b c d n l[j].body)[k].s
  have h3 := wArgs_len (itL a b c d n l[j].body)[k].s.args
  unfold wPr at h
  omega
theorem RetK.fault {H : Heap} {a b c d : Int} (h : a = c) (h' : b = d) : RetK H (.p (.agg [.int .i64 a, .int .i64 b])) (fun r => r = eFault c d) := ⟨_, .p (Sub.refl _), by rw [h, h']; rfl⟩
set_option maxHeartbeats 2000000 in
set_option maxRecDepth 100000 in
theorem scope_Check (p : Pg) (hf : Fit p) : SpecP Tryz.prog 118 [.agg p.cells] (fun r => r = eFault (scopeB p).1 (scopeB p).2) := by
  refine SpecP.body I_scope_Check tabOK Tryz.func118 rfl Tryz.call118 (by show 1 ≤ _; decide) ?_
  conv => whnf
  repeat' (
    first
    | (intro (_ : _ ≤ 9223372036854775807); conv => whnf)
    | (refine Br.dec (fun _ => ?_) (fun _ => ?_) <;> first | (exfalso; omega) | conv => whnf)
    | (refine Br.dec2 (fun _ => ?_) (fun _ => ?_) <;> first | (exfalso; omega) | conv => whnf)
    | (refine DrawK.auto tabOK mixed (by kernel_rfl) ?_; conv => whnf)
    | (refine Br.n (fun _ => ?_) (fun _ => ?_) <;> conv => whnf)
    | (refine Br.b (fun _ => ?_) (fun _ => ?_) <;> conv => whnf)
    | (refine CallK.pure (tree_May _) (by repeat' (first | exact ArgP.nil | refine ArgP.cons ?_ ?_ | exact Sub.refl _ | exact Sub.tt rfl | exact Sub.ff rfl)) ?_; rintro _ rfl; conv => whnf)
    | (refine And.intro rfl ?_; conv => whnf)
    | (refine And.intro ⟨by decide, by decide⟩ ?_; conv => whnf)
    | (refine And.intro ⟨rfl, rfl, by decide⟩ ?_; conv => whnf)
    | (refine BsK.pure (fun x hx => by rcases List.mem_singleton.1 hx with rfl; rfl) rfl ?_; conv => whnf)
    | (refine IdxK.map (by omega) (fun _ => rfl) ?_; conv => whnf)
    | (refine IdxK.xs (by omega) ?_; conv => whnf)
    | (refine IdxK.ss (by omega) ?_; conv => whnf)
    | (refine ByteK.at (by omega) ?_; conv => whnf)
    | (refine Wr.i64 (by omega) (by omega) ?_; conv => whnf))
  rotate_left 1
  · exact RetK.fault (by simp [scopeB, *]) (by simp [scopeB, *])
  have hm : mayB p = true := by assumption
  obtain ⟨hg, hpl, hcn⟩ := mayB_cnt hm
  have hl : (p.procs.map fun f => AV.agg f.cells).length = p.procs.length := List.length_map _
  have hnl : (procsN p).length = p.procs.length := by simp [procsN]
  refine LoopK.inv tabOK (fun i : Nat × List Str => ⟨[(1, .p (.ip p.cells)), (2, .ptr 1 0), (3, .hd 0 0 i.2.length), (18, .p (.sl (p.procs.map fun f => .agg f.cells))), (19, .p (.int .i64 (p.procs.map fun f => AV.agg f.cells).length)), (20, .p (.int .i64 i.1))], [(0, .own 9 1 (i.2.map .str)), (1, .obj 96 [.p (.int .i64 0), .p (.int .i64 0)])]⟩)
    (fun i => i.1 ≤ p.procs.length ∧ i.2 = (procsN p).take i.1) (fun i => p.procs.length - i.1) (0, [])
    (Le.mk [(0, .own 9 1 [])] (by simp [Chunk.new0]; rfl) (by simp) (by simp) (.cons (.refl _) (.cons (.refl _) (.cons (.nil List.mem_cons_self) (.cons (.refl _) (.cons (.refl _) (.cons (.refl _) .nil)))))) (.new List.mem_cons_self (.cons rfl (.refl _) .nil)))
    ⟨Nat.zero_le _, by simp⟩ ?_
  rintro ⟨j, acc⟩ ⟨h2, h3⟩
  simp only at h2 h3 ⊢
  have hal : acc.length ≤ 16 := by rw [h3]; simp; omega
  conv => whnf
  repeat' (
    first
    | (intro (_ : _ ≤ 9223372036854775807); conv => whnf)
    | (refine Br.dec (fun _ => ?_) (fun _ => ?_) <;> first | (exfalso; omega) | conv => whnf)
    | (refine Br.dec2 (fun _ => ?_) (fun _ => ?_) <;> first | (exfalso; omega) | conv => whnf)
    | (refine DrawK.auto tabOK mixed (by kernel_rfl) ?_; conv => whnf)
    | (refine Br.n (fun _ => ?_) (fun _ => ?_) <;> conv => whnf)
    | (refine Br.b (fun _ => ?_) (fun _ => ?_) <;> conv => whnf)
    | (refine And.intro rfl ?_; conv => whnf)
    | (refine And.intro ⟨by decide, by decide⟩ ?_; conv => whnf)
    | (refine And.intro ⟨rfl, rfl, by decide⟩ ?_; conv => whnf)
    | (refine BsK.pure (fun x hx => by rcases List.mem_singleton.1 hx with rfl; rfl) rfl ?_; conv => whnf)
    | (refine IdxK.map (by omega) (fun _ => rfl) ?_; conv => whnf)
    | (refine IdxK.xs (by omega) ?_; conv => whnf)
    | (refine IdxK.ss (by omega) ?_; conv => whnf)
    | (refine ByteK.at (by omega) ?_; conv => whnf)
    | (refine Wr.i64 (by omega) (by omega) ?_; conv => whnf)
    | (refine AppK.str1 (by simp) (by simp; omega) ?_; conv => whnf)
    | (refine CallK.borrow (slices_Index_string_string_ acc mainS) (.cons (.hd rfl (by simp)) (.cons (.p (Sub.refl _)) .nil)) (by rintro _ rfl; rfl) ?_; rintro _ rfl; conv => whnf)
    | (refine CallK.borrow (scope_twice acc) (.cons (.hd rfl (by simp)) .nil) (by rintro _ rfl; rfl) ?_; rintro _ rfl; conv => whnf)
    | (refine CallK.pure (scope_twice _) (.cons (Sub.refl _) .nil) ?_; rintro _ rfl; conv => whnf))
  · exact ⟨(j + 1, acc ++ [p.procs[j].name]), ⟨by simp only; omega, by simp only; rw [h3, List.take_succ_eq_append_getElem (by omega)]; simp [procsN]⟩, by simp only; omega, Le.of_eq (by simp only [List.length_append, List.map_append]; rfl)⟩
  all_goals
    have hacc : acc = procsN p := by rw [h3, List.take_of_length_le (by omega)]
    clear h3
    subst hacc
  · have hb : mainBad p = true := by unfold mainBad; rw [show twiceB p.globals = true by assumption]; rfl
    exact RetK.fault (by unfold scopeB; rw [hm, hb]; rfl) (by unfold scopeB; rw [hm, hb]; rfl)
  · have hb : mainBad p = true := by unfold mainBad; rw [show twiceB p.globals = false by assumption, show twiceB (procsN p) = true by assumption]; rfl
    exact RetK.fault (by unfold scopeB; rw [hm, hb]; rfl) (by unfold scopeB; rw [hm, hb]; rfl)
  · have hany : ((procsN p).any fun s => mainS == s) = false := by
      rw [← idxF_ge]
      simp
      omega
    have hb : mainBad p = true := by unfold mainBad; rw [show twiceB p.globals = false by assumption, show twiceB (procsN p) = false by assumption, hany]; rfl
    exact RetK.fault (by unfold scopeB; rw [hm, hb]; rfl) (by unfold scopeB; rw [hm, hb]; rfl)
  have hany : ((procsN p).any fun s => mainS == s) = true := by
    rw [← idxF_ge]
    simp
    omega
  obtain ⟨k, hk, hik, hfind⟩ := main_idx hany
  have hlk : (p.procs.map fun f => AV.agg f.cells)[k]? = some (.agg p.procs[k].cells) := by simp [hk]
  have hpl2 : (p.procs[k].params.map fun a => AV.agg a.cells).length = p.procs[k].params.length := List.length_map _
  refine IdxK.at hik hlk rfl ?_
  conv => whnf
  repeat' (
    first
    | (intro (_ : _ ≤ 9223372036854775807); conv => whnf)
    | (refine Br.dec (fun _ => ?_) (fun _ => ?_) <;> first | (exfalso; omega) | conv => whnf)
    | (refine Br.dec2 (fun _ => ?_) (fun _ => ?_) <;> first | (exfalso; omega) | conv => whnf)
    | (refine DrawK.auto tabOK mixed (by kernel_rfl) ?_; conv => whnf)
    | (refine Br.n (fun _ => ?_) (fun _ => ?_) <;> conv => whnf)
    | (refine Br.b (fun _ => ?_) (fun _ => ?_) <;> conv => whnf)
    | (refine And.intro rfl ?_; conv => whnf)
    | (refine And.intro ⟨by decide, by decide⟩ ?_; conv => whnf)
    | (refine And.intro ⟨rfl, rfl, by decide⟩ ?_; conv => whnf)
    | (refine BsK.pure (fun x hx => by rcases List.mem_singleton.1 hx with rfl; rfl) rfl ?_; conv => whnf)
    | (refine IdxK.map (by omega) (fun _ => rfl) ?_; conv => whnf)
    | (refine IdxK.xs (by omega) ?_; conv => whnf)
    | (refine IdxK.ss (by omega) ?_; conv => whnf)
    | (refine ByteK.at (by omega) ?_; conv => whnf)
    | (refine Wr.i64 (by omega) (by omega) ?_; conv => whnf)
    | (refine CallK.pure (flat_New p (by omega) (by omega)) (.cons (Sub.refl _) .nil) ?_; rintro _ rfl; conv => whnf))
  · have hb : mainBad p = true := by
      unfold mainBad
      rw [show twiceB p.globals = false by assumption, show twiceB (procsN p) = false by assumption, hany, hfind]
      have : 0 < p.procs[k].params.length := by omega
      simp [this]
    exact RetK.fault (by unfold scopeB; rw [hm, hb]; rfl) (by unfold scopeB; rw [hm, hb]; rfl)
  have hb : mainBad p = false := by
    unfold mainBad
    rw [show twiceB p.globals = false by assumption, show twiceB (procsN p) = false by assumption, hany, hfind]
    have : ¬ 0 < p.procs[k].params.length := by omega
    simp [this]
  have hsc : scopeB p = match p.procs.findSome? (scopeAt p) with
    | some a => (5, a)
    | none => (0, 0) := by unfold scopeB; rw [hm, hb]; rfl
  rw [hsc]
  refine LoopK.inv tabOK (fun j : Nat => ⟨[(1, .p (.ip p.cells)), (2, .ptr 1 0), (3, .hd 0 0 (procsN p).length), (7, .p (.ip (sheetOf p).cells)), (57, .p (.sl (p.procs.map fun f => .agg f.cells))), (58, .p (.int .i64 (p.procs.map fun f => AV.agg f.cells).length)), (59, .p (.int .i64 j))], [(0, .own 9 1 ((procsN p).map .str)), (1, .obj 96 [.p (.int .i64 0), .p (.int .i64 0)])]⟩)
    (fun j => j ≤ p.procs.length ∧ (p.procs.drop j).findSome? (scopeAt p) = p.procs.findSome? (scopeAt p)) (fun j => p.procs.length - j) 0 (Le.of_eq rfl) ⟨Nat.zero_le _, rfl⟩ ?_
  clear h2 hik hfind hlk hpl2
  rintro j ⟨h2, h3⟩
  rcases Nat.lt_or_ge j p.procs.length with hj | hj
  rotate_left 1
  · have e : p.procs.findSome? (scopeAt p) = none := by rw [← h3, findSome_end hj]
    rw [e]
    conv => whnf
    repeat' (
      first
      | (intro (_ : _ ≤ 9223372036854775807); conv => whnf)
      | (refine Br.dec (fun _ => ?_) (fun _ => ?_) <;> first | (exfalso; omega) | conv => whnf)
      | (refine Br.dec2 (fun _ => ?_) (fun _ => ?_) <;> first | (exfalso; omega) | conv => whnf)
      | (refine DrawK.auto tabOK mixed (by kernel_rfl) ?_; conv => whnf)
      | (refine Br.n (fun _ => ?_) (fun _ => ?_) <;> conv => whnf)
      | (refine Br.b (fun _ => ?_) (fun _ => ?_) <;> conv => whnf)
      | (refine And.intro rfl ?_; conv => whnf)
      | (refine And.intro ⟨by decide, by decide⟩ ?_; conv => whnf)
      | (refine And.intro ⟨rfl, rfl, by decide⟩ ?_; conv => whnf)
      | (refine BsK.pure (fun x hx => by rcases List.mem_singleton.1 hx with rfl; rfl) rfl ?_; conv => whnf)
      | (refine IdxK.map (by omega) (fun _ => rfl) ?_; conv => whnf)
      | (refine IdxK.xs (by omega) ?_; conv => whnf)
      | (refine IdxK.ss (by omega) ?_; conv => whnf)
      | (refine ByteK.at (by omega) ?_; conv => whnf)
      | (refine Wr.i64 (by omega) (by omega) ?_; conv => whnf))
    exact RetK.fault rfl rfl
  have hfp := hf.pr (List.getElem_mem hj)
  have hmp := mayPr_iff.1 (mayB_pr hm (List.getElem_mem hj))
  conv => whnf
  repeat' (
    first
    | (intro (_ : _ ≤ 9223372036854775807); conv => whnf)
    | (refine Br.dec (fun _ => ?_) (fun _ => ?_) <;> first | (exfalso; omega) | conv => whnf)
    | (refine Br.dec2 (fun _ => ?_) (fun _ => ?_) <;> first | (exfalso; omega) | conv => whnf)
    | (refine DrawK.auto tabOK mixed (by kernel_rfl) ?_; conv => whnf)
    | (refine Br.n (fun _ => ?_) (fun _ => ?_) <;> conv => whnf)
    | (refine Br.b (fun _ => ?_) (fun _ => ?_) <;> conv => whnf)
    | (refine CallK.pure (scope_twice _) (by repeat' (first | exact ArgP.nil | refine ArgP.cons ?_ ?_ | exact Sub.refl _ | exact Sub.tt rfl | exact Sub.ff rfl)) ?_; rintro _ rfl; conv => whnf)
    | (refine And.intro rfl ?_; conv => whnf)
    | (refine And.intro ⟨by decide, by decide⟩ ?_; conv => whnf)
    | (refine And.intro ⟨rfl, rfl, by decide⟩ ?_; conv => whnf)
    | (refine BsK.pure (fun x hx => by rcases List.mem_singleton.1 hx with rfl; rfl) rfl ?_; conv => whnf)
    | (refine IdxK.map (by omega) (fun _ => rfl) ?_; conv => whnf)
    | (refine IdxK.xs (by omega) ?_; conv => whnf)
    | (refine IdxK.ss (by omega) ?_; conv => whnf)
    | (refine ByteK.at (by omega) ?_; conv => whnf)
    | (refine Wr.i64 (by omega) (by omega) ?_; conv => whnf)
    | (refine CallK.pure (scope_own (p.procs[j]'hj) (by have := hmp.1; omega) (by have := hmp.2.1; omega)) (.cons (Sub.refl _) .nil) ?_; rintro _ rfl; conv => whnf)
    | (refine CallK.pure (slices_ContainsFunc_string_string_ (ownL (p.procs[j]'hj)) 163 (.ip p.cells) (fun n => p.globals.any fun s => n == s) (scope_Check_1 p)) (.cons (Sub.refl _) (.cons (Sub.refl _) .nil)) ?_; rintro _ rfl; conv => whnf)
    | (refine CallK.pure (Of_at p (f := p.procs[j]'hj) (by simp) (by omega)) (.cons (Sub.refl _) (.cons (Sub.refl _) .nil)) ?_; rintro _ rfl; conv => whnf))
  · have e : scopeAt p p.procs[j] = some 0 := by
      unfold scopeAt
      rw [show twiceB (ownL p.procs[j]) = true by assumption]
      rfl
    have e2 := findSome_yes hj e
    rw [h3] at e2
    rw [e2]
    exact RetK.fault rfl rfl
  · have e : scopeAt p p.procs[j] = some 0 := by
      unfold scopeAt
      rw [show twiceB (ownL p.procs[j]) = false by assumption, show ((ownL p.procs[j]).any fun n => p.globals.any fun s => n == s) = true by assumption]
      rfl
    have e2 := findSome_yes hj e
    rw [h3] at e2
    rw [e2]
    exact RetK.fault rfl rfl
  have hsa : scopeAt p p.procs[j] = ((flL p.procs[j].body).find? fun t => !knownB p p.procs[j] (procsN p) t).map S.id := by
    unfold scopeAt
    rw [show twiceB (ownL p.procs[j]) = false by assumption, show ((ownL p.procs[j]).any fun n => p.globals.any fun s => n == s) = false by assumption]
    rfl
  have hitm : ∀ k (hk : k < (itL (j : Nat) 0 (-1) 0 (offN p.procs j) p.procs[j].body).length), (itL (j : Nat) 0 (-1) 0 (offN p.procs j) p.procs[j].body)[k].s.args.length ≤ 20000 := fun k hk => item_args hj hfp hk
  rw [← itL_s (j : Nat) 0 (-1) 0 (offN p.procs j), ← find_items] at hsa
  have hib : (itL (j : Nat) 0 (-1) 0 (offN p.procs j) p.procs[j].body).length ≤ 20000 := by
    have := cnt_wL p.procs[j].body
    unfold wPr at hfp
    rw [itL_len]
    omega
  generalize hits : itL (j : Nat) 0 (-1) 0 (offN p.procs j) p.procs[j].body = its at hsa hitm hib ⊢
  have hil := eItems_len its
  refine LoopK.inv tabOK (fun k : Nat => ⟨[(1, .p (.ip p.cells)), (2, .ptr 1 0), (3, .hd 0 0 (procsN p).length), (7, .p (.ip (sheetOf p).cells)), (9, .p (.ip (p.procs[j]'hj).cells)), (57, .p (.sl (p.procs.map fun f => .agg f.cells))), (58, .p (.int .i64 (p.procs.map fun f => AV.agg f.cells).length)), (59, .p (.int .i64 j)), (76, .p (eItems its)), (77, .p (.int .i64 (its.map fun i => AV.agg i.cells).length)), (78, .p (.int .i64 k))], [(0, .own 9 1 ((procsN p).map .str)), (1, .obj 96 [.p (.int .i64 0), .p (.int .i64 0)])]⟩)
    (fun k => k ≤ its.length ∧ (its.drop k).find? (fun it => !knownB p p.procs[j] (procsN p) it.s) = its.find? fun it => !knownB p p.procs[j] (procsN p) it.s) (fun k => its.length - k) 0 (Le.of_eq rfl) ⟨Nat.zero_le _, rfl⟩ ?_
  rintro k ⟨h5, h6⟩
  rcases Nat.lt_or_ge k its.length with hk | hk
  rotate_left 1
  · rw [← h6, find_end hk] at hsa
    conv => whnf
    repeat' (
      first
      | (intro (_ : _ ≤ 9223372036854775807); conv => whnf)
      | (refine Br.dec (fun _ => ?_) (fun _ => ?_) <;> first | (exfalso; omega) | conv => whnf)
      | (refine Br.dec2 (fun _ => ?_) (fun _ => ?_) <;> first | (exfalso; omega) | conv => whnf)
      | (refine DrawK.auto tabOK mixed (by kernel_rfl) ?_; conv => whnf)
      | (refine Br.n (fun _ => ?_) (fun _ => ?_) <;> conv => whnf)
      | (refine Br.b (fun _ => ?_) (fun _ => ?_) <;> conv => whnf)
      | (refine And.intro rfl ?_; conv => whnf)
      | (refine And.intro ⟨by decide, by decide⟩ ?_; conv => whnf)
      | (refine And.intro ⟨rfl, rfl, by decide⟩ ?_; conv => whnf)
      | (refine BsK.pure (fun x hx => by rcases List.mem_singleton.1 hx with rfl; rfl) rfl ?_; conv => whnf)
      | (refine IdxK.map (by omega) (fun _ => rfl) ?_; conv => whnf)
      | (refine IdxK.xs (by omega) ?_; conv => whnf)
      | (refine IdxK.ss (by omega) ?_; conv => whnf)
      | (refine ByteK.at (by omega) ?_; conv => whnf)
      | (refine Wr.i64 (by omega) (by omega) ?_; conv => whnf))
    exact ⟨j + 1, ⟨by omega, by rw [← h3, findSome_no hj hsa]⟩, by omega, Le.of_eq rfl⟩
  have hka := hitm k hk
  conv => whnf
  repeat' (
    first
    | (intro (_ : _ ≤ 9223372036854775807); conv => whnf)
    | (refine Br.dec (fun _ => ?_) (fun _ => ?_) <;> first | (exfalso; omega) | conv => whnf)
    | (refine Br.dec2 (fun _ => ?_) (fun _ => ?_) <;> first | (exfalso; omega) | conv => whnf)
    | (refine DrawK.auto tabOK mixed (by kernel_rfl) ?_; conv => whnf)
    | (refine Br.n (fun _ => ?_) (fun _ => ?_) <;> conv => whnf)
    | (refine Br.b (fun _ => ?_) (fun _ => ?_) <;> conv => whnf)
    | (refine And.intro rfl ?_; conv => whnf)
    | (refine And.intro ⟨by decide, by decide⟩ ?_; conv => whnf)
    | (refine And.intro ⟨rfl, rfl, by decide⟩ ?_; conv => whnf)
    | (refine BsK.pure (fun x hx => by rcases List.mem_singleton.1 hx with rfl; rfl) rfl ?_; conv => whnf)
    | (refine IdxK.map (by omega) (fun _ => rfl) ?_; conv => whnf)
    | (refine IdxK.xs (by omega) ?_; conv => whnf)
    | (refine IdxK.ss (by omega) ?_; conv => whnf)
    | (refine ByteK.at (by omega) ?_; conv => whnf)
    | (refine Wr.i64 (by omega) (by omega) ?_; conv => whnf)
    | (refine CallK.borrow (scope_known p p.procs[j] (procsN p) its[k].s hka) (.cons (.p (Sub.refl _)) (.cons (.p (Sub.refl _)) (.cons (.hd rfl (by simp)) (.cons (.p (Sub.refl _)) .nil)))) (by rintro _ rfl; rfl) ?_; rintro _ rfl; conv => whnf))
  · exact ⟨k + 1, ⟨by omega, by rw [← h6, find_no (p := fun it : Item => !knownB p p.procs[j] (procsN p) it.s) hk (by simp; assumption)]⟩, by omega, Le.of_eq rfl⟩
  · have e3 := find_yes (p := fun it : Item => !knownB p p.procs[j] (procsN p) it.s) hk (by simp; assumption)
    rw [← h6, e3] at hsa
    have e2 := findSome_yes hj hsa
    rw [h3] at e2
    rw [e2]
    exact RetK.fault rfl rfl
end Go.Ab
namespace Go.Ab
open Go.Proofs
def asBL : LV → Option Bool
  | .p .tt => some true
  | .p .ff => some false
  | .p (.bool b) => some b
  | _ => none
theorem asBL_rep {σ : Mem} {β : Lab} {l : LV} {v : Value} {b : Bool} (h : RepL σ β l v) (hb : asBL l = some b) : v = .bool b := by
  cases h with
  | p h => cases h <;> simp [asBL] at hb <;> subst hb <;> rfl
  | _ => simp [asBL] at hb
/-- Two Booleans held against each other. -/
theorem ValO.boolNeq {P : Program} {T : Tab} {hr : Bool} {s : St} {o : Oper} {K : LV → Prop} (hT : TabOK P T) {t u : TypeId} {x y : Operand} (hop : o.op = .binOp .neq t x y u) {i : TyI} (ht : T.get t = some i) (hd : i.desc = .bool)
    {a b : Bool} (hx : asBL (evalO s.sl x) = some a) (hy : asBL (evalO s.sl y) = some b) (hK : K (.p (.bool (a != b)))) : ValO P hr s o K := by
  refine ⟨fun σ β ac w hs _ => ⟨_, .bool (a != b), hK, .p (.bool _), fun w' _ _ => ?_⟩⟩
  have h1 := asBL_rep (evalO_rep hs x) hx
  have h2 := asBL_rep (evalO_rep hs y) hy
  have hu := hT.of ht
  rw [hd] at hu
  have hg : (eqGuard .neq t x y (.bool a) (.bool b)).run P w' = .ok () w' := by unfold eqGuard; rfl
  have he : (Op.equal t (.bool a) (.bool b)).run P w' = .ok (a == b) w' := by
    have e : Op.equal t (.bool a) (.bool b) = Op.equalIn (9999 + 1) t (.bool a) (.bool b) := rfl
    rw [e, Op.equalIn, Sem.run_bind, run_underlying hu, Result.andThen_ok]
    rfl
  simp only [execOp, hop, h1, h2, Sem.run_bind, hg, Result.andThen_ok, binOp]
  simp [he]
  cases a <;> cases b <;> rfl
def sameB (l : List Param) (args : List Arg) : Bool := decide (l.map Param.ref = args.map Arg.ref)
set_option maxRecDepth 100000 in
theorem arity_same (l : List Param) (args : List Arg) : SpecP Tryz.prog 220 [.sl (l.map fun a => .agg a.cells), eArgs args] (fun r => r = .bool (sameB l args)) := by
  refine SpecP.body I_arity_same tabOK Tryz.func220 rfl Tryz.call220 (by show 2 ≤ _; decide) ?_
  conv => whnf
  repeat' (
    first
    | (intro (_ : _ ≤ 9223372036854775807); conv => whnf)
    | (refine Br.dec (fun _ => ?_) (fun _ => ?_) <;> first | (exfalso; omega) | conv => whnf)
    | (refine Br.dec2 (fun _ => ?_) (fun _ => ?_) <;> first | (exfalso; omega) | conv => whnf)
    | (refine DrawK.auto tabOK mixed (by kernel_rfl) ?_; conv => whnf)
    | (refine Br.n (fun _ => ?_) (fun _ => ?_) <;> conv => whnf)
    | (refine Br.b (fun _ => ?_) (fun _ => ?_) <;> conv => whnf)
    | (refine And.intro rfl ?_; conv => whnf)
    | (refine And.intro ⟨by decide, by decide⟩ ?_; conv => whnf)
    | (refine And.intro ⟨rfl, rfl, by decide⟩ ?_; conv => whnf)
    | (refine BsK.pure (fun x hx => by rcases List.mem_singleton.1 hx with rfl; rfl) rfl ?_; conv => whnf)
    | (refine IdxK.map (by omega) (fun _ => rfl) ?_; conv => whnf)
    | (refine IdxK.xs (by omega) ?_; conv => whnf)
    | (refine IdxK.ss (by omega) ?_; conv => whnf)
    | (refine ByteK.at (by omega) ?_; conv => whnf)
    | (refine Wr.i64 (by omega) (by omega) ?_; conv => whnf))
  all_goals
    have hl : (l.map fun a => AV.agg a.cells).length = l.length := List.length_map _
    have hl2 : (args.map fun a => AV.agg a.cells).length = args.length := List.length_map _
  · have hlen : l.length = args.length := by omega
    refine LoopK.inv tabOK (fun j : Nat => ⟨[(1, .p (eArgs args)), (12, .p (.sl (l.map fun a => .agg a.cells))), (13, .p (.int .i64 (l.map fun a => AV.agg a.cells).length)), (14, .p (.int .i64 j))], []⟩) (fun j => j ≤ l.length ∧ (l.map Param.ref).take j = (args.map Arg.ref).take j) (fun j => l.length - j) 0 (Le.of_eq rfl) ⟨Nat.zero_le _, rfl⟩ ?_
    rintro j ⟨h2, h3⟩
    rcases Nat.lt_or_ge j l.length with hj | hj
    · conv => whnf
      repeat' (
        first
        | (intro (_ : _ ≤ 9223372036854775807); conv => whnf)
        | (refine Br.dec (fun _ => ?_) (fun _ => ?_) <;> first | (exfalso; omega) | conv => whnf)
        | (refine Br.dec2 (fun _ => ?_) (fun _ => ?_) <;> first | (exfalso; omega) | conv => whnf)
        | (refine DrawK.auto tabOK mixed (by kernel_rfl) ?_; conv => whnf)
        | (refine Br.n (fun _ => ?_) (fun _ => ?_) <;> conv => whnf)
        | (refine Br.b (fun _ => ?_) (fun _ => ?_) <;> conv => whnf)
        | (refine And.intro rfl ?_; conv => whnf)
        | (refine And.intro ⟨by decide, by decide⟩ ?_; conv => whnf)
        | (refine And.intro ⟨rfl, rfl, by decide⟩ ?_; conv => whnf)
        | (refine BsK.pure (fun x hx => by rcases List.mem_singleton.1 hx with rfl; rfl) rfl ?_; conv => whnf)
        | (refine IdxK.map (by omega) (fun _ => rfl) ?_; conv => whnf)
        | (refine IdxK.xs (by omega) ?_; conv => whnf)
        | (refine IdxK.ss (by omega) ?_; conv => whnf)
        | (refine ByteK.at (by omega) ?_; conv => whnf)
        | (refine Wr.i64 (by omega) (by omega) ?_; conv => whnf)
        | (refine ValO.boolNeq tabOK rfl rfl rfl rfl rfl ?_; conv => whnf))
      · have hne : l[j].ref = (args[j]'(by omega)).ref := by assumption
        exact ⟨j + 1, ⟨by omega, by
          rw [List.take_succ_eq_append_getElem (by simp; omega), List.take_succ_eq_append_getElem (by simp; omega), h3]
          simp [hne]⟩, by omega, Le.of_eq rfl⟩
      · have hne : ¬ l[j].ref = (args[j]'(by omega)).ref := by assumption
        exact RetK.ff (by
          unfold sameB
          rw [decide_eq_false_iff_not]
          intro he
          have : (l.map Param.ref)[j]? = (args.map Arg.ref)[j]? := by rw [he]
          rw [List.getElem?_map, List.getElem?_map, List.getElem?_eq_getElem hj, List.getElem?_eq_getElem (by omega)] at this
          simp at this
          exact hne this)
    · conv => whnf
      repeat' (
        first
        | (intro (_ : _ ≤ 9223372036854775807); conv => whnf)
        | (refine Br.dec (fun _ => ?_) (fun _ => ?_) <;> first | (exfalso; omega) | conv => whnf)
        | (refine Br.dec2 (fun _ => ?_) (fun _ => ?_) <;> first | (exfalso; omega) | conv => whnf)
        | (refine DrawK.auto tabOK mixed (by kernel_rfl) ?_; conv => whnf)
        | (refine Br.n (fun _ => ?_) (fun _ => ?_) <;> conv => whnf)
        | (refine Br.b (fun _ => ?_) (fun _ => ?_) <;> conv => whnf)
        | (refine And.intro rfl ?_; conv => whnf)
        | (refine And.intro ⟨by decide, by decide⟩ ?_; conv => whnf)
        | (refine And.intro ⟨rfl, rfl, by decide⟩ ?_; conv => whnf)
        | (refine BsK.pure (fun x hx => by rcases List.mem_singleton.1 hx with rfl; rfl) rfl ?_; conv => whnf)
        | (refine IdxK.map (by omega) (fun _ => rfl) ?_; conv => whnf)
        | (refine IdxK.xs (by omega) ?_; conv => whnf)
        | (refine IdxK.ss (by omega) ?_; conv => whnf)
        | (refine ByteK.at (by omega) ?_; conv => whnf)
        | (refine Wr.i64 (by omega) (by omega) ?_; conv => whnf))
      exact RetK.tt (by
        unfold sameB
        rw [decide_eq_true_eq]
        rwa [List.take_of_length_le (by simp; omega), List.take_of_length_le (by simp; omega)] at h3)
  · exact RetK.ff (by
      unfold sameB
      rw [decide_eq_false_iff_not]
      intro he
      have := congrArg List.length he
      simp at this
      omega)
def fitsB (p : Pg) (s : S) : Bool := decide (s.kind = 4) && match p.procs.find? (fun f => f.name == s.proc) with
  | some f => sameB f.params s.args
  | none => false
set_option maxRecDepth 100000 in
theorem arity_fits (p : Pg) (s : S) : SpecP Tryz.prog 165 [.agg p.cells, .agg s.cells] (fun r => r = .bool (fitsB p s)) := by
  refine SpecP.body I_arity_fits tabOK Tryz.func165 rfl Tryz.call165 (by show 2 ≤ _; decide) ?_
  conv => whnf
  repeat' (
    first
    | (intro (_ : _ ≤ 9223372036854775807); conv => whnf)
    | (refine Br.dec (fun _ => ?_) (fun _ => ?_) <;> first | (exfalso; omega) | conv => whnf)
    | (refine Br.dec2 (fun _ => ?_) (fun _ => ?_) <;> first | (exfalso; omega) | conv => whnf)
    | (refine DrawK.auto tabOK mixed (by kernel_rfl) ?_; conv => whnf)
    | (refine Br.n (fun _ => ?_) (fun _ => ?_) <;> conv => whnf)
    | (refine Br.b (fun _ => ?_) (fun _ => ?_) <;> conv => whnf)
    | (refine And.intro rfl ?_; conv => whnf)
    | (refine And.intro ⟨by decide, by decide⟩ ?_; conv => whnf)
    | (refine And.intro ⟨rfl, rfl, by decide⟩ ?_; conv => whnf)
    | (refine BsK.pure (fun x hx => by rcases List.mem_singleton.1 hx with rfl; rfl) rfl ?_; conv => whnf)
    | (refine IdxK.map (by omega) (fun _ => rfl) ?_; conv => whnf)
    | (refine IdxK.xs (by omega) ?_; conv => whnf)
    | (refine IdxK.ss (by omega) ?_; conv => whnf)
    | (refine ByteK.at (by omega) ?_; conv => whnf)
    | (refine Wr.i64 (by omega) (by omega) ?_; conv => whnf))
  · have hl : (p.procs.map fun f => AV.agg f.cells).length = p.procs.length := List.length_map _
    refine LoopK.inv tabOK (fun j : Nat => ⟨[(3, .p (.ip s.cells)), (11, .p (.sl (p.procs.map fun f => .agg f.cells))), (12, .p (.int .i64 (p.procs.map fun f => AV.agg f.cells).length)), (13, .p (.int .i64 j))], []⟩) (fun j => j ≤ p.procs.length ∧ (p.procs.drop j).find? (fun f => f.name == s.proc) = p.procs.find? (fun f => f.name == s.proc)) (fun j => p.procs.length - j) 0 (Le.of_eq rfl) ⟨Nat.zero_le _, rfl⟩ ?_
    rintro j ⟨h2, h3⟩
    conv => whnf
    repeat' (
      first
      | (intro (_ : _ ≤ 9223372036854775807); conv => whnf)
      | (refine Br.dec (fun _ => ?_) (fun _ => ?_) <;> first | (exfalso; omega) | conv => whnf)
      | (refine Br.dec2 (fun _ => ?_) (fun _ => ?_) <;> first | (exfalso; omega) | conv => whnf)
      | (refine DrawK.auto tabOK mixed (by kernel_rfl) ?_; conv => whnf)
      | (refine Br.n (fun _ => ?_) (fun _ => ?_) <;> conv => whnf)
      | (refine Br.b (fun _ => ?_) (fun _ => ?_) <;> conv => whnf)
      | (refine CallK.pure (arity_same _ _) (by repeat' (first | exact ArgP.nil | refine ArgP.cons ?_ ?_ | exact Sub.refl _ | exact Sub.tt rfl | exact Sub.ff rfl)) ?_; rintro _ rfl; conv => whnf)
      | (refine And.intro rfl ?_; conv => whnf)
      | (refine And.intro ⟨by decide, by decide⟩ ?_; conv => whnf)
      | (refine And.intro ⟨rfl, rfl, by decide⟩ ?_; conv => whnf)
      | (refine BsK.pure (fun x hx => by rcases List.mem_singleton.1 hx with rfl; rfl) rfl ?_; conv => whnf)
      | (refine IdxK.map (by omega) (fun _ => rfl) ?_; conv => whnf)
      | (refine IdxK.xs (by omega) ?_; conv => whnf)
      | (refine IdxK.ss (by omega) ?_; conv => whnf)
      | (refine ByteK.at (by omega) ?_; conv => whnf)
      | (refine Wr.i64 (by omega) (by omega) ?_; conv => whnf))
    · have e := find_yes (p := fun f : Pr => f.name == s.proc) (l := p.procs) (j := j) (by omega) (by assumption)
      rw [h3] at e
      exact RetK.bool (by unfold fitsB; rw [e]; simp [*])
    · exact ⟨j + 1, ⟨by omega, by rw [← h3, find_no (p := fun f : Pr => f.name == s.proc) (by omega) (by assumption)]⟩, by omega, Le.of_eq rfl⟩
    · have e : p.procs.find? (fun f => f.name == s.proc) = none := by rw [← h3, find_end (by omega)]
      exact RetK.ff (by unfold fitsB; rw [e]; simp)
  · exact RetK.ff (by unfold fitsB; simp [*])
def stmts (p : Pg) : List S := p.procs.flatMap fun f => flL f.body
theorem newL_s : ∀ (l : List Pr) (i : Nat) (acc : List Item) (lo hi : List Int), (newL i acc lo hi l).1.map Item.s = acc.map Item.s ++ l.flatMap fun f => flL f.body
  | [], i, acc, lo, hi => by rw [newL]; simp
  | f :: r, i, acc, lo, hi => by
    rw [newL, newL_s r, rowsF_it, List.map_append, itL_s, List.flatMap_cons, List.append_assoc]
theorem sheet_s (p : Pg) : (sheetOf p).l.map Item.s = stmts p := by
  have := newL_s p.procs 0 [] [] []
  unfold sheetOf stmts
  simpa using this
theorem sheet_args {p : Pg} (hf : Fit p) {k : Nat} (hk : k < (sheetOf p).l.length) : wS (sheetOf p).l[k].s ≤ 20000 := by
  have hm : (sheetOf p).l[k].s ∈ stmts p := by
    rw [← sheet_s]
    exact List.mem_map.2 ⟨_, List.getElem_mem hk, rfl⟩
  unfold stmts at hm
  obtain ⟨f, h1, h2⟩ := List.mem_flatMap.1 hm
  have h3 := flL_w _ _ h2
  have h4 := hf.pr h1
  unfold wPr at h4
  omega
def arityB (p : Pg) : Int × Int :=
  if (scopeB p).1 ≠ 0 then (1, 0) else match (stmts p).find? fun t => decide (t.kind = 4) && !fitsB p t with
    | some t => (6, t.id)
    | none => (0, 0)
theorem scope_ok {p : Pg} (h : (scopeB p).1 = 0) : mayB p = true ∧ mainBad p = false ∧ p.procs.findSome? (scopeAt p) = none := by
  unfold scopeB at h
  cases hm : mayB p <;> rw [hm] at h
  · cases h
  cases hb : mainBad p <;> rw [hb] at h
  · refine ⟨rfl, rfl, ?_⟩
    simp only [cond_true, cond_false] at h
    split at h
    · cases h
    · assumption
  · cases h
set_option maxHeartbeats 2000000 in
set_option maxRecDepth 100000 in
theorem arity_Check (p : Pg) (hf : Fit p) : SpecP Tryz.prog 119 [.agg p.cells] (fun r => r = eFault (arityB p).1 (arityB p).2) := by
  refine SpecP.body I_arity_Check tabOK Tryz.func119 rfl Tryz.call119 (by show 1 ≤ _; decide) ?_
  conv => whnf
  repeat' (
    first
    | (intro (_ : _ ≤ 9223372036854775807); conv => whnf)
    | (refine Br.dec (fun _ => ?_) (fun _ => ?_) <;> first | (exfalso; omega) | conv => whnf)
    | (refine Br.dec2 (fun _ => ?_) (fun _ => ?_) <;> first | (exfalso; omega) | conv => whnf)
    | (refine DrawK.auto tabOK mixed (by kernel_rfl) ?_; conv => whnf)
    | (refine Br.n (fun _ => ?_) (fun _ => ?_) <;> conv => whnf)
    | (refine Br.b (fun _ => ?_) (fun _ => ?_) <;> conv => whnf)
    | (refine CallK.pure (scope_Check p hf) (by repeat' (first | exact ArgP.nil | refine ArgP.cons ?_ ?_ | exact Sub.refl _ | exact Sub.tt rfl | exact Sub.ff rfl | exact Sub.int (by omega))) ?_; rintro _ rfl; conv => whnf)
    | (refine And.intro rfl ?_; conv => whnf)
    | (refine And.intro ⟨by decide, by decide⟩ ?_; conv => whnf)
    | (refine And.intro ⟨rfl, rfl, by decide⟩ ?_; conv => whnf)
    | (refine BsK.pure (fun x hx => by rcases List.mem_singleton.1 hx with rfl; rfl) rfl ?_; conv => whnf)
    | (refine IdxK.map (by omega) (fun _ => rfl) ?_; conv => whnf)
    | (refine IdxK.xs (by omega) ?_; conv => whnf)
    | (refine IdxK.ss (by omega) ?_; conv => whnf)
    | (refine ByteK.at (by omega) ?_; conv => whnf)
    | (refine Wr.i64 (by omega) (by omega) ?_; conv => whnf))
  rotate_left 1
  · have e : arityB p = (1, 0) := by unfold arityB; rw [if_pos (by assumption)]
    exact RetK.fault (by rw [e]) (by rw [e])
  have hs : (scopeB p).1 = 0 := by assumption
  obtain ⟨hm, hb, hns⟩ := scope_ok hs
  obtain ⟨hg, hpl, hcn⟩ := mayB_cnt hm
  have hA : arityB p = match (stmts p).find? fun t => decide (t.kind = 4) && !fitsB p t with
    | some t => (6, t.id)
    | none => (0, 0) := by unfold arityB; rw [if_neg (by omega)]
  repeat' (
    first
    | (intro (_ : _ ≤ 9223372036854775807); conv => whnf)
    | (refine Br.dec (fun _ => ?_) (fun _ => ?_) <;> first | (exfalso; omega) | conv => whnf)
    | (refine Br.dec2 (fun _ => ?_) (fun _ => ?_) <;> first | (exfalso; omega) | conv => whnf)
    | (refine DrawK.auto tabOK mixed (by kernel_rfl) ?_; conv => whnf)
    | (refine Br.n (fun _ => ?_) (fun _ => ?_) <;> conv => whnf)
    | (refine Br.b (fun _ => ?_) (fun _ => ?_) <;> conv => whnf)
    | (refine And.intro rfl ?_; conv => whnf)
    | (refine And.intro ⟨by decide, by decide⟩ ?_; conv => whnf)
    | (refine And.intro ⟨rfl, rfl, by decide⟩ ?_; conv => whnf)
    | (refine BsK.pure (fun x hx => by rcases List.mem_singleton.1 hx with rfl; rfl) rfl ?_; conv => whnf)
    | (refine IdxK.map (by omega) (fun _ => rfl) ?_; conv => whnf)
    | (refine IdxK.xs (by omega) ?_; conv => whnf)
    | (refine IdxK.ss (by omega) ?_; conv => whnf)
    | (refine ByteK.at (by omega) ?_; conv => whnf)
    | (refine Wr.i64 (by omega) (by omega) ?_; conv => whnf)
    | (refine CallK.pure (flat_New p (by omega) (by omega)) (.cons (Sub.refl _) .nil) ?_; rintro _ rfl; conv => whnf))
  have hil := eItems_len (sheetOf p).l
  have hib : (sheetOf p).l.length ≤ 200 := by have := (sheet_spec p).2.2.2.1; omega
  have hfi := find_items (q := fun t => decide (t.kind = 4) && !fitsB p t) (sheetOf p).l
  rw [sheet_s] at hfi
  have hA2 : arityB p = match ((sheetOf p).l.find? fun it => decide (it.s.kind = 4) && !fitsB p it.s).map (fun it => it.s.id) with
    | some a => (6, a)
    | none => (0, 0) := by
    rw [hA, hfi]
    cases (stmts p).find? fun t => decide (t.kind = 4) && !fitsB p t <;> rfl
  rw [hA2]
  refine LoopK.inv tabOK (fun k : Nat => ⟨[(1, .p (.ip p.cells)), (2, .ptr 1 0), (14, .p (eItems (sheetOf p).l)), (15, .p (.int .i64 ((sheetOf p).l.map fun i => AV.agg i.cells).length)), (16, .p (.int .i64 k))], [(1, .obj 96 [.p (.int .i64 0), .p (.int .i64 0)])]⟩)
    (fun k => k ≤ (sheetOf p).l.length ∧ ((sheetOf p).l.drop k).find? (fun it => decide (it.s.kind = 4) && !fitsB p it.s) = (sheetOf p).l.find? fun it => decide (it.s.kind = 4) && !fitsB p it.s) (fun k => (sheetOf p).l.length - k) 0 (Le.of_eq rfl) ⟨Nat.zero_le _, rfl⟩ ?_
  rintro k ⟨h5, h6⟩
  rcases Nat.lt_or_ge k (sheetOf p).l.length with hk | hk
  rotate_left 1
  · rw [← h6, find_end hk]
    conv => whnf
    repeat' (
      first
      | (intro (_ : _ ≤ 9223372036854775807); conv => whnf)
      | (refine Br.dec (fun _ => ?_) (fun _ => ?_) <;> first | (exfalso; omega) | conv => whnf)
      | (refine Br.dec2 (fun _ => ?_) (fun _ => ?_) <;> first | (exfalso; omega) | conv => whnf)
      | (refine DrawK.auto tabOK mixed (by kernel_rfl) ?_; conv => whnf)
      | (refine Br.n (fun _ => ?_) (fun _ => ?_) <;> conv => whnf)
      | (refine Br.b (fun _ => ?_) (fun _ => ?_) <;> conv => whnf)
      | (refine And.intro rfl ?_; conv => whnf)
      | (refine And.intro ⟨by decide, by decide⟩ ?_; conv => whnf)
      | (refine And.intro ⟨rfl, rfl, by decide⟩ ?_; conv => whnf)
      | (refine BsK.pure (fun x hx => by rcases List.mem_singleton.1 hx with rfl; rfl) rfl ?_; conv => whnf)
      | (refine IdxK.map (by omega) (fun _ => rfl) ?_; conv => whnf)
      | (refine IdxK.xs (by omega) ?_; conv => whnf)
      | (refine IdxK.ss (by omega) ?_; conv => whnf)
      | (refine ByteK.at (by omega) ?_; conv => whnf)
      | (refine Wr.i64 (by omega) (by omega) ?_; conv => whnf))
    exact RetK.fault rfl rfl
  conv => whnf
  repeat' (
    first
    | (intro (_ : _ ≤ 9223372036854775807); conv => whnf)
    | (refine Br.dec (fun _ => ?_) (fun _ => ?_) <;> first | (exfalso; omega) | conv => whnf)
    | (refine Br.dec2 (fun _ => ?_) (fun _ => ?_) <;> first | (exfalso; omega) | conv => whnf)
    | (refine DrawK.auto tabOK mixed (by kernel_rfl) ?_; conv => whnf)
    | (refine Br.n (fun _ => ?_) (fun _ => ?_) <;> conv => whnf)
    | (refine Br.b (fun _ => ?_) (fun _ => ?_) <;> conv => whnf)
    | (refine CallK.pure (arity_fits _ _) (by repeat' (first | exact ArgP.nil | refine ArgP.cons ?_ ?_ | exact Sub.refl _ | exact Sub.tt rfl | exact Sub.ff rfl)) ?_; rintro _ rfl; conv => whnf)
    | (refine And.intro rfl ?_; conv => whnf)
    | (refine And.intro ⟨by decide, by decide⟩ ?_; conv => whnf)
    | (refine And.intro ⟨rfl, rfl, by decide⟩ ?_; conv => whnf)
    | (refine BsK.pure (fun x hx => by rcases List.mem_singleton.1 hx with rfl; rfl) rfl ?_; conv => whnf)
    | (refine IdxK.map (by omega) (fun _ => rfl) ?_; conv => whnf)
    | (refine IdxK.xs (by omega) ?_; conv => whnf)
    | (refine IdxK.ss (by omega) ?_; conv => whnf)
    | (refine ByteK.at (by omega) ?_; conv => whnf)
    | (refine Wr.i64 (by omega) (by omega) ?_; conv => whnf))
  all_goals first
    | (have e3 := find_yes (p := fun it : Item => decide (it.s.kind = 4) && !fitsB p it.s) hk (by simp [*])
       rw [← h6, e3]
       exact RetK.fault rfl rfl)
    | exact ⟨k + 1, ⟨by omega, by rw [← h6, find_no (p := fun it : Item => decide (it.s.kind = 4) && !fitsB p it.s) hk (by simp [*])]⟩, by omega, Le.of_eq rfl⟩
end Go.Ab
