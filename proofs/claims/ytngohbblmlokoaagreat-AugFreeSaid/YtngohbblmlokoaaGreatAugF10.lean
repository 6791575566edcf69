/- The law of a program that may be: its statements are numbered in order; where they go on is a place of it. -/
import Derived.Test.YtngohbblmlokoaaGreatAugF9
set_option linter.unusedSimpArgs false
set_option linter.unusedVariables false
namespace Go.Ab
open Go.Proofs
def idsN (n c : Nat) : List Int := (List.range' (n + 1) c).map fun (k : Nat) => (k : Int)
theorem idsN_add (n a b : Nat) : idsN n (a + b) = idsN n a ++ idsN (n + a) b := by
  unfold idsN
  rw [← List.map_append, show n + a + 1 = n + 1 + 1 * a by omega, List.range'_append]
theorem idsN_one (n : Nat) : idsN n 1 = [((n + 1 : Nat) : Int)] := by simp [idsN]
mutual
theorem rowS_ids (nest : Int) : ∀ (t : S) {n : Nat} {m : Int}, rowS nest n t = some m → (flS t).map S.id = idsN n (cntS t)
  | .mk id kind labels name proc x has args thn els, n, m, h => by
    simp only [rowS] at h
    split at h
    · cases h
    split at h
    · cases h
    rename_i hid
    cases hn : namesB labels <;> rw [hn] at h
    · cases h
    cases hf : fieldsB (.mk id kind labels name proc x has args thn els) <;> rw [hf] at h
    · cases h
    simp only [cond_true] at h
    split at h
    · rename_i m1 h1
      have h1' : rowL (nest + 1) ((n + 1 : Nat) : Int) thn = some m1 := by rw [← h1]; rfl
      have h2 := rowL_cnt _ _ thn h1'
      have h3 := rowL_ids (nest + 1) thn h1'
      have h' : rowL (nest + 1) ((n + 1 + cntL thn : Nat) : Int) els = some m := by rw [← h, h2]; rfl
      have h4 := rowL_ids (nest + 1) els h'
      rw [flS, cntS, List.map_cons, List.map_append, h3, h4, show 1 + cntL thn + cntL els = 1 + (cntL thn + cntL els) by omega, idsN_add, idsN_one, idsN_add]
      have : id = ((n + 1 : Nat) : Int) := by omega
      rw [show (S.mk id kind labels name proc x has args thn els).id = id from rfl, this]
      rfl
    · cases h
theorem rowL_ids (nest : Int) : ∀ (l : List S) {n : Nat} {m : Int}, rowL nest n l = some m → (flL l).map S.id = idsN n (cntL l)
  | [], n, m, h => by rw [flL, cntL]; rfl
  | t :: r, n, m, h => by
    simp only [rowL] at h
    split at h
    · cases h
    split at h
    · rename_i m1 h1
      have h2 := rowS_cnt _ _ t h1
      have h3 := rowS_ids nest t h1
      have h' : rowL nest ((n + cntS t : Nat) : Int) r = some m := by rw [← h, h2]; rfl
      have h4 := rowL_ids nest r h'
      rw [flL, cntL, List.map_append, h3, h4, idsN_add]
    · cases h
end
theorem mayPrs_ids : ∀ (l : List Pr) {n : Nat} {m : Int}, mayPrs n l = some m → ∀ (j : Nat) (f : Pr), l[j]? = some f → (flL f.body).map S.id = idsN (n + offN l j) (cntL f.body)
  | [], _, _, _, j, f, hj => by simp at hj
  | g :: r, n, m, h, j, f, hj => by
    rw [mayPrs] at h
    cases hm : mayPr g <;> rw [hm] at h
    · cases h
    simp only [cond_true] at h
    split at h
    · rename_i m1 h1
      cases j with
      | zero =>
        simp at hj
        subst hj
        exact rowL_ids 1 g.body h1
      | succ j =>
        have h2 := rowL_cnt _ _ g.body h1
        have h' : mayPrs ((n + cntL g.body : Nat) : Int) r = some m := by rw [← h, h2]; rfl
        have := mayPrs_ids r h' j f (by simpa using hj)
        rw [offN, this, Nat.add_assoc]
    · cases h
/-- Statements are numbered in order. -/
theorem may_ids {p : Pg} (h : mayB p = true) {j : Nat} {f : Pr} (hj : p.procs[j]? = some f) : (flL f.body).map S.id = idsN (offN p.procs j) (cntL f.body) := by
  unfold mayB at h
  simp only [Bool.and_eq_true] at h
  cases hm : mayPrs 0 p.procs with
  | none => rw [hm] at h; cases h.2
  | some m =>
    have := mayPrs_ids p.procs (n := 0) hm j f hj
    simpa using this
theorem idsN_mem {n c : Nat} {a : Int} (h : a ∈ idsN n c) : (n : Int) + 1 ≤ a ∧ a ≤ n + c := by
  unfold idsN at h
  obtain ⟨k, hk, rfl⟩ := List.mem_map.1 h
  rw [List.mem_range'] at hk
  obtain ⟨i, hi, rfl⟩ := hk
  omega
/-- A place: the exit, or a statement's number between two. -/
def okI (lo hi : Nat) (x : Int) : Prop := x = -1 ∨ ((lo : Int) + 1 ≤ x ∧ x ≤ hi)
mutual
theorem itS_rng (proc : Int) (lo hi : Nat) : ∀ (t : S) (up nx loop : Int) (n : Nat) (it : Item), it ∈ itS proc up nx loop n t → okI lo hi nx → (loop = 0 ∨ ((lo : Int) + 1 ≤ loop ∧ loop ≤ hi)) → lo ≤ n → n + cntS t ≤ hi →
    okI lo hi it.next ∧ (it.loop = 0 ∨ ((lo : Int) + 1 ≤ it.loop ∧ it.loop ≤ hi))
  | .mk id kind labels name pr x has args thn els, up, nx, loop, n, it, h, h1, h2, h3, h4 => by
    rw [itS] at h
    rw [cntS] at h4
    rcases List.mem_cons.1 h with rfl | h
    · exact ⟨h1, h2⟩
    · have h5 : okI lo hi (if kind = 6 then ((n : Int) + 1) else nx) := by
        split
        · exact .inr ⟨by omega, by omega⟩
        · exact h1
      have h6 : (if kind = 6 then ((n : Int) + 1) else loop) = 0 ∨ ((lo : Int) + 1 ≤ (if kind = 6 then ((n : Int) + 1) else loop) ∧ (if kind = 6 then ((n : Int) + 1) else loop) ≤ hi) := by
        split
        · exact .inr ⟨by omega, by omega⟩
        · exact h2
      rcases List.mem_append.1 h with h | h
      · exact itL_rng proc lo hi thn _ _ _ _ it h h5 h6 (by omega) (by omega)
      · exact itL_rng proc lo hi els _ _ _ _ it h h5 h6 (by omega) (by omega)
theorem itL_rng (proc : Int) (lo hi : Nat) : ∀ (l : List S) (up nx loop : Int) (n : Nat) (it : Item), it ∈ itL proc up nx loop n l → okI lo hi nx → (loop = 0 ∨ ((lo : Int) + 1 ≤ loop ∧ loop ≤ hi)) → lo ≤ n → n + cntL l ≤ hi →
    okI lo hi it.next ∧ (it.loop = 0 ∨ ((lo : Int) + 1 ≤ it.loop ∧ it.loop ≤ hi))
  | [], up, nx, loop, n, it, h, h1, h2, h3, h4 => by rw [itL] at h; cases h
  | t :: r, up, nx, loop, n, it, h, h1, h2, h3, h4 => by
    rw [itL] at h
    rw [cntL] at h4
    rcases List.mem_append.1 h with h | h
    · refine itS_rng proc lo hi t _ _ _ _ it h ?_ h2 h3 (by omega)
      cases r with
      | nil => exact h1
      | cons u r =>
        have : 1 ≤ cntL (u :: r) := by rw [cntL, cntS_eq]; omega
        exact .inr ⟨by simp; omega, by simp; omega⟩
    · exact itL_rng proc lo hi r _ _ _ _ it h h1 h2 (by omega) (by omega)
end
theorem flL_self : ∀ (l : List S) (v : S), v ∈ l → v ∈ flL l
  | [], v, h => by cases h
  | t :: r, v, h => by
    rw [flL]
    rcases List.mem_cons.1 h with rfl | h
    · refine List.mem_append.2 (.inl ?_)
      rw [flS_eq]
      exact List.mem_cons_self
    · exact List.mem_append.2 (.inr (flL_self r v h))
end Go.Ab
namespace Go.Ab
open Go.Proofs
structure RI where
  s : S
  deep : Int
  inn : Int
  els : Bool
def RI.cells (i : RI) : List AV := i.s.cells ++ [.int .i64 i.deep, .int .i64 i.inn, .bool i.els]
theorem rowS_parts {nest seen m : Int} {s : S} (h : rowS nest seen s = some m) : oneOk s = true ∧ s.id = seen + 1 ∧ ∃ m1, rowL (nest + 1) (seen + 1) s.thn = some m1 ∧ rowL (nest + 1) m1 s.els = some m := by
  rw [rowS_eq] at h
  split at h
  · cases h
  split at h
  · cases h
  rename_i hid
  cases hn : namesB s.labels <;> rw [hn] at h
  · cases h
  cases hf : fieldsB s <;> rw [hf] at h
  · cases h
  simp only [cond_true] at h
  split at h
  · rename_i m1 h1
    exact ⟨by unfold oneOk; rw [hn, hf]; rfl, by omega, m1, h1, h⟩
  · cases h
theorem rowL_parts {nest seen m : Int} {s : S} {r : List S} (h : rowL nest seen (s :: r) = some m) : nest ≤ 12 ∧ ∃ m1, rowS nest seen s = some m1 ∧ rowL nest m1 r = some m := by
  rw [rowL] at h
  split at h
  · cases h
  rename_i h0
  split at h
  · rename_i m1 h1
    exact ⟨by omega, m1, h1, h⟩
  · cases h
theorem mayPrs_rows : ∀ (l : List Pr) {n m : Int}, mayPrs n l = some m → ∀ f ∈ l, mayPr f = true ∧ ∃ a b, rowL 1 a f.body = some b
  | [], _, _, _, f, hf => by cases hf
  | g :: r, n, m, h, f, hf => by
    rw [mayPrs] at h
    cases hm : mayPr g <;> rw [hm] at h
    · cases h
    simp only [cond_true] at h
    split at h
    · rename_i m1 h1
      rcases List.mem_cons.1 hf with rfl | hf
      · exact ⟨hm, _, _, h1⟩
      · exact mayPrs_rows r h f hf
    · cases h
theorem mayB_parts {p : Pg} (h : mayB p = true) : p.globals.length ≤ 16 ∧ p.procs.length ≤ 16 ∧ namesB p.globals = true ∧ ∀ f ∈ p.procs, mayPr f = true ∧ ∃ a b, rowL 1 a f.body = some b := by
  unfold mayB at h
  simp only [Bool.and_eq_true, decide_eq_true_eq] at h
  obtain ⟨⟨⟨h1, h2⟩, h3⟩, h4⟩ := h
  refine ⟨h1, h2, h3, ?_⟩
  cases hm : mayPrs 0 p.procs with
  | none => rw [hm] at h4; cases h4
  | some m => exact mayPrs_rows p.procs hm
theorem cntP_mem : ∀ (l : List Pr) (f : Pr), f ∈ l → cntL f.body ≤ cntP l
  | [], f, h => by cases h
  | g :: r, f, h => by
    rw [cntP]
    rcases List.mem_cons.1 h with rfl | h
    · omega
    · have := cntP_mem r f h
      omega
end Go.Ab
namespace Go.Ab
open Go.Proofs
end Go.Ab
namespace Go.Ab
open Go.Proofs
end Go.Ab
namespace Go.Ab
open Go.Proofs
def otherS (a b s : Str) : Str := if s == a then b else if s == b then a else s
set_option maxRecDepth 100000 in
theorem whittlerref3_texts (l : List Str) (hl : l.length ≤ 1000000) : SpecP Tryz.prog 88 [eStrs l] (fun r => r = eStrs l) := by
  refine SpecP.body I_whittlerref3_texts tabOK Tryz.func88 rfl Tryz.call88 (by show 1 ≤ _; decide) ?_
  conv => whnf
  have hlm : (l.map AV.str).length = l.length := List.length_map _
  repeat' (first | ((first | (intro (_ : _ ≤ 9223372036854775807)) | (refine DrawK.auto tabOK mixed (by kernel_rfl) ?_) | (refine And.intro rfl ?_) | (refine And.intro ⟨by decide, by decide⟩ ?_) | (refine And.intro ⟨rfl, rfl, by decide⟩ ?_) | (refine BsK.pure (fun x hx => by rcases List.mem_singleton.1 hx with rfl; rfl) rfl ?_) | (refine IdxK.map (by omega) (fun _ => rfl) ?_) | (refine IdxK.xs (by omega) ?_) | (refine IdxK.ss (by omega) ?_) | (refine ByteK.at (by omega) ?_) | (refine Wr.i64 (by omega) (by omega) ?_)); conv => whnf) | (refine Br.dec (fun _ => ?_) (fun _ => ?_) <;> first | (exfalso; omega) | conv => whnf) | (refine Br.dec2 (fun _ => ?_) (fun _ => ?_) <;> first | (exfalso; omega) | conv => whnf) | (refine Br.n (fun _ => ?_) (fun _ => ?_) <;> conv => whnf) | (refine Br.b (fun _ => ?_) (fun _ => ?_) <;> conv => whnf))
  refine AppK.mk rfl rfl (by rw [hlm]; show (0 + l.length) * 16 ≤ 140737488355328; omega) (by rw [hlm]; show 0 + l.length ≤ 9223372036854775807; omega) (fun x hx => by obtain ⟨s, _, rfl⟩ := List.mem_map.1 hx; exact ⟨rfl, rfl⟩) ?_
  conv => whnf
  repeat' (first | ((first | (intro (_ : _ ≤ 9223372036854775807)) | (refine DrawK.auto tabOK mixed (by kernel_rfl) ?_) | (refine And.intro rfl ?_) | (refine And.intro ⟨by decide, by decide⟩ ?_) | (refine And.intro ⟨rfl, rfl, by decide⟩ ?_) | (refine BsK.pure (fun x hx => by rcases List.mem_singleton.1 hx with rfl; rfl) rfl ?_) | (refine IdxK.map (by omega) (fun _ => rfl) ?_) | (refine IdxK.xs (by omega) ?_) | (refine IdxK.ss (by omega) ?_) | (refine ByteK.at (by omega) ?_) | (refine Wr.i64 (by omega) (by omega) ?_)); conv => whnf) | (refine Br.dec (fun _ => ?_) (fun _ => ?_) <;> first | (exfalso; omega) | conv => whnf) | (refine Br.dec2 (fun _ => ?_) (fun _ => ?_) <;> first | (exfalso; omega) | conv => whnf) | (refine Br.n (fun _ => ?_) (fun _ => ?_) <;> conv => whnf) | (refine Br.b (fun _ => ?_) (fun _ => ?_) <;> conv => whnf))
  exact ⟨_, .hd rfl (by simp), rfl⟩
end Go.Ab
namespace Go.Ab
open Go.Proofs
def gTxs : List Str → Nat
  | [] => 0
  | s :: r => 1 + s.length + gTxs r
mutual
def gX : X → Nat
  | .mk _ _ name kids => 1 + name.length + gXs kids
def gXs : List X → Nat
  | [] => 0
  | x :: r => gX x + gXs r
end
def gArgs : List Arg → Nat
  | [] => 0
  | a :: r => gX a.x + (1 + a.name.length) + gArgs r
mutual
def gS : S → Nat
  | .mk _ _ labels name proc x _ args thn els => gX x + gTxs labels + (1 + name.length) + (1 + proc.length) + gArgs args + gL thn + gL els
def gL : List S → Nat
  | [] => 0
  | s :: r => gS s + gL r
end
def gPms : List Param → Nat
  | [] => 0
  | a :: r => 1 + a.name.length + gPms r
def gPr (f : Pr) : Nat := 1 + f.name.length + gTxs f.vars + gTxs f.fin + gPms f.params + gL f.body
def gPrs : List Pr → Nat
  | [] => 0
  | f :: r => gPr f + gPrs r
def gPg (p : Pg) : Nat := gTxs p.globals + gPrs p.procs
theorem gS_eq (s : S) : gS s = gX s.x + gTxs s.labels + (1 + s.name.length) + (1 + s.proc.length) + gArgs s.args + gL s.thn + gL s.els := by
  cases s
  rw [gS]
  rfl
theorem wg_Txs : ∀ l : List Str, wTxs l ≤ gTxs l
  | [] => Nat.le_refl _
  | s :: r => by have := wg_Txs r; simp only [wTxs, gTxs]; omega
mutual
theorem wg_X : ∀ x : X, wX x ≤ gX x
  | .mk _ _ name kids => by have := wg_Xs kids; rw [wX, gX]; omega
theorem wg_Xs : ∀ l : List X, wXs l ≤ gXs l
  | [] => by rw [wXs]; omega
  | x :: r => by have := wg_X x; have := wg_Xs r; rw [wXs, gXs]; omega
end
theorem wg_Args : ∀ l : List Arg, wArgs l ≤ gArgs l
  | [] => Nat.le_refl _
  | a :: r => by have := wg_Args r; have := wg_X a.x; simp only [wArgs, gArgs]; omega
mutual
theorem wg_S : ∀ s : S, wS s ≤ gS s
  | .mk _ _ labels name proc x _ args thn els => by
    have := wg_X x; have := wg_Txs labels; have := wg_Args args; have := wg_L thn; have := wg_L els
    rw [wS, gS]; omega
theorem wg_L : ∀ l : List S, wL l ≤ gL l
  | [] => by rw [wL]; omega
  | s :: r => by have := wg_S s; have := wg_L r; rw [wL, gL]; omega
end
theorem wg_Pms : ∀ l : List Param, wPms l ≤ gPms l
  | [] => Nat.le_refl _
  | a :: r => by have := wg_Pms r; simp only [wPms, gPms]; omega
theorem wg_Prs : ∀ l : List Pr, wPrs l ≤ gPrs l
  | [] => Nat.le_refl _
  | f :: r => by
    have := wg_Prs r; have := wg_Txs f.vars; have := wg_Txs f.fin; have := wg_Pms f.params; have := wg_L f.body
    simp only [wPrs, gPrs, wPr, gPr]; omega
theorem wg_Pg (p : Pg) : wPg p ≤ gPg p := by
  have := wg_Txs p.globals; have := wg_Prs p.procs
  unfold wPg gPg; omega
def satI (x : Int) : Int := if x > 20000 then 20001 else x
theorem satI_sat {a b : Int} (hb : 0 ≤ b) : satI (satI a + b) = satI (a + b) := by
  unfold satI
  split <;> split <;> (try split) <;> omega
theorem satI_rng {a : Int} (h : 0 ≤ a) : 0 ≤ satI a ∧ satI a ≤ 20001 := by
  unfold satI
  split <;> omega
theorem satI_id {a : Int} (h : a ≤ 20001) : satI a = a := by
  unfold satI
  split <;> omega
theorem satI_full {a b : Int} (h : a > 20000) (h1 : a ≤ 20001) (hb : 0 ≤ b) : a = satI (a + b) := by
  unfold satI
  split <;> omega
set_option maxRecDepth 100000 in
theorem whittlerref3_weighText (s : Str) (n : Int) (hn : 0 ≤ n ∧ n ≤ 20001) : SpecP Tryz.prog 60 [.str s, .int .i64 n] (fun r => r = .int .i64 (satI (n + (1 + s.length : Nat)))) := by
  refine SpecP.body I_whittlerref3_weighText tabOK Tryz.func60 rfl Tryz.call60 (by show 2 ≤ _; decide) ?_
  conv => whnf
  repeat' (first | ((first | (intro (_ : _ ≤ 9223372036854775807)) | (refine Wr.i64 (by omega) (by omega) ?_)); conv => whnf) | (refine Br.dec (fun _ => ?_) (fun _ => ?_) <;> first | (exfalso; omega) | conv => whnf))
  all_goals exact RetK.int (by unfold satI; (repeat' split) <;> omega)
set_option maxHeartbeats 1000000 in
set_option maxRecDepth 100000 in
theorem whittlerref3_weighTexts (l : List Str) (n : Int) (hn : 0 ≤ n ∧ n ≤ 20001) : SpecP Tryz.prog 59 [eStrs l, .int .i64 n] (fun r => r = .int .i64 (satI (n + gTxs l))) := by
  refine SpecP.body I_whittlerref3_weighTexts tabOK Tryz.func59 rfl Tryz.call59 (by show 2 ≤ _; decide) ?_
  conv => whnf
  skip
  have hl : (l.map AV.str).length = l.length := List.length_map _
  refine LoopK.inv tabOK (fun x : Nat × Int => ⟨[(0, .p (eStrs l)), (1, .p (.int .i64 x.2)), (5, .p (.int .i64 x.1))], []⟩) (fun x => x.1 ≤ l.length ∧ (0 ≤ x.2 ∧ x.2 ≤ 20001) ∧ satI (x.2 + gTxs (l.drop x.1)) = satI (n + gTxs l)) (fun x => l.length - x.1) (0, n) (Le.of_eq rfl) ⟨Nat.zero_le _, hn, rfl⟩ ?_
  rintro ⟨j, m⟩ ⟨h2, h3, h4⟩
  simp only at h2 h3 h4 ⊢
  rcases Nat.lt_or_ge j l.length with hj | hj
  · rw [List.drop_eq_getElem_cons hj, gTxs] at h4
    conv => whnf
    repeat' (first | ((first | (intro (_ : _ ≤ 9223372036854775807)) | (refine CallK.pure (whittlerref3_weighText _ _ h3) (by repeat' (first | exact ArgP.nil | refine ArgP.cons ?_ ?_ | exact Sub.refl _ | exact Sub.tt rfl | exact Sub.ff rfl | exact Sub.int (by omega))) ?_; rintro _ rfl) | (refine IdxK.map (by omega) (fun _ => rfl) ?_) | (refine Wr.i64 (by omega) (by omega) ?_)); conv => whnf) | (refine Br.dec (fun _ => ?_) (fun _ => ?_) <;> first | (exfalso; omega) | conv => whnf))
    · have h5 : satI (satI (m + (1 + l[j].length : Nat)) + gTxs (l.drop (j + 1))) = satI (n + gTxs l) := by
        rw [satI_sat (by omega), ← h4]
        congr 1
        omega
      exact ⟨(j + 1, satI (m + (1 + l[j].length : Nat))), ⟨by simp only; omega, satI_rng (by omega), h5⟩, by simp only; omega, Le.of_eq rfl⟩
    · exact RetK.int (by rw [← h4]; exact satI_full (by omega) h3.2 (by omega))
  · rw [List.drop_eq_nil_of_le hj, gTxs] at h4
    conv => whnf
    repeat' (first | (intro (_ : _ ≤ 9223372036854775807); conv => whnf) | (refine Br.dec (fun _ => ?_) (fun _ => ?_) <;> first | (exfalso; omega) | conv => whnf))
    exact RetK.int (by rw [← h4, satI_id (by omega)]; simp)
set_option maxHeartbeats 2000000 in
set_option maxRecDepth 100000 in
theorem whittlerref3_weighExpr : ∀ (k : Nat) (x : X) (_ : gX x < k) (n : Int) (_ : 0 ≤ n ∧ n ≤ 20001), SpecP Tryz.prog 105 [.agg x.cells, .int .i64 n] (fun r => r = .int .i64 (satI (n + gX x))) := by
  intro k
  induction k with
  | zero => intro x h; omega
  | succ k ih =>
    intro x hx n hn
    have hxe : gX x = 1 + x.name.length + gXs x.kids := by cases x; rw [gX]; rfl
    have hkl := X.avs_len x.kids
    refine SpecP.body I_whittlerref3_weighExpr tabOK Tryz.func105 rfl Tryz.call105 (by show 2 ≤ _; decide) ?_
    conv => whnf
    repeat' (refine CallK.pure (whittlerref3_weighText _ _ hn) (by repeat' (first | exact ArgP.nil | refine ArgP.cons ?_ ?_ | exact Sub.refl _ | exact Sub.tt rfl | exact Sub.ff rfl | exact Sub.int (by omega))) ?_; rintro _ rfl; conv => whnf)
    refine LoopK.inv tabOK (fun y : Nat × Int => ⟨[(1, .p (.int .i64 y.2)), (2, .p (.ip x.cells)), (5, .p (.int .i64 y.1))], []⟩) (fun y => y.1 ≤ x.kids.length ∧ (0 ≤ y.2 ∧ y.2 ≤ 20001) ∧ satI (y.2 + gXs (x.kids.drop y.1)) = satI (n + gX x)) (fun y => x.kids.length - y.1) (0, satI (n + (1 + x.name.length : Nat))) (Le.of_eq rfl) ⟨Nat.zero_le _, satI_rng (by omega), by
      show satI (satI (n + (1 + x.name.length : Nat)) + gXs x.kids) = _
      rw [satI_sat (by omega), hxe]
      congr 1
      omega⟩ ?_
    rintro ⟨j, m⟩ ⟨h2, h3, h4⟩
    simp only at h2 h3 h4 ⊢
    rcases Nat.lt_or_ge j x.kids.length with hj | hj
    · rw [List.drop_eq_getElem_cons hj, gXs] at h4
      have hkw : gX x.kids[j] < k := by
        have : ∀ (l : List X) (y : X), y ∈ l → gX y ≤ gXs l := fun l => by
          induction l with
          | nil => intro y h; cases h
          | cons a r ih =>
            intro y h
            rw [gXs]
            rcases List.mem_cons.1 h with rfl | h
            · omega
            · have := ih y h; omega
        have := this x.kids _ (List.getElem_mem hj)
        omega
      conv => whnf
      repeat' (first | ((first | (intro (_ : _ ≤ 9223372036854775807)) | (refine IdxK.xs (by omega) ?_) | (refine Wr.i64 (by omega) (by omega) ?_) | (refine CallK.pure (ih (x.kids[j]'hj) hkw m h3) (.cons (Sub.refl _) (.cons (Sub.refl _) .nil)) ?_; rintro _ rfl)); conv => whnf) | (refine Br.dec (fun _ => ?_) (fun _ => ?_) <;> first | (exfalso; omega) | conv => whnf))
      · have h5 : satI (satI (m + gX x.kids[j]) + gXs (x.kids.drop (j + 1))) = satI (n + gX x) := by
          rw [satI_sat (by omega), ← h4]
          congr 1
          omega
        exact ⟨(j + 1, satI (m + gX x.kids[j])), ⟨by simp only; omega, satI_rng (by omega), h5⟩, by simp only; omega, Le.of_eq rfl⟩
      · exact RetK.int (by rw [← h4]; exact satI_full (by omega) h3.2 (by omega))
    · rw [List.drop_eq_nil_of_le hj, gXs] at h4
      conv => whnf
      repeat' (first | (intro (_ : _ ≤ 9223372036854775807); conv => whnf) | (refine Br.dec (fun _ => ?_) (fun _ => ?_) <;> first | (exfalso; omega) | conv => whnf))
      exact RetK.int (by rw [← h4, satI_id (by omega)]; simp)
theorem gL_mem : ∀ (l : List S) (y : S), y ∈ l → gS y ≤ gL l
  | [], y, h => by cases h
  | a :: r, y, h => by
    rw [gL]
    rcases List.mem_cons.1 h with rfl | h
    · omega
    · have := gL_mem r y h; omega
set_option maxHeartbeats 4000000 in
set_option maxRecDepth 100000 in
theorem whittlerref3_weighStmts : ∀ (k : Nat) (l : List S) (_ : gL l < k) (n : Int) (_ : 0 ≤ n ∧ n ≤ 20001), SpecP Tryz.prog 61 [eSs l, .int .i64 n] (fun r => r = .int .i64 (satI (n + gL l))) := by
  intro k
  induction k with
  | zero => intro l h; omega
  | succ k ih =>
    intro l hl n hn
    have hkl := S.avs_len l
    refine SpecP.body I_whittlerref3_weighStmts tabOK Tryz.func61 rfl Tryz.call61 (by show 2 ≤ _; decide) ?_
    conv => whnf
    skip
    refine LoopK.inv tabOK (fun y : Nat × Int => ⟨[(0, .p (eSs l)), (1, .p (.int .i64 y.2)), (5, .p (.int .i64 y.1))], []⟩) (fun y => y.1 ≤ l.length ∧ (0 ≤ y.2 ∧ y.2 ≤ 20001) ∧ satI (y.2 + gL (l.drop y.1)) = satI (n + gL l)) (fun y => l.length - y.1) (0, n) (Le.of_eq rfl) ⟨Nat.zero_le _, hn, rfl⟩ ?_
    rintro ⟨j, m⟩ ⟨h2, h3, h4⟩
    simp only at h2 h3 h4 ⊢
    rcases Nat.lt_or_ge j l.length with hj | hj
    rotate_left 1
    · rw [List.drop_eq_nil_of_le hj, gL] at h4
      conv => whnf
      repeat' (first | (intro (_ : _ ≤ 9223372036854775807); conv => whnf) | (refine Br.dec (fun _ => ?_) (fun _ => ?_) <;> first | (exfalso; omega) | conv => whnf))
      exact RetK.int (by rw [← h4, satI_id (by omega)]; simp)
    rw [List.drop_eq_getElem_cons hj, gL] at h4
    have hsw := gL_mem l _ (List.getElem_mem hj)
    have hse := gS_eq l[j]
    have q1 := satI_rng (a := m + gX l[j].x) (by omega)
    have q2 := satI_rng (a := satI (m + gX l[j].x) + gTxs l[j].labels) (by omega)
    have q3 := satI_rng (a := satI (satI (m + gX l[j].x) + gTxs l[j].labels) + (1 + l[j].name.length : Nat)) (by omega)
    conv => whnf
    repeat' (first | ((first | (intro (_ : _ ≤ 9223372036854775807)) | (refine DrawK.auto tabOK mixed (by kernel_rfl) ?_) | (refine And.intro rfl ?_) | (refine IdxK.ss (by omega) ?_) | (refine CallK.pure (whittlerref3_weighExpr (gX l[j].x+1) l[j].x (by omega) m h3) (.cons (Sub.refl _) (.cons (Sub.refl _) .nil)) ?_; rintro _ rfl) | (refine CallK.pure (whittlerref3_weighTexts l[j].labels _ q1) (.cons (Sub.refl _) (.cons (Sub.refl _) .nil)) ?_; rintro _ rfl) | (refine CallK.pure (whittlerref3_weighText l[j].name _ q2) (.cons (Sub.refl _) (.cons (Sub.refl _) .nil)) ?_; rintro _ rfl) | (refine CallK.pure (whittlerref3_weighText l[j].proc _ q3) (.cons (Sub.refl _) (.cons (Sub.refl _) .nil)) ?_; rintro _ rfl)); conv => whnf) | (refine Br.dec (fun _ => ?_) (fun _ => ?_) <;> first | (exfalso; omega) | conv => whnf))
    rotate_left 1
    · exact RetK.int (by rw [← h4]; exact satI_full (by omega) h3.2 (by omega))
    have q4 := satI_rng (a := satI (satI (satI (m + gX l[j].x) + gTxs l[j].labels) + (1 + l[j].name.length : Nat)) + (1 + l[j].proc.length : Nat)) (by omega)
    have h5 : satI (satI (satI (satI (satI (m + gX l[j].x) + gTxs l[j].labels) + (1 + l[j].name.length : Nat)) + (1 + l[j].proc.length : Nat)) + (gArgs l[j].args + (gL l[j].thn + gL l[j].els + gL (l.drop (j + 1))) : Nat)) = satI (n + gL l) := by
      rw [satI_sat (by omega), Int.add_assoc, satI_sat (by omega), Int.add_assoc, satI_sat (by omega), Int.add_assoc, satI_sat (by omega), ← h4, hse]
      congr 1
      omega
    generalize satI (satI (satI (satI (m + gX l[j].x) + gTxs l[j].labels) + (1 + l[j].name.length : Nat)) + (1 + l[j].proc.length : Nat)) = m0 at q4 h5 ⊢
    have hal : (l[j].args.map fun a => AV.agg a.cells).length = l[j].args.length := List.length_map _
    refine LoopK.inv tabOK (fun y : Nat × Int => ⟨[(0, .p (eSs l)), (1, .p (.int .i64 y.2)), (5, .p (.int .i64 j)), (6, .p (.ip l[j].cells)), (7, .p (.int .i64 y.1))], []⟩) (fun y => y.1 ≤ l[j].args.length ∧ (0 ≤ y.2 ∧ y.2 ≤ 20001) ∧ satI (y.2 + (gArgs (l[j].args.drop y.1) + (gL l[j].thn + gL l[j].els + gL (l.drop (j + 1))) : Nat)) = satI (n + gL l)) (fun y => l[j].args.length - y.1) (0, m0) (Le.of_eq rfl) ⟨Nat.zero_le _, q4, h5⟩ ?_
    rintro ⟨a, m2⟩ ⟨h6, h7, h8⟩
    simp only at h6 h7 h8 ⊢
    have fin : satI (m2 + (gL l[j].thn + gL l[j].els + gL (l.drop (j + 1)) : Nat)) = satI (n + gL l) → (0 ≤ satI (satI (m2 + gL l[j].thn) + gL l[j].els) ∧ satI (satI (m2 + gL l[j].thn) + gL l[j].els) ≤ 20001) ∧ satI (satI (satI (m2 + gL l[j].thn) + gL l[j].els) + gL (l.drop (j + 1))) = satI (n + gL l) := fun h => by
      have := satI_rng (a := m2 + gL l[j].thn) (by omega)
      refine ⟨satI_rng (by omega), ?_⟩
      rw [satI_sat (by omega), Int.add_assoc, satI_sat (by omega), ← h]
      congr 1
      omega
    have r1 := satI_rng (a := m2 + gL l[j].thn) (by omega)
    have full : m2 > 20000 → satI (m2 + (gL l[j].thn + gL l[j].els + gL (l.drop (j + 1)) : Nat)) = satI (n + gL l) := fun h => by
      rw [← h8, ← satI_full h h7.2 (by omega), ← satI_full h h7.2 (by omega)]
    rcases Nat.lt_or_ge a l[j].args.length with ha | ha
    rotate_left 1
    · have h9 : satI (m2 + (gL l[j].thn + gL l[j].els + gL (l.drop (j + 1)) : Nat)) = satI (n + gL l) := by
        rw [List.drop_eq_nil_of_le ha, gArgs, Nat.zero_add] at h8
        exact h8
      obtain ⟨f1, f2⟩ := fin h9
      conv => whnf
      repeat' (first | ((first | (intro (_ : _ ≤ 9223372036854775807)) | (refine DrawK.auto tabOK mixed (by kernel_rfl) ?_) | (refine Wr.i64 (by omega) (by omega) ?_) | (refine CallK.pure (ih l[j].thn (by omega) m2 h7) (.cons (Sub.refl _) (.cons (Sub.refl _) .nil)) ?_; rintro _ rfl) | (refine CallK.pure (ih l[j].els (by omega) _ r1) (.cons (Sub.refl _) (.cons (Sub.refl _) .nil)) ?_; rintro _ rfl)); conv => whnf) | (refine Br.dec (fun _ => ?_) (fun _ => ?_) <;> first | (exfalso; omega) | conv => whnf))
      all_goals exact ⟨(j + 1, satI (satI (m2 + gL l[j].thn) + gL l[j].els)), ⟨by simp only; omega, f1, f2⟩, by simp only; omega, Le.of_eq rfl⟩
    rw [List.drop_eq_getElem_cons ha, gArgs] at h8
    have q5 := satI_rng (a := m2 + gX l[j].args[a].x) (by omega)
    conv => whnf
    repeat' (first | ((first | (intro (_ : _ ≤ 9223372036854775807)) | (refine DrawK.auto tabOK mixed (by kernel_rfl) ?_) | (refine IdxK.map (by omega) (fun _ => rfl) ?_) | (refine Wr.i64 (by omega) (by omega) ?_) | (refine CallK.pure (whittlerref3_weighExpr (gX l[j].args[a].x+1) l[j].args[a].x (by omega) m2 h7) (.cons (Sub.refl _) (.cons (Sub.refl _) .nil)) ?_; rintro _ rfl) | (refine CallK.pure (whittlerref3_weighText l[j].args[a].name _ q5) (.cons (Sub.refl _) (.cons (Sub.refl _) .nil)) ?_; rintro _ rfl) | (refine CallK.pure (ih l[j].thn (by omega) m2 h7) (.cons (Sub.refl _) (.cons (Sub.refl _) .nil)) ?_; rintro _ rfl) | (refine CallK.pure (ih l[j].els (by omega) _ r1) (.cons (Sub.refl _) (.cons (Sub.refl _) .nil)) ?_; rintro _ rfl)); conv => whnf) | (refine Br.dec (fun _ => ?_) (fun _ => ?_) <;> first | (exfalso; omega) | conv => whnf))
    · have h10 : satI (satI (satI (m2 + gX l[j].args[a].x) + (1 + l[j].args[a].name.length : Nat)) + (gArgs (l[j].args.drop (a + 1)) + (gL l[j].thn + gL l[j].els + gL (l.drop (j + 1))) : Nat)) = satI (n + gL l) := by
        rw [satI_sat (by omega), Int.add_assoc, satI_sat (by omega), ← h8]
        congr 1
        omega
      exact ⟨(a + 1, satI (satI (m2 + gX l[j].args[a].x) + (1 + l[j].args[a].name.length : Nat))), ⟨by simp only; omega, satI_rng (by omega), h10⟩, by simp only; omega, Le.of_eq rfl⟩
    · obtain ⟨f1, f2⟩ := fin (full (by omega))
      exact ⟨(j + 1, satI (satI (m2 + gL l[j].thn) + gL l[j].els)), ⟨by simp only; omega, f1, f2⟩, by simp only; omega, Le.of_eq rfl⟩
end Go.Ab
namespace Go.Ab
open Go.Proofs
theorem wX_kid : ∀ {l : List X} {y : X}, y ∈ l → wX y ≤ wXs l
  | [], _, h => by cases h
  | a :: r, y, h => by
    rw [wXs]
    rcases List.mem_cons.1 h with rfl | h
    · omega
    · have := wX_kid h
      omega
theorem wX_pos (x : X) : 1 ≤ wX x := by cases x; rw [wX]; omega
theorem wXs_len : ∀ l : List X, l.length ≤ wXs l
  | [] => by simp
  | a :: r => by
    rw [wXs, List.length_cons]
    have := wXs_len r
    have := wX_pos a
    omega
end Go.Ab
namespace Go.Ab
open Go.Proofs
set_option maxHeartbeats 2000000 in
set_option maxRecDepth 100000 in
theorem whittlerref3_CopyExpr : ∀ (k : Nat) (x : X) (_ : wX x < k) (_ : k ≤ 20002), SpecP Tryz.prog 191 [.agg x.cells] (fun r => r = .agg x.cells) := by
  intro k
  induction k with
  | zero => intro x h; omega
  | succ k ih =>
    intro x hx hk
    have hxe : wX x = 1 + wXs x.kids := by cases x; rw [wX]; rfl
    have hkl := X.avs_len x.kids
    have hkn := wXs_len x.kids
    refine SpecP.body I_whittlerref3_CopyExpr tabOK Tryz.func191 rfl Tryz.call191 (by show 1 ≤ _; decide) ?_
    conv => whnf
    repeat' (first | ((first | (intro (_ : _ ≤ 9223372036854775807)) | (refine DrawK.auto tabOK mixed (by kernel_rfl) ?_) | (refine And.intro rfl ?_) | (refine And.intro ⟨by decide, by decide⟩ ?_) | (refine And.intro ⟨rfl, rfl, by decide⟩ ?_) | (refine BsK.pure (fun x hx => by rcases List.mem_singleton.1 hx with rfl; rfl) rfl ?_) | (refine IdxK.map (by omega) (fun _ => rfl) ?_) | (refine IdxK.xs (by omega) ?_) | (refine IdxK.ss (by omega) ?_) | (refine ByteK.at (by omega) ?_) | (refine Wr.i64 (by omega) (by omega) ?_)); conv => whnf) | (refine Br.dec (fun _ => ?_) (fun _ => ?_) <;> first | (exfalso; omega) | conv => whnf) | (refine Br.dec2 (fun _ => ?_) (fun _ => ?_) <;> first | (exfalso; omega) | conv => whnf) | (refine Br.n (fun _ => ?_) (fun _ => ?_) <;> conv => whnf) | (refine Br.b (fun _ => ?_) (fun _ => ?_) <;> conv => whnf) | (refine And.intro ?_ ?_ <;> conv => whnf))
    all_goals
      refine LoopK.inv tabOK (fun j : Nat => ⟨[(1, .p (.ip x.cells)), (2, .ptr 1 0), (3, .ptr 0 0), (14, .p (.int .i64 (X.avs x.kids).length)), (15, .p (.int .i64 j))], [(0, .obj 31 [.p (.int .i64 x.op), .p (.int .i64 x.n), .p (.str (x.name)), .hd 2 0 j]), (1, .obj 31 [.p (.int .i64 0), .p (.int .i64 0), .p (.str []), .p .nils]), (2, .own 31 4 (X.avs (x.kids.take j)))]⟩) (fun j => j ≤ x.kids.length) (fun j => x.kids.length - j) 0
        (Le.mk [(2, .own 31 4 [])] (by simp [Chunk.new0]; rfl) (by simp) (by simp) (.cons (.refl _) (.cons (.refl _) (.cons (.refl _) (.cons (.refl _) (.cons (.refl _) .nil))))) (.cons rfl (.obj (.cons (.refl _) (.cons (.refl _) (.cons (.refl _) (.cons (.nil List.mem_cons_self) .nil))))) (.cons rfl (.refl _) (.new List.mem_cons_self .nil)))) (Nat.zero_le _) ?_
      intro j h2
      rcases Nat.lt_or_ge j x.kids.length with hj | hj
      · have hkw := wX_kid (List.getElem_mem hj)
        have hih := ih x.kids[j] (by omega) (by omega)
        have htk : X.avs (x.kids.take (j + 1)) = X.avs (x.kids.take j) ++ [.agg (x.kids[j]).cells] := by
          rw [X.avs_eq, X.avs_eq, List.take_succ_eq_append_getElem hj, List.map_append]
          rfl
        have hal : (X.avs (x.kids.take j)).length = j := by rw [X.avs_len, List.length_take]; omega
        generalize X.avs (x.kids.take j) = acc at htk hal ⊢
        conv => whnf
        repeat' (first | ((first | (intro (_ : _ ≤ 9223372036854775807)) | (refine DrawK.auto tabOK mixed (by kernel_rfl) ?_) | (refine And.intro rfl ?_) | (refine And.intro ⟨by decide, by decide⟩ ?_) | (refine And.intro ⟨rfl, rfl, by decide⟩ ?_) | (refine BsK.pure (fun x hx => by rcases List.mem_singleton.1 hx with rfl; rfl) rfl ?_) | (refine IdxK.map (by omega) (fun _ => rfl) ?_) | (refine IdxK.xs (by omega) ?_) | (refine IdxK.ss (by omega) ?_) | (refine ByteK.at (by omega) ?_) | (refine Wr.i64 (by omega) (by omega) ?_) | (refine CallK.pure hih (.cons (Sub.refl _) .nil) ?_; rintro _ rfl) | (refine AppK.mk hal.symm rfl (by show (j+1) * 56 ≤ 140737488355328; omega) (by show j+1 ≤ 9223372036854775807; omega) (fun x hx => by rcases List.mem_singleton.1 hx with rfl; exact ⟨rfl, rfl⟩) ?_)); conv => whnf) | (refine Br.dec (fun _ => ?_) (fun _ => ?_) <;> first | (exfalso; omega) | conv => whnf) | (refine Br.dec2 (fun _ => ?_) (fun _ => ?_) <;> first | (exfalso; omega) | conv => whnf) | (refine Br.n (fun _ => ?_) (fun _ => ?_) <;> conv => whnf) | (refine Br.b (fun _ => ?_) (fun _ => ?_) <;> conv => whnf) | (refine And.intro ?_ ?_ <;> conv => whnf))
        all_goals exact ⟨j + 1, hj, by omega, Le.of_eq (by rw [htk]; rfl)⟩
      · have hall : X.avs (x.kids.take j) = X.avs x.kids := by rw [List.take_of_length_le hj]
        have hal : (X.avs (x.kids.take j)).length = j := by rw [X.avs_len, List.length_take]; omega
        conv => whnf
        repeat' (first | ((first | (intro (_ : _ ≤ 9223372036854775807)) | (refine DrawK.auto tabOK mixed (by kernel_rfl) ?_) | (refine And.intro rfl ?_) | (refine And.intro ⟨by decide, by decide⟩ ?_) | (refine And.intro ⟨rfl, rfl, by decide⟩ ?_) | (refine BsK.pure (fun x hx => by rcases List.mem_singleton.1 hx with rfl; rfl) rfl ?_) | (refine IdxK.map (by omega) (fun _ => rfl) ?_) | (refine IdxK.xs (by omega) ?_) | (refine IdxK.ss (by omega) ?_) | (refine ByteK.at (by omega) ?_) | (refine Wr.i64 (by omega) (by omega) ?_)); conv => whnf) | (refine Br.dec (fun _ => ?_) (fun _ => ?_) <;> first | (exfalso; omega) | conv => whnf) | (refine Br.dec2 (fun _ => ?_) (fun _ => ?_) <;> first | (exfalso; omega) | conv => whnf) | (refine Br.n (fun _ => ?_) (fun _ => ?_) <;> conv => whnf) | (refine Br.b (fun _ => ?_) (fun _ => ?_) <;> conv => whnf))
        refine ⟨_, .agg (cs := x.cells) rfl fun i l c h1 h3 => ?_, rfl⟩
        match i, h1, h3 with
        | 0, h1, h3 => cases h1; cases h3; exact .p (Sub.refl _)
        | 1, h1, h3 => cases h1; cases h3; exact .p (Sub.refl _)
        | 2, h1, h3 => cases h1; cases h3; exact .p (Sub.refl _)
        | 3, h1, h3 =>
          cases h1
          cases h3
          show Frz _ _ (.sl (X.avs x.kids))
          rw [← hall]
          exact .hd rfl hal.symm
        | i + 4, h1, h3 => simp at h1
end Go.Ab
namespace Go.Ab
open Go.Proofs
def oneS (s : S) : S := .mk s.id s.kind s.labels s.name s.proc s.x s.has s.args [] []
set_option maxHeartbeats 4000000 in
set_option maxRecDepth 100000 in
theorem whittlerref3_copyOne (s : S) (hx : wX s.x ≤ 20000) (hl : s.labels.length ≤ 1000000) (ha : s.args.length ≤ 1000000) (hax : ∀ a ∈ s.args, wX a.x ≤ 20000) : SpecP Tryz.prog 133 [.agg s.cells] (fun r => r = .agg (oneS s).cells) := by
  refine SpecP.body I_whittlerref3_copyOne tabOK Tryz.func133 rfl Tryz.call133 (by show 1 ≤ _; decide) ?_
  conv => whnf
  have hal : (s.args.map fun a => AV.agg a.cells).length = s.args.length := List.length_map _
  have hC := whittlerref3_CopyExpr 20001 s.x (by omega) (by omega)
  repeat' (first | ((first | (intro (_ : _ ≤ 9223372036854775807)) | (refine DrawK.auto tabOK mixed (by kernel_rfl) ?_) | (refine And.intro rfl ?_) | (refine And.intro ⟨by decide, by decide⟩ ?_) | (refine And.intro ⟨rfl, rfl, by decide⟩ ?_) | (refine BsK.pure (fun x hx => by rcases List.mem_singleton.1 hx with rfl; rfl) rfl ?_) | (refine IdxK.map (by omega) (fun _ => rfl) ?_) | (refine IdxK.xs (by omega) ?_) | (refine IdxK.ss (by omega) ?_) | (refine ByteK.at (by omega) ?_) | (refine Wr.i64 (by omega) (by omega) ?_) | (refine CallK.pure hC (.cons (Sub.refl _) .nil) ?_; rintro _ rfl) | (refine CallK.pure (whittlerref3_texts s.labels hl) (.cons (Sub.refl _) .nil) ?_; rintro _ rfl)); conv => whnf) | (refine Br.dec (fun _ => ?_) (fun _ => ?_) <;> first | (exfalso; omega) | conv => whnf) | (refine Br.dec2 (fun _ => ?_) (fun _ => ?_) <;> first | (exfalso; omega) | conv => whnf) | (refine Br.n (fun _ => ?_) (fun _ => ?_) <;> conv => whnf) | (refine Br.b (fun _ => ?_) (fun _ => ?_) <;> conv => whnf) | (refine And.intro ?_ ?_ <;> conv => whnf))
  all_goals
    refine LoopK.inv tabOK (fun j : Nat => ⟨[(2, .ptr 1 0), (3, .ptr 0 0), (24, .p (eArgs s.args)), (25, .p (.int .i64 (s.args.map fun a => AV.agg a.cells).length)), (26, .p (.int .i64 j))], [(0, .obj 60 [.p (.int .i64 s.id), .p (.int .i64 s.kind), .p (eStrs s.labels), .p (.str s.name), .p (.str s.proc), .p (.int .i64 s.x.op), .p (.int .i64 s.x.n), .p (.str s.x.name), .p (.sl (X.avs s.x.kids)), .p (.bool s.has), .hd 2 0 j, .p .nils, .p .nils]), (1, .obj 60 [.p (.int .i64 0), .p (.int .i64 0), .p .nils, .p (.str []), .p (.str []), .p (.int .i64 0), .p (.int .i64 0), .p (.str []), .p .nils, .p .ff, .p .nils, .p .nils, .p .nils]), (2, .own 137 6 ((s.args.take j).map fun a => .agg a.cells))]⟩) (fun j => j ≤ s.args.length) (fun j => s.args.length - j) 0
      (Le.mk [(2, .own 137 6 [])] (by simp [Chunk.new0]; rfl) (by simp) (by simp) (.cons (.refl _) (.cons (.refl _) (.cons (.refl _) (.cons (.refl _) (.cons (.refl _) .nil))))) (.cons rfl (.obj (.cons (.refl _) (.cons (.refl _) (.cons (.refl _) (.cons (.refl _) (.cons (.refl _) (.cons (.refl _) (.cons (.refl _) (.cons (.refl _) (.cons (.refl _) (.cons (.refl _) (.cons (.nil List.mem_cons_self) (.cons (.refl _) (.cons (.refl _) .nil)))))))))))))) (.cons rfl (.refl _) (.new List.mem_cons_self .nil)))) (Nat.zero_le _) ?_
    intro j h2
    rcases Nat.lt_or_ge j s.args.length with hj | hj
    · have hax1 := hax _ (List.getElem_mem hj)
      have hD := whittlerref3_CopyExpr 20001 s.args[j].x (by omega) (by omega)
      have htk : ((s.args.take (j + 1)).map fun a => AV.agg a.cells) = ((s.args.take j).map fun a => AV.agg a.cells) ++ [.agg s.args[j].cells] := by
        rw [List.take_succ_eq_append_getElem hj, List.map_append]
        rfl
      have hcl : ((s.args.take j).map fun a => AV.agg a.cells).length = j := by rw [List.length_map, List.length_take]; omega
      generalize ((s.args.take j).map fun a => AV.agg a.cells) = acc at htk hcl ⊢
      conv => whnf
      repeat' (first | ((first | (intro (_ : _ ≤ 9223372036854775807)) | (refine DrawK.auto tabOK mixed (by kernel_rfl) ?_) | (refine And.intro rfl ?_) | (refine And.intro ⟨by decide, by decide⟩ ?_) | (refine And.intro ⟨rfl, rfl, by decide⟩ ?_) | (refine BsK.pure (fun x hx => by rcases List.mem_singleton.1 hx with rfl; rfl) rfl ?_) | (refine IdxK.map (by omega) (fun _ => rfl) ?_) | (refine IdxK.xs (by omega) ?_) | (refine IdxK.ss (by omega) ?_) | (refine ByteK.at (by omega) ?_) | (refine Wr.i64 (by omega) (by omega) ?_) | (refine CallK.pure hD (.cons (Sub.refl _) .nil) ?_; rintro _ rfl) | (refine AppK.mk hcl.symm rfl (by show (j+1) * 80 ≤ 140737488355328; omega) (by show j+1 ≤ 9223372036854775807; omega) (fun x hx => by rcases List.mem_singleton.1 hx with rfl; exact ⟨rfl, rfl⟩) ?_)); conv => whnf) | (refine Br.dec (fun _ => ?_) (fun _ => ?_) <;> first | (exfalso; omega) | conv => whnf) | (refine Br.dec2 (fun _ => ?_) (fun _ => ?_) <;> first | (exfalso; omega) | conv => whnf) | (refine Br.n (fun _ => ?_) (fun _ => ?_) <;> conv => whnf) | (refine Br.b (fun _ => ?_) (fun _ => ?_) <;> conv => whnf) | (refine And.intro ?_ ?_ <;> conv => whnf))
      all_goals exact ⟨j + 1, hj, by omega, Le.of_eq (by rw [htk]; rfl)⟩
    · have hall : ((s.args.take j).map fun a => AV.agg a.cells) = s.args.map fun a => .agg a.cells := by rw [List.take_of_length_le hj]
      have hcl : ((s.args.take j).map fun a => AV.agg a.cells).length = j := by rw [List.length_map, List.length_take]; omega
      conv => whnf
      repeat' (first | ((first | (intro (_ : _ ≤ 9223372036854775807)) | (refine DrawK.auto tabOK mixed (by kernel_rfl) ?_) | (refine And.intro rfl ?_) | (refine And.intro ⟨by decide, by decide⟩ ?_) | (refine And.intro ⟨rfl, rfl, by decide⟩ ?_) | (refine BsK.pure (fun x hx => by rcases List.mem_singleton.1 hx with rfl; rfl) rfl ?_) | (refine IdxK.map (by omega) (fun _ => rfl) ?_) | (refine IdxK.xs (by omega) ?_) | (refine IdxK.ss (by omega) ?_) | (refine ByteK.at (by omega) ?_) | (refine Wr.i64 (by omega) (by omega) ?_)); conv => whnf) | (refine Br.dec (fun _ => ?_) (fun _ => ?_) <;> first | (exfalso; omega) | conv => whnf) | (refine Br.dec2 (fun _ => ?_) (fun _ => ?_) <;> first | (exfalso; omega) | conv => whnf) | (refine Br.n (fun _ => ?_) (fun _ => ?_) <;> conv => whnf) | (refine Br.b (fun _ => ?_) (fun _ => ?_) <;> conv => whnf))
      refine ⟨_, .agg (cs := (oneS s).cells) rfl fun i l c h1 h3 => ?_, rfl⟩
      match i, h1, h3 with
      | 0, h1, h3 => cases h1; cases h3; exact .p (Sub.refl _)
      | 1, h1, h3 => cases h1; cases h3; exact .p (Sub.refl _)
      | 2, h1, h3 => cases h1; cases h3; exact .p (Sub.refl _)
      | 3, h1, h3 => cases h1; cases h3; exact .p (Sub.refl _)
      | 4, h1, h3 => cases h1; cases h3; exact .p (Sub.refl _)
      | 5, h1, h3 => cases h1; cases h3; exact .p (Sub.refl _)
      | 6, h1, h3 => cases h1; cases h3; exact .p (Sub.refl _)
      | 7, h1, h3 => cases h1; cases h3; exact .p (Sub.refl _)
      | 8, h1, h3 => cases h1; cases h3; exact .p (Sub.refl _)
      | 9, h1, h3 => cases h1; cases h3; exact .p (Sub.refl _)
      | 10, h1, h3 =>
        cases h1
        cases h3
        show Frz _ _ (.sl (s.args.map fun a => .agg a.cells))
        rw [← hall]
        exact .hd rfl hcl.symm
      | 11, h1, h3 => cases h1; cases h3; exact .p Sub.nils
      | 12, h1, h3 => cases h1; cases h3; exact .p Sub.nils
      | i + 13, h1, h3 => simp at h1
end Go.Ab
namespace Go.Ab
open Go.Proofs
mutual
def nmS (n : Nat) : S → S
  | .mk _ kind labels name proc x has args thn els => .mk ((n + 1 : Nat) : Int) kind labels name proc x has args (nmL (n + 1) thn) (nmL (n + 1 + cntL thn) els)
def nmL (n : Nat) : List S → List S
  | [] => []
  | t :: r => nmS n t :: nmL (n + cntS t) r
end
theorem nmS_eq (n : Nat) (t : S) : nmS n t = .mk ((n + 1 : Nat) : Int) t.kind t.labels t.name t.proc t.x t.has t.args (nmL (n + 1) t.thn) (nmL (n + 1 + cntL t.thn) t.els) := by
  cases t
  rw [nmS]
  rfl
theorem nmL_len (n : Nat) : ∀ l : List S, (nmL n l).length = l.length
  | [] => by rw [nmL]
  | t :: r => by rw [nmL, List.length_cons, List.length_cons, nmL_len _ r]
theorem nmL_get : ∀ (l : List S) (n j : Nat) (h : j < l.length), (nmL n l)[j]? = some (nmS (n + cntL (l.take j)) l[j])
  | t :: r, n, 0, h => by rw [nmL]; simp [cntL]
  | t :: r, n, j + 1, h => by
    rw [nmL, List.getElem?_cons_succ, nmL_get r (n + cntS t) j (by simpa using h), List.take_succ_cons, cntL, Nat.add_assoc]
    rfl
theorem cntL_take : ∀ (l : List S) (j : Nat) (h : j < l.length), cntL (l.take (j + 1)) = cntL (l.take j) + cntS l[j]
  | t :: r, 0, h => by simp [cntL]
  | t :: r, j + 1, h => by
    rw [List.take_succ_cons, List.take_succ_cons, cntL, cntL, cntL_take r j (by simpa using h), Nat.add_assoc]
    rfl
theorem cntL_len : ∀ l : List S, l.length ≤ cntL l
  | [] => by simp
  | t :: r => by
    rw [cntL, List.length_cons]
    have := cntL_len r
    have : 1 ≤ cntS t := by cases t; rw [cntS]; omega
    omega
/-- What is asked of statements that are copied. -/
def okC (t : S) : Prop := wX t.x ≤ 20000 ∧ t.labels.length ≤ 1000000 ∧ t.args.length ≤ 1000000 ∧ ∀ a ∈ t.args, wX a.x ≤ 20000
theorem cntL_mem : ∀ {l : List S} {t : S}, t ∈ l → cntS t ≤ cntL l
  | a :: r, t, h => by
    rw [cntL]
    rcases List.mem_cons.1 h with rfl | h
    · omega
    · have := cntL_mem h
      omega
set_option maxHeartbeats 4000000 in
set_option maxRecDepth 100000 in
theorem whittlerref3_numbered : ∀ (k : Nat) (l : List S) (_ : cntL l < k) (n : Nat) (_ : n + cntL l ≤ 1000000) (_ : ∀ t ∈ flL l, okC t), SpecP Tryz.prog 134 [eSs l, .int .i64 (n : Nat)] (fun r => r = .tup [eSs (nmL n l), .int .i64 (n + cntL l : Nat)]) := by
  intro k
  induction k with
  | zero => intro l h; omega
  | succ k ih =>
    intro l hk n hn hok
    have hsl : (S.avs l).length = l.length := by rw [S.avs_eq, List.length_map]
    have hcl := cntL_len l
    refine SpecP.body I_whittlerref3_numbered tabOK Tryz.func134 rfl Tryz.call134 (by show 2 ≤ _; decide) ?_
    conv => whnf
    repeat' (first | ((first | (intro (_ : _ ≤ 9223372036854775807)) | (refine DrawK.auto tabOK mixed (by kernel_rfl) ?_) | (refine And.intro rfl ?_) | (refine And.intro ⟨by decide, by decide⟩ ?_) | (refine And.intro ⟨rfl, rfl, by decide⟩ ?_) | (refine BsK.pure (fun x hx => by rcases List.mem_singleton.1 hx with rfl; rfl) rfl ?_) | (refine IdxK.map (by omega) (fun _ => rfl) ?_) | (refine IdxK.xs (by omega) ?_) | (refine IdxK.ss (by omega) ?_) | (refine ByteK.at (by omega) ?_) | (refine Wr.i64 (by omega) (by omega) ?_)); conv => whnf) | (refine Br.dec (fun _ => ?_) (fun _ => ?_) <;> first | (exfalso; omega) | conv => whnf) | (refine Br.dec2 (fun _ => ?_) (fun _ => ?_) <;> first | (exfalso; omega) | conv => whnf) | (refine Br.n (fun _ => ?_) (fun _ => ?_) <;> conv => whnf) | (refine Br.b (fun _ => ?_) (fun _ => ?_) <;> conv => whnf))
    refine LoopK.inv tabOK (fun j : Nat => ⟨[(1, .p (.int .i64 (n + cntL (l.take j) : Nat))), (6, .hd 0 0 j), (10, .p (eSs l)), (11, .p (.int .i64 (S.avs l).length)), (12, .p (.int .i64 j))], [(0, .own 60 13 (S.avs ((nmL n l).take j)))]⟩) (fun j => j ≤ l.length) (fun j => l.length - j) 0
      (Le.mk [(0, .own 60 13 [])] (by simp [Chunk.new0]; rfl) (by simp) (by simp) (.cons (.of_eq (by simp [cntL]; rfl)) (.cons (.nil List.mem_cons_self) (.cons (.refl _) (.cons (.refl _) (.cons (.refl _) .nil))))) (.new List.mem_cons_self .nil)) (Nat.zero_le _) ?_
    intro j h2
    rcases Nat.lt_or_ge j l.length with hj | hj
    · have htk := cntL_take l j hj
      have htm := cntL_mem (List.getElem_mem hj)
      have hcs := cntS_eq l[j]
      have hget := nmL_get l n j hj
      have hlb : cntL (l.take (j + 1)) ≤ cntL l := by
        conv => rhs; rw [← List.take_append_drop (j + 1) l]
        have : ∀ a b : List S, cntL (a ++ b) = cntL a + cntL b := fun a b => by
          induction a with
          | nil => simp [cntL]
          | cons x r ih => rw [List.cons_append, cntL, cntL, ih, Nat.add_assoc]
        rw [this]
        omega
      have hself := hok _ (flL_self l _ (List.getElem_mem hj))
      have hsub : ∀ t, t ∈ flL l[j].thn ∨ t ∈ flL l[j].els → okC t := fun t ht => hok t (by
        have : t ∈ flS l[j] := by
          rw [flS_eq]
          exact List.mem_cons_of_mem _ (List.mem_append.2 ht)
        have key : ∀ (m : List S) (i : Nat) (h : i < m.length), t ∈ flS m[i] → t ∈ flL m := fun m => by
          induction m with
          | nil => intro i h; simp at h
          | cons a r ih =>
            intro i h ht
            rw [flL]
            cases i with
            | zero => exact List.mem_append.2 (.inl ht)
            | succ i => exact List.mem_append.2 (.inr (ih i (by simpa using h) ht))
        exact key l j hj this)
      have h5 := whittlerref3_copyOne l[j] hself.1 hself.2.1 hself.2.2.1 hself.2.2.2
      have h6 := ih l[j].thn (by omega) (n + cntL (l.take j) + 1) (by omega) fun t ht => hsub t (.inl ht)
      have h7 := ih l[j].els (by omega) (n + cntL (l.take j) + 1 + cntL l[j].thn) (by omega) fun t ht => hsub t (.inr ht)
      have hacl : j = (S.avs ((nmL n l).take j)).length := by rw [S.avs_eq, List.length_map, List.length_take, nmL_len]; omega
      have hav : S.avs ((nmL n l).take (j + 1)) = S.avs ((nmL n l).take j) ++ [.agg (nmS (n + cntL (l.take j)) l[j]).cells] := by
        rw [S.avs_eq, S.avs_eq, List.take_add_one, hget, List.map_append]
        rfl
      conv => whnf
      repeat' (first | ((first | (intro (_ : _ ≤ 9223372036854775807)) | (refine DrawK.auto tabOK mixed (by kernel_rfl) ?_) | (refine And.intro rfl ?_) | (refine And.intro ⟨by decide, by decide⟩ ?_) | (refine And.intro ⟨rfl, rfl, by decide⟩ ?_) | (refine BsK.pure (fun x hx => by rcases List.mem_singleton.1 hx with rfl; rfl) rfl ?_) | (refine IdxK.map (by omega) (fun _ => rfl) ?_) | (refine IdxK.xs (by omega) ?_) | (refine IdxK.ss (by omega) ?_) | (refine ByteK.at (by omega) ?_) | (refine Wr.i64 (by omega) (by omega) ?_) | (refine CallK.pure h5 (.cons (Sub.refl _) .nil) ?_; rintro _ rfl) | (refine CallK.pure h6 (.cons (Sub.refl _) (.cons (Sub.int (by omega)) .nil)) ?_; rintro _ rfl) | (refine CallK.pure h7 (.cons (Sub.refl _) (.cons (Sub.int (by omega)) .nil)) ?_; rintro _ rfl) | (refine AppK.mk hacl rfl (by show (j+1) * 208 ≤ 140737488355328; omega) (by show j+1 ≤ 9223372036854775807; omega) (fun x hx => by rcases List.mem_singleton.1 hx with rfl; exact ⟨rfl, rfl⟩) ?_)); conv => whnf) | (refine Br.dec (fun _ => ?_) (fun _ => ?_) <;> first | (exfalso; omega) | conv => whnf) | (refine Br.dec2 (fun _ => ?_) (fun _ => ?_) <;> first | (exfalso; omega) | conv => whnf) | (refine Br.n (fun _ => ?_) (fun _ => ?_) <;> conv => whnf) | (refine Br.b (fun _ => ?_) (fun _ => ?_) <;> conv => whnf))
      exact ⟨j + 1, hj, by omega, Le.mk [] (by simp) (by simp) (by simp) (.cons (.of_eq (by rw [htk, hcs, show n + (cntL (l.take j) + (1 + cntL l[j].thn + cntL l[j].els)) = n + cntL (l.take j) + 1 + cntL l[j].thn + cntL l[j].els by omega]; rfl)) (.cons (.refl _) (.cons (.refl _) (.cons (.refl _) (.cons (.refl _) .nil))))) (.cons rfl (.of_eq (by rw [hav, nmS_eq]; rfl)) .nil)⟩
    · have hall : (nmL n l).take j = nmL n l := List.take_of_length_le (by rw [nmL_len]; exact hj)
      have hall2 : l.take j = l := List.take_of_length_le hj
      have hjl : j = (S.avs (nmL n l)).length := by rw [S.avs_eq, List.length_map, nmL_len]; omega
      rw [hall, hall2]
      conv => whnf
      repeat' (first | ((first | (intro (_ : _ ≤ 9223372036854775807)) | (refine DrawK.auto tabOK mixed (by kernel_rfl) ?_) | (refine And.intro rfl ?_) | (refine And.intro ⟨by decide, by decide⟩ ?_) | (refine And.intro ⟨rfl, rfl, by decide⟩ ?_) | (refine BsK.pure (fun x hx => by rcases List.mem_singleton.1 hx with rfl; rfl) rfl ?_) | (refine IdxK.map (by omega) (fun _ => rfl) ?_) | (refine IdxK.xs (by omega) ?_) | (refine IdxK.ss (by omega) ?_) | (refine ByteK.at (by omega) ?_) | (refine Wr.i64 (by omega) (by omega) ?_)); conv => whnf) | (refine Br.dec (fun _ => ?_) (fun _ => ?_) <;> first | (exfalso; omega) | conv => whnf) | (refine Br.dec2 (fun _ => ?_) (fun _ => ?_) <;> first | (exfalso; omega) | conv => whnf) | (refine Br.n (fun _ => ?_) (fun _ => ?_) <;> conv => whnf) | (refine Br.b (fun _ => ?_) (fun _ => ?_) <;> conv => whnf))
      refine ⟨_, .tup (cs := [eSs (nmL n l), .int .i64 (n + cntL l : Nat)]) rfl fun i l' c h1 h3 => ?_, rfl⟩
      match i, h1, h3 with
      | 0, h1, h3 => cases h1; cases h3; exact .hd rfl hjl
      | 1, h1, h3 => cases h1; cases h3; exact .p (Sub.refl _)
      | i + 2, h1, h3 => simp at h1
end Go.Ab
namespace Go.Ab
open Go.Proofs
/-- Elementwise: the cells of each say less. -/
def ElS (es es' : List AV) : Prop := es'.length = es.length ∧ ∀ (m : Nat) (x' : AV), es'[m]? = some x' → ∃ x, es[m]? = some x ∧ x'.cells.length = x.cells.length ∧ ∀ (j : Nat) (c' : AV), x'.cells[j]? = some c' → ∃ c, x.cells[j]? = some c ∧ Sub c c'
theorem ElS.refl (es : List AV) : ElS es es := ⟨rfl, fun _ x' h => ⟨x', h, rfl, fun _ c' hc => ⟨c', hc, Sub.refl _⟩⟩⟩
theorem ElS.snoc {es es' : List AV} (h : ElS es es') {x x' : AV} (hl : x'.cells.length = x.cells.length) (hc : ∀ (j : Nat) (c' : AV), x'.cells[j]? = some c' → ∃ c, x.cells[j]? = some c ∧ Sub c c') : ElS (es ++ [x]) (es' ++ [x']) := by
  refine ⟨by simp [h.1], fun m y hy => ?_⟩
  rcases Nat.lt_or_ge m es'.length with hm | hm
  · rw [List.getElem?_append_left hm] at hy
    obtain ⟨z, h1, h2⟩ := h.2 m y hy
    exact ⟨z, by rw [List.getElem?_append_left (by rw [← h.1]; exact hm)]; exact h1, h2⟩
  · rw [List.getElem?_append_right hm] at hy
    have hm0 : m - es'.length = 0 := by
      have := (List.getElem?_eq_some_iff.1 hy).1
      simp at this
      omega
    rw [hm0] at hy
    cases hy
    exact ⟨x, by rw [List.getElem?_append_right (by rw [← h.1]; exact hm), ← h.1, hm0]; rfl, hl, hc⟩
/-- Rows made to say less. -/
inductive SubH : Heap → Heap → Prop
  | nil : SubH [] []
  | same {c : Nat × Chunk} {H H' : Heap} (h : SubH H H') : SubH (c :: H) (c :: H')
  | els {k : Nat} {e : TypeId} {sz : Nat} {es es' : List AV} {H H' : Heap} (hp : ElS es es') (h : SubH H H') : SubH ((k, .own e sz es) :: H) ((k, .own e sz es') :: H')
theorem SubH.get {H H' : Heap} (h : SubH H H') : H'.map (·.1) = H.map (·.1) ∧ ∀ j c', (j, c') ∈ H' → (j, c') ∈ H ∨ ∃ e sz es es', (j, Chunk.own e sz es) ∈ H ∧ c' = .own e sz es' ∧ ElS es es' := by
  induction h with
  | nil => exact ⟨rfl, by simp⟩
  | same h ih =>
    refine ⟨by simp [ih.1], fun j c' hj => ?_⟩
    rcases List.mem_cons.1 hj with rfl | hj
    · exact .inl List.mem_cons_self
    · rcases ih.2 j c' hj with h1 | ⟨e, sz, es, es', h1, h2⟩
      · exact .inl (List.mem_cons_of_mem _ h1)
      · exact .inr ⟨e, sz, es, es', List.mem_cons_of_mem _ h1, h2⟩
  | @els k e sz es es' H H' hp h ih =>
    refine ⟨by simp [ih.1], fun j c' hj => ?_⟩
    rcases List.mem_cons.1 hj with hj | hj
    · cases hj
      exact .inr ⟨e, sz, es, es', List.mem_cons_self, rfl, hp⟩
    · rcases ih.2 j c' hj with h1 | ⟨e, sz, es, es', h1, h2⟩
      · exact .inl (List.mem_cons_of_mem _ h1)
      · exact .inr ⟨e, sz, es, es', List.mem_cons_of_mem _ h1, h2⟩
theorem Le.els {N : Nat} {sl : List (Nat × LV)} {H H' : Heap} (h : SubH H H') : Le N ⟨sl, H⟩ ⟨sl, H'⟩ := fun σ β a w hr => by
  obtain ⟨hk, hc⟩ := h.get
  refine ⟨σ, β, ⟨hr.size, hr.defers, hr.slots, ⟨hr.heap.mem, fun j c' hj => ?_, by show (H'.map (·.1)).Nodup; rw [hk]; exact hr.heap.nodup, fun j hj => hr.heap.apart j (by rw [← hk]; exact hj), fun j hj j' hj' => hr.heap.inj j (by rw [← hk]; exact hj) j' (by rw [← hk]; exact hj')⟩⟩, Mem.le_refl σ, Frm.refl _ w, fun b h0 h1 => absurd h0 h1, fun b ⟨j, hj, r⟩ => .inl ⟨j, by rw [← hk]; exact hj, r⟩, fun _ _ _ => rfl⟩
  rcases hc j c' hj with h1 | ⟨e, sz, es, es', h1, rfl, h2⟩
  · exact hr.heap.chunks j c' h1
  · rcases hr.heap.chunks j _ h1 with ⟨h3, h4⟩ | ⟨i, vs, h3, h4, h5, h6, h7, h8, h9⟩
    · refine .inl ⟨h3, ?_⟩
      have := h2.1
      rw [h4] at this
      exact List.eq_nil_of_length_eq_zero this
    · refine .inr ⟨i, vs, h3, h4, h5, h6, by rw [h2.1]; exact h7, h8, fun m x' hx => ?_⟩
      obtain ⟨x, g1, g2, g3⟩ := h2.2 m x' hx
      refine ⟨by rw [g2]; exact (h9 m x g1).1, fun j c' hc => ?_⟩
      obtain ⟨c, g4, g5⟩ := g3 j c' hc
      obtain ⟨u, g6, g7⟩ := (h9 m x g1).2 j c g4
      exact ⟨u, g6, g5 _ _ g7⟩
end Go.Ab
namespace Go.Ab
open Go.Proofs
def fitB (p : Pg) : Bool := decide (gPg p ≤ 20000)
theorem fit_of {p : Pg} (h : fitB p = true) : Fit p := by
  have := wg_Pg p
  have h1 : gPg p ≤ 20000 := by simpa [fitB] using h
  unfold Fit
  omega
set_option maxHeartbeats 4000000 in
set_option maxRecDepth 100000 in
theorem whittlerref3_Fits (p : Pg) : SpecP Tryz.prog 16 [.agg p.cells] (fun r => r = .bool (fitB p)) := by
  refine SpecP.body I_whittlerref3_Fits tabOK Tryz.func16 rfl Tryz.call16 (by show 1 ≤ _; decide) ?_
  conv => whnf
  have hl : (p.procs.map fun f => AV.agg f.cells).length = p.procs.length := List.length_map _
  have q0 := satI_rng (a := 0 + gTxs p.globals) (by omega)
  repeat' (refine CallK.pure (whittlerref3_weighTexts p.globals 0 (by omega)) (.cons (Sub.refl _) (.cons (Sub.refl _) .nil)) ?_; rintro _ rfl; conv => whnf)
  refine LoopK.inv tabOK (fun y : Nat × Int => ⟨[(1, .p (.ip p.cells)), (3, .p (.int .i64 y.2)), (4, .p (.int .i64 y.1))], []⟩) (fun y => y.1 ≤ p.procs.length ∧ (0 ≤ y.2 ∧ y.2 ≤ 20001) ∧ satI (y.2 + gPrs (p.procs.drop y.1)) = satI (gPg p : Nat)) (fun y => p.procs.length - y.1) (0, satI (0 + gTxs p.globals)) (Le.of_eq rfl) ⟨Nat.zero_le _, q0, by
    show satI (satI (0 + gTxs p.globals) + gPrs p.procs) = _
    rw [satI_sat (by omega)]
    congr 1
    unfold gPg
    omega⟩ ?_
  rintro ⟨j, m⟩ ⟨h2, h3, h4⟩
  simp only at h2 h3 h4 ⊢
  have last : ∀ {x : Int}, 0 ≤ x ∧ x ≤ 20001 → satI x = satI (gPg p : Nat) → (decide (x ≤ 20000)) = fitB p := fun {x} hx h => by
    unfold fitB
    unfold satI at h
    by_cases h1 : gPg p ≤ 20000
    · rw [decide_eq_true h1, decide_eq_true_eq]
      split at h <;> split at h <;> omega
    · rw [decide_eq_false h1, decide_eq_false_iff_not]
      split at h <;> split at h <;> omega
  rcases Nat.lt_or_ge j p.procs.length with hj | hj
  rotate_left 1
  · rw [List.drop_eq_nil_of_le hj, gPrs] at h4
    conv => whnf
    repeat' (first | (intro (_ : _ ≤ 9223372036854775807); conv => whnf) | (refine Br.dec (fun _ => ?_) (fun _ => ?_) <;> first | (exfalso; omega) | conv => whnf))
    all_goals exact RetK.bool (last h3 (by rw [← h4]; simp))
  rw [List.drop_eq_getElem_cons hj, gPrs] at h4
  have hpe : gPr p.procs[j] = 1 + p.procs[j].name.length + gTxs p.procs[j].vars + gTxs p.procs[j].fin + gPms p.procs[j].params + gL p.procs[j].body := rfl
  have q1 := satI_rng (a := m + (1 + p.procs[j].name.length : Nat)) (by omega)
  have q2 := satI_rng (a := satI (m + (1 + p.procs[j].name.length : Nat)) + gTxs p.procs[j].vars) (by omega)
  have q3 := satI_rng (a := satI (satI (m + (1 + p.procs[j].name.length : Nat)) + gTxs p.procs[j].vars) + gTxs p.procs[j].fin) (by omega)
  conv => whnf
  repeat' (first | ((first | (intro (_ : _ ≤ 9223372036854775807)) | (refine DrawK.auto tabOK mixed (by kernel_rfl) ?_) | (refine And.intro rfl ?_) | (refine IdxK.map (by omega) (fun _ => rfl) ?_) | (refine CallK.pure (whittlerref3_weighText p.procs[j].name _ h3) (.cons (Sub.refl _) (.cons (Sub.refl _) .nil)) ?_; rintro _ rfl) | (refine CallK.pure (whittlerref3_weighTexts p.procs[j].vars _ q1) (.cons (Sub.refl _) (.cons (Sub.refl _) .nil)) ?_; rintro _ rfl) | (refine CallK.pure (whittlerref3_weighTexts p.procs[j].fin _ q2) (.cons (Sub.refl _) (.cons (Sub.refl _) .nil)) ?_; rintro _ rfl)); conv => whnf) | (refine Br.dec (fun _ => ?_) (fun _ => ?_) <;> first | (exfalso; omega) | conv => whnf))
  rotate_left 1
  · exact RetK.bool (last h3 (by rw [← h4, ← satI_full (by omega) h3.2 (by omega), satI_id h3.2]))
  have h5 : satI (satI (satI (satI (m + (1 + p.procs[j].name.length : Nat)) + gTxs p.procs[j].vars) + gTxs p.procs[j].fin) + (gPms p.procs[j].params + (gL p.procs[j].body + gPrs (p.procs.drop (j + 1))) : Nat)) = satI (gPg p : Nat) := by
    rw [satI_sat (by omega), Int.add_assoc, satI_sat (by omega), Int.add_assoc, satI_sat (by omega), ← h4, hpe]
    congr 1
    omega
  generalize satI (satI (satI (m + (1 + p.procs[j].name.length : Nat)) + gTxs p.procs[j].vars) + gTxs p.procs[j].fin) = m0 at q3 h5 ⊢
  have hal : (p.procs[j].params.map fun a => AV.agg a.cells).length = p.procs[j].params.length := List.length_map _
  refine LoopK.inv tabOK (fun y : Nat × Int => ⟨[(1, .p (.ip p.cells)), (3, .p (.int .i64 y.2)), (4, .p (.int .i64 j)), (5, .p (.ip p.procs[j].cells)), (6, .p (.int .i64 y.1))], []⟩) (fun y => y.1 ≤ p.procs[j].params.length ∧ (0 ≤ y.2 ∧ y.2 ≤ 20001) ∧ satI (y.2 + (gPms (p.procs[j].params.drop y.1) + (gL p.procs[j].body + gPrs (p.procs.drop (j + 1))) : Nat)) = satI (gPg p : Nat)) (fun y => p.procs[j].params.length - y.1) (0, m0) (Le.of_eq rfl) ⟨Nat.zero_le _, q3, h5⟩ ?_
  rintro ⟨a, m2⟩ ⟨h6, h7, h8⟩
  simp only at h6 h7 h8 ⊢
  have fin : satI (m2 + (gL p.procs[j].body + gPrs (p.procs.drop (j + 1)) : Nat)) = satI (gPg p : Nat) → (0 ≤ satI (m2 + gL p.procs[j].body) ∧ satI (m2 + gL p.procs[j].body) ≤ 20001) ∧ satI (satI (m2 + gL p.procs[j].body) + gPrs (p.procs.drop (j + 1))) = satI (gPg p : Nat) := fun h => by
    refine ⟨satI_rng (by omega), ?_⟩
    rw [satI_sat (by omega), ← h]
    congr 1
    omega
  have full : m2 > 20000 → satI (m2 + (gL p.procs[j].body + gPrs (p.procs.drop (j + 1)) : Nat)) = satI (gPg p : Nat) := fun h => by
    rw [← h8, ← satI_full h h7.2 (by omega), ← satI_full h h7.2 (by omega)]
  rcases Nat.lt_or_ge a p.procs[j].params.length with ha | ha
  rotate_left 1
  · have h9 : satI (m2 + (gL p.procs[j].body + gPrs (p.procs.drop (j + 1)) : Nat)) = satI (gPg p : Nat) := by
      rw [List.drop_eq_nil_of_le ha, gPms, Nat.zero_add] at h8
      exact h8
    obtain ⟨f1, f2⟩ := fin h9
    conv => whnf
    repeat' (first | ((first | (intro (_ : _ ≤ 9223372036854775807)) | (refine Wr.i64 (by omega) (by omega) ?_) | (refine CallK.pure (whittlerref3_weighStmts (gL p.procs[j].body+1) p.procs[j].body (by omega) m2 h7) (.cons (Sub.refl _) (.cons (Sub.refl _) .nil)) ?_; rintro _ rfl)); conv => whnf) | (refine Br.dec (fun _ => ?_) (fun _ => ?_) <;> first | (exfalso; omega) | conv => whnf))
    all_goals exact ⟨(j + 1, satI (m2 + gL p.procs[j].body)), ⟨by simp only; omega, f1, f2⟩, by simp only; omega, Le.of_eq rfl⟩
  rw [List.drop_eq_getElem_cons ha, gPms] at h8
  conv => whnf
  repeat' (first | ((first | (intro (_ : _ ≤ 9223372036854775807)) | (refine IdxK.map (by omega) (fun _ => rfl) ?_) | (refine Wr.i64 (by omega) (by omega) ?_) | (refine CallK.pure (whittlerref3_weighText p.procs[j].params[a].name _ h7) (.cons (Sub.refl _) (.cons (Sub.refl _) .nil)) ?_; rintro _ rfl) | (refine CallK.pure (whittlerref3_weighStmts (gL p.procs[j].body+1) p.procs[j].body (by omega) m2 h7) (.cons (Sub.refl _) (.cons (Sub.refl _) .nil)) ?_; rintro _ rfl)); conv => whnf) | (refine Br.dec (fun _ => ?_) (fun _ => ?_) <;> first | (exfalso; omega) | conv => whnf))
  · have h10 : satI (satI (m2 + (1 + p.procs[j].params[a].name.length : Nat)) + (gPms (p.procs[j].params.drop (a + 1)) + (gL p.procs[j].body + gPrs (p.procs.drop (j + 1))) : Nat)) = satI (gPg p : Nat) := by
      rw [satI_sat (by omega), ← h8]
      congr 1
      omega
    exact ⟨(a + 1, satI (m2 + (1 + p.procs[j].params[a].name.length : Nat))), ⟨by simp only; omega, satI_rng (by omega), h10⟩, by simp only; omega, Le.of_eq rfl⟩
  · obtain ⟨f1, f2⟩ := fin (full (by omega))
    exact ⟨(j + 1, satI (m2 + gL p.procs[j].body)), ⟨by simp only; omega, f1, f2⟩, by simp only; omega, Le.of_eq rfl⟩
end Go.Ab
namespace Go.Ab
open Go.Proofs
/-- Rows whose elements say less. -/
inductive SubE : List AV → List AV → Prop
  | nil : SubE [] []
  | cons {a b : AV} {xs ys : List AV} (h : SubL a.cells b.cells) (hs : SubE xs ys) : SubE (a :: xs) (b :: ys)
theorem SubE.get {xs ys : List AV} (h : SubE xs ys) : xs.length = ys.length ∧ ∀ (i : Nat) (b : AV), ys[i]? = some b → ∃ a, xs[i]? = some a ∧ SubL a.cells b.cells := by
  induction h with
  | nil => exact ⟨rfl, by simp⟩
  | cons h hs ih =>
    refine ⟨by simp [ih.1], fun i b hb => ?_⟩
    cases i with
    | zero => simp at hb; subst hb; exact ⟨_, rfl, h⟩
    | succ i => exact ih.2 i b (by simpa using hb)
theorem Sub.sl {xs ys : List AV} (h : SubE xs ys) : Sub (.sl xs) (.sl ys) := fun σ v hr => by
  obtain ⟨hl, hg⟩ := h.get
  cases hr with
  | nilsl =>
    obtain rfl : ys = [] := by simpa using hl.symm
    exact .nilsl
  | slz b =>
    obtain rfl : ys = [] := by simpa using hl.symm
    exact .slz b
  | sl _ b off cap sz cells u hb hcap hmax hsz hc hrr =>
    rw [hl]
    refine .sl ys b off cap sz cells u hb (by omega) hmax (fun i e hi => ?_) (fun i e j c hi hj => ?_) (fun i e j c hi hj => ?_)
    · obtain ⟨a, h1, h2⟩ := hg i e hi
      rw [← hsz i a h1, h2.1]
    · obtain ⟨a, h1, h2⟩ := hg i e hi
      obtain ⟨d, h3, _⟩ := h2.get hj
      exact hc i a j d h1 h3
    · obtain ⟨a, h1, h2⟩ := hg i e hi
      obtain ⟨d, h3, h4⟩ := h2.get hj
      exact h4 _ _ (hrr i a j d h1 h3)
set_option maxRecDepth 100000 in
theorem whittlerref3_num (n : Int) : SpecP Tryz.prog 101 [.int .i64 n] (fun r => r = .agg (X.mk 1 n [] []).cells) := by
  refine SpecP.body I_whittlerref3_num tabOK Tryz.func101 rfl Tryz.call101 (by show 1 ≤ _; decide) ?_
  conv => whnf
  repeat' (refine And.intro rfl ?_; conv => whnf)
  exact ⟨_, .p (Sub.agg (by repeat' (first | exact SubL.nil | refine SubL.cons ?_ ?_ | exact Sub.refl _ | exact Sub.nils | exact Sub.ff rfl))), rfl⟩
set_option maxRecDepth 100000 in
theorem whittlerref3_name (s : Str) : SpecP Tryz.prog 102 [.str s] (fun r => r = .agg (X.mk 2 0 s []).cells) := by
  refine SpecP.body I_whittlerref3_name tabOK Tryz.func102 rfl Tryz.call102 (by show 1 ≤ _; decide) ?_
  conv => whnf
  repeat' (refine And.intro rfl ?_; conv => whnf)
  exact ⟨_, .p (Sub.agg (by repeat' (first | exact SubL.nil | refine SubL.cons ?_ ?_ | exact Sub.refl _ | exact Sub.nils | exact Sub.ff rfl))), rfl⟩
set_option maxRecDepth 100000 in
theorem whittlerref3_two (op : Int) (a b : X) : SpecP Tryz.prog 103 [.int .i64 op, .agg a.cells, .agg b.cells] (fun r => r = .agg (X.mk op 0 [] [a, b]).cells) := by
  refine SpecP.body I_whittlerref3_two tabOK Tryz.func103 rfl Tryz.call103 (by show 3 ≤ _; decide) ?_
  conv => whnf
  repeat' ((first | (refine And.intro rfl ?_) | (refine And.intro ⟨by decide, by decide⟩ ?_) | (refine BsK.pureL rfl rfl ?_)); conv => whnf)
  have e : X.avs [a, b] = [.agg a.cells, .agg b.cells] := by simp only [X.avs, X.av_eq]
  exact ⟨_, .p (Sub.agg (SubL.cons (Sub.refl _) (SubL.cons (Sub.refl _) (SubL.cons (Sub.refl _) (SubL.cons (Sub.of_eq (by show _ = AV.sl (X.avs [a, b]); rw [e]; rfl)) SubL.nil))))), rfl⟩
def bs (l : List Nat) : Str := l.map fun n => UInt8.ofNat n
def someP : Pg := ⟨[[103]], [
  ⟨[109, 97, 105, 110], [], [[118]], [
    .mk 1 1 [] [118] [] (.mk 1 2 [] []) false [] [] [],
    .mk 2 4 [] [103] [112] (.mk 0 0 [] []) false [⟨false, [], .mk 1 3 [] []⟩, ⟨true, [118], .mk 0 0 [] []⟩] [] [],
    .mk 3 3 [] [] [] (.mk 2 0 [118] []) false [] [] [],
    .mk 4 3 [] [] [] (.mk 2 0 [103] []) false [] [] []], []⟩,
  ⟨[112], [⟨[120], false⟩, ⟨[121], true⟩], [], [
    .mk 5 1 [] [121] [] (.mk 8 0 [] [.mk 2 0 [121] [], .mk 2 0 [120] []]) false [] [] [],
    .mk 6 5 [] [] [] (.mk 12 0 [] [.mk 2 0 [121] [], .mk 1 9 [] []]) false [] [.mk 7 10 [] [101] [] (.mk 0 0 [] []) false [] [] []] [],
    .mk 8 9 [] [] [] (.mk 2 0 [121] []) true [] [] []], [[101]]⟩]⟩
set_option maxHeartbeats 4000000 in
set_option maxRecDepth 100000 in
theorem whittlerref3_Some : SpecP Tryz.prog 57 [] (fun r => r = .agg someP.cells) := by
  refine SpecP.body I_whittlerref3_Some tabOK Tryz.func57 rfl Tryz.call57 (by show 0 ≤ _; decide) ?_
  conv => whnf
  repeat' ((first | (refine CallK.pure (whittlerref3_num _) (by repeat' (first | exact ArgP.nil | refine ArgP.cons ?_ ?_ | exact Sub.refl _ | exact Sub.tt rfl | exact Sub.ff rfl)) ?_; rintro _ rfl) | (refine CallK.pure (whittlerref3_name _) (by repeat' (first | exact ArgP.nil | refine ArgP.cons ?_ ?_ | exact Sub.refl _ | exact Sub.tt rfl | exact Sub.ff rfl)) ?_; rintro _ rfl) | (refine And.intro rfl ?_) | (refine And.intro ⟨by decide, by decide⟩ ?_) | (refine BsK.pure (fun x hx => by rcases List.mem_singleton.1 hx with rfl; rfl) rfl ?_) | (refine BsK.pureL rfl rfl ?_) | (refine CallK.pure (whittlerref3_two 8 (.mk 2 0 [121] []) (.mk 2 0 [120] [])) (.cons (Sub.refl _) (.cons (Sub.refl _) (.cons (Sub.refl _) .nil))) ?_; rintro _ rfl) | (refine CallK.pure (whittlerref3_two 12 (.mk 2 0 [121] []) (.mk 1 9 [] [])) (.cons (Sub.refl _) (.cons (Sub.refl _) (.cons (Sub.refl _) .nil))) ?_; rintro _ rfl)); conv => whnf)
  exact ⟨_, .p (Sub.agg (by repeat' (first | exact SubL.nil | exact SubE.nil | exact Sub.nils | exact Sub.ff rfl | exact Sub.tt rfl | refine SubL.cons ?_ ?_ | refine SubE.cons ?_ ?_ | exact Sub.refl _ | refine Sub.agg ?_ | refine Sub.sl ?_))), rfl⟩
end Go.Ab
namespace Go.Ab
open Go.Proofs
mutual
def onS (b : Bool) : S → S
  | .mk id kind labels name proc x has args thn els => if kind = 4 ∨ (7 ≤ kind ∧ b = false) then .mk 0 3 (if b then labels else []) [] [] (.mk 1 7 [] []) false [] (onL b thn) (onL b els) else .mk id kind (if b then labels else []) name proc x has args (onL b thn) (onL b els)
def onL (b : Bool) : List S → List S
  | [] => []
  | t :: r => onS b t :: onL b r
end
theorem onS_eq (b : Bool) (t : S) : onS b t = if t.kind = 4 ∨ (7 ≤ t.kind ∧ b = false) then .mk 0 3 (if b then t.labels else []) [] [] (.mk 1 7 [] []) false [] (onL b t.thn) (onL b t.els) else .mk t.id t.kind (if b then t.labels else []) t.name t.proc t.x t.has t.args (onL b t.thn) (onL b t.els) := by
  cases t
  rw [onS]
  rfl
theorem onL_map (b : Bool) : ∀ l : List S, onL b l = l.map (onS b)
  | [] => by rw [onL]; rfl
  | t :: r => by rw [onL, onL_map b r]; rfl
set_option maxHeartbeats 4000000 in
set_option maxRecDepth 100000 in
theorem whittlerref3_only (b : Bool) : ∀ (k : Nat) (l : List S) (_ : cntL l < k) (_ : cntL l ≤ 1000000) (_ : ∀ t ∈ flL l, okC t), SpecP Tryz.prog 90 [eSs l, .bool b] (fun r => r = eSs (onL b l)) := by
  intro k
  induction k with
  | zero => intro l h; omega
  | succ k ih =>
    intro l hk hn hok
    have hsl : (S.avs l).length = l.length := by rw [S.avs_eq, List.length_map]
    have hcl := cntL_len l
    refine SpecP.body I_whittlerref3_only tabOK Tryz.func90 rfl Tryz.call90 (by show 2 ≤ _; decide) ?_
    conv => whnf
    repeat' (first | ((first | (intro (_ : _ ≤ 9223372036854775807)) | (refine DrawK.auto tabOK mixed (by kernel_rfl) ?_) | (refine And.intro rfl ?_) | (refine And.intro ⟨by decide, by decide⟩ ?_) | (refine And.intro ⟨rfl, rfl, by decide⟩ ?_) | (refine BsK.pure (fun x hx => by rcases List.mem_singleton.1 hx with rfl; rfl) rfl ?_) | (refine IdxK.map (by omega) (fun _ => rfl) ?_) | (refine IdxK.xs (by omega) ?_) | (refine IdxK.ss (by omega) ?_) | (refine ByteK.at (by omega) ?_) | (refine Wr.i64 (by omega) (by omega) ?_)); conv => whnf) | (refine Br.dec (fun _ => ?_) (fun _ => ?_) <;> first | (exfalso; omega) | conv => whnf) | (refine Br.dec2 (fun _ => ?_) (fun _ => ?_) <;> first | (exfalso; omega) | conv => whnf) | (refine Br.n (fun _ => ?_) (fun _ => ?_) <;> conv => whnf) | (refine Br.b (fun _ => ?_) (fun _ => ?_) <;> conv => whnf))
    refine LoopK.inv tabOK (fun j : Nat => ⟨[(1, .p (.bool b)), (5, .hd 0 0 j), (9, .p (eSs l)), (10, .p (.int .i64 (S.avs l).length)), (11, .p (.int .i64 j))], [(0, .own 60 13 (S.avs ((onL b l).take j)))]⟩) (fun j => j ≤ l.length) (fun j => l.length - j) 0
      (Le.mk [(0, .own 60 13 [])] (by simp [Chunk.new0]; rfl) (by simp) (by simp) (.cons (.refl _) (.cons (.nil List.mem_cons_self) (.cons (.refl _) (.cons (.refl _) (.cons (.refl _) .nil))))) (.new List.mem_cons_self .nil)) (Nat.zero_le _) ?_
    intro j h2
    rcases Nat.lt_or_ge j l.length with hj | hj
    · have htm := cntL_mem (List.getElem_mem hj)
      have hcs := cntS_eq l[j]
      have hself := hok _ (flL_self l _ (List.getElem_mem hj))
      have hsub : ∀ t, t ∈ flL l[j].thn ∨ t ∈ flL l[j].els → okC t := fun t ht => hok t (by
        have : t ∈ flS l[j] := by
          rw [flS_eq]
          exact List.mem_cons_of_mem _ (List.mem_append.2 ht)
        have key : ∀ (m : List S) (i : Nat) (h : i < m.length), t ∈ flS m[i] → t ∈ flL m := fun m => by
          induction m with
          | nil => intro i h; simp at h
          | cons a r ih =>
            intro i h ht
            rw [flL]
            cases i with
            | zero => exact List.mem_append.2 (.inl ht)
            | succ i => exact List.mem_append.2 (.inr (ih i (by simpa using h) ht))
        exact key l j hj this)
      have h5 := whittlerref3_copyOne l[j] hself.1 hself.2.1 hself.2.2.1 hself.2.2.2
      have h6 := ih l[j].thn (by omega) (by omega) fun t ht => hsub t (.inl ht)
      have h7 := ih l[j].els (by omega) (by omega) fun t ht => hsub t (.inr ht)
      have hacl : j = (S.avs ((onL b l).take j)).length := by rw [S.avs_eq, List.length_map, List.length_take, onL_map, List.length_map]; omega
      have hav : S.avs ((onL b l).take (j + 1)) = S.avs ((onL b l).take j) ++ [.agg (onS b l[j]).cells] := by
        rw [S.avs_eq, S.avs_eq, onL_map, List.take_add_one, List.getElem?_map, List.getElem?_eq_getElem hj, List.map_append]
        rfl
      generalize S.avs ((onL b l).take j) = acc at hacl hav ⊢
      cases b with
      | true =>
        conv => whnf
        repeat' (first | ((first | (intro (_ : _ ≤ 9223372036854775807)) | (refine DrawK.auto tabOK mixed (by kernel_rfl) ?_) | (refine And.intro rfl ?_) | (refine And.intro ⟨by decide, by decide⟩ ?_) | (refine And.intro ⟨rfl, rfl, by decide⟩ ?_) | (refine BsK.pure (fun x hx => by rcases List.mem_singleton.1 hx with rfl; rfl) rfl ?_) | (refine IdxK.map (by omega) (fun _ => rfl) ?_) | (refine IdxK.xs (by omega) ?_) | (refine IdxK.ss (by omega) ?_) | (refine ByteK.at (by omega) ?_) | (refine Wr.i64 (by omega) (by omega) ?_) | (refine CallK.pure (whittlerref3_texts l[j].labels hself.2.1) (.cons (Sub.refl _) .nil) ?_; rintro _ rfl) | (refine CallK.pure (whittlerref3_num 7) (.cons (Sub.refl _) .nil) ?_; rintro _ rfl) | (refine CallK.pure h5 (.cons (Sub.refl _) .nil) ?_; rintro _ rfl) | (refine CallK.pure h6 (.cons (Sub.refl _) (.cons (by first | exact Sub.refl _ | exact Sub.tt rfl | exact Sub.ff rfl) .nil)) ?_; rintro _ rfl) | (refine CallK.pure h7 (.cons (Sub.refl _) (.cons (by first | exact Sub.refl _ | exact Sub.tt rfl | exact Sub.ff rfl) .nil)) ?_; rintro _ rfl) | (refine AppK.mk hacl rfl (by show (j+1) * 208 ≤ 140737488355328; omega) (by show j+1 ≤ 9223372036854775807; omega) (fun x hx => by rcases List.mem_singleton.1 hx with rfl; exact ⟨rfl, rfl⟩) ?_)); conv => whnf) | (refine Br.dec (fun _ => ?_) (fun _ => ?_) <;> first | (exfalso; omega) | conv => whnf) | (refine Br.dec2 (fun _ => ?_) (fun _ => ?_) <;> first | (exfalso; omega) | conv => whnf) | (refine Br.n (fun _ => ?_) (fun _ => ?_) <;> conv => whnf) | (refine Br.b (fun _ => ?_) (fun _ => ?_) <;> conv => whnf))
        all_goals try contradiction
        all_goals first
          | (have e := (onS_eq true l[j]).trans (if_pos (by first | exact .inl (by assumption) | exact .inr ⟨by omega, rfl⟩))
             exact ⟨j + 1, hj, by omega, (Le.els (.els (ElS.snoc (ElS.refl acc) (x' := .agg (onS true l[j]).cells) (by rw [e]; rfl) (fun i c' hc => by
             rw [e] at hc
             match i, hc with
             | 0, hc => cases hc; exact ⟨_, rfl, by first | exact Sub.refl _ | exact Sub.nils | exact Sub.ff rfl⟩
             | 1, hc => cases hc; exact ⟨_, rfl, by first | exact Sub.refl _ | exact Sub.nils | exact Sub.ff rfl⟩
             | 2, hc => cases hc; exact ⟨_, rfl, by first | exact Sub.refl _ | exact Sub.nils | exact Sub.ff rfl⟩
             | 3, hc => cases hc; exact ⟨_, rfl, by first | exact Sub.refl _ | exact Sub.nils | exact Sub.ff rfl⟩
             | 4, hc => cases hc; exact ⟨_, rfl, by first | exact Sub.refl _ | exact Sub.nils | exact Sub.ff rfl⟩
             | 5, hc => cases hc; exact ⟨_, rfl, by first | exact Sub.refl _ | exact Sub.nils | exact Sub.ff rfl⟩
             | 6, hc => cases hc; exact ⟨_, rfl, by first | exact Sub.refl _ | exact Sub.nils | exact Sub.ff rfl⟩
             | 7, hc => cases hc; exact ⟨_, rfl, by first | exact Sub.refl _ | exact Sub.nils | exact Sub.ff rfl⟩
             | 8, hc => cases hc; exact ⟨_, rfl, by first | exact Sub.refl _ | exact Sub.nils | exact Sub.ff rfl⟩
             | 9, hc => cases hc; exact ⟨_, rfl, by first | exact Sub.refl _ | exact Sub.nils | exact Sub.ff rfl⟩
             | 10, hc => cases hc; exact ⟨_, rfl, by first | exact Sub.refl _ | exact Sub.nils | exact Sub.ff rfl⟩
             | 11, hc => cases hc; exact ⟨_, rfl, by first | exact Sub.refl _ | exact Sub.nils | exact Sub.ff rfl⟩
             | 12, hc => cases hc; exact ⟨_, rfl, by first | exact Sub.refl _ | exact Sub.nils | exact Sub.ff rfl⟩
             | i + 13, hc => simp [AV.cells, S.cells] at hc)) .nil)).trans (Le.of_eq (by rw [hav]; rfl))⟩)
          | (have e := (onS_eq true l[j]).trans (if_neg (by rintro (h | ⟨h, h'⟩) <;> first | contradiction | omega))
             exact ⟨j + 1, hj, by omega, (Le.els (.els (ElS.snoc (ElS.refl acc) (x' := .agg (onS true l[j]).cells) (by rw [e]; rfl) (fun i c' hc => by
             rw [e] at hc
             match i, hc with
             | 0, hc => cases hc; exact ⟨_, rfl, by first | exact Sub.refl _ | exact Sub.nils | exact Sub.ff rfl⟩
             | 1, hc => cases hc; exact ⟨_, rfl, by first | exact Sub.refl _ | exact Sub.nils | exact Sub.ff rfl⟩
             | 2, hc => cases hc; exact ⟨_, rfl, by first | exact Sub.refl _ | exact Sub.nils | exact Sub.ff rfl⟩
             | 3, hc => cases hc; exact ⟨_, rfl, by first | exact Sub.refl _ | exact Sub.nils | exact Sub.ff rfl⟩
             | 4, hc => cases hc; exact ⟨_, rfl, by first | exact Sub.refl _ | exact Sub.nils | exact Sub.ff rfl⟩
             | 5, hc => cases hc; exact ⟨_, rfl, by first | exact Sub.refl _ | exact Sub.nils | exact Sub.ff rfl⟩
             | 6, hc => cases hc; exact ⟨_, rfl, by first | exact Sub.refl _ | exact Sub.nils | exact Sub.ff rfl⟩
             | 7, hc => cases hc; exact ⟨_, rfl, by first | exact Sub.refl _ | exact Sub.nils | exact Sub.ff rfl⟩
             | 8, hc => cases hc; exact ⟨_, rfl, by first | exact Sub.refl _ | exact Sub.nils | exact Sub.ff rfl⟩
             | 9, hc => cases hc; exact ⟨_, rfl, by first | exact Sub.refl _ | exact Sub.nils | exact Sub.ff rfl⟩
             | 10, hc => cases hc; exact ⟨_, rfl, by first | exact Sub.refl _ | exact Sub.nils | exact Sub.ff rfl⟩
             | 11, hc => cases hc; exact ⟨_, rfl, by first | exact Sub.refl _ | exact Sub.nils | exact Sub.ff rfl⟩
             | 12, hc => cases hc; exact ⟨_, rfl, by first | exact Sub.refl _ | exact Sub.nils | exact Sub.ff rfl⟩
             | i + 13, hc => simp [AV.cells, S.cells] at hc)) .nil)).trans (Le.of_eq (by rw [hav]; rfl))⟩)
          | trace_state
      | false =>
        conv => whnf
        repeat' (first | ((first | (intro (_ : _ ≤ 9223372036854775807)) | (refine DrawK.auto tabOK mixed (by kernel_rfl) ?_) | (refine And.intro rfl ?_) | (refine And.intro ⟨by decide, by decide⟩ ?_) | (refine And.intro ⟨rfl, rfl, by decide⟩ ?_) | (refine BsK.pure (fun x hx => by rcases List.mem_singleton.1 hx with rfl; rfl) rfl ?_) | (refine IdxK.map (by omega) (fun _ => rfl) ?_) | (refine IdxK.xs (by omega) ?_) | (refine IdxK.ss (by omega) ?_) | (refine ByteK.at (by omega) ?_) | (refine Wr.i64 (by omega) (by omega) ?_) | (refine CallK.pure (whittlerref3_texts l[j].labels hself.2.1) (.cons (Sub.refl _) .nil) ?_; rintro _ rfl) | (refine CallK.pure (whittlerref3_num 7) (.cons (Sub.refl _) .nil) ?_; rintro _ rfl) | (refine CallK.pure h5 (.cons (Sub.refl _) .nil) ?_; rintro _ rfl) | (refine CallK.pure h6 (.cons (Sub.refl _) (.cons (by first | exact Sub.refl _ | exact Sub.tt rfl | exact Sub.ff rfl) .nil)) ?_; rintro _ rfl) | (refine CallK.pure h7 (.cons (Sub.refl _) (.cons (by first | exact Sub.refl _ | exact Sub.tt rfl | exact Sub.ff rfl) .nil)) ?_; rintro _ rfl) | (refine AppK.mk hacl rfl (by show (j+1) * 208 ≤ 140737488355328; omega) (by show j+1 ≤ 9223372036854775807; omega) (fun x hx => by rcases List.mem_singleton.1 hx with rfl; exact ⟨rfl, rfl⟩) ?_)); conv => whnf) | (refine Br.dec (fun _ => ?_) (fun _ => ?_) <;> first | (exfalso; omega) | conv => whnf) | (refine Br.dec2 (fun _ => ?_) (fun _ => ?_) <;> first | (exfalso; omega) | conv => whnf) | (refine Br.n (fun _ => ?_) (fun _ => ?_) <;> conv => whnf) | (refine Br.b (fun _ => ?_) (fun _ => ?_) <;> conv => whnf))
        all_goals try contradiction
        all_goals first
          | (have e := (onS_eq false l[j]).trans (if_pos (by first | exact .inl (by assumption) | exact .inr ⟨by omega, rfl⟩))
             exact ⟨j + 1, hj, by omega, (Le.els (.els (ElS.snoc (ElS.refl acc) (x' := .agg (onS false l[j]).cells) (by rw [e]; rfl) (fun i c' hc => by
             rw [e] at hc
             match i, hc with
             | 0, hc => cases hc; exact ⟨_, rfl, by first | exact Sub.refl _ | exact Sub.nils | exact Sub.ff rfl⟩
             | 1, hc => cases hc; exact ⟨_, rfl, by first | exact Sub.refl _ | exact Sub.nils | exact Sub.ff rfl⟩
             | 2, hc => cases hc; exact ⟨_, rfl, by first | exact Sub.refl _ | exact Sub.nils | exact Sub.ff rfl⟩
             | 3, hc => cases hc; exact ⟨_, rfl, by first | exact Sub.refl _ | exact Sub.nils | exact Sub.ff rfl⟩
             | 4, hc => cases hc; exact ⟨_, rfl, by first | exact Sub.refl _ | exact Sub.nils | exact Sub.ff rfl⟩
             | 5, hc => cases hc; exact ⟨_, rfl, by first | exact Sub.refl _ | exact Sub.nils | exact Sub.ff rfl⟩
             | 6, hc => cases hc; exact ⟨_, rfl, by first | exact Sub.refl _ | exact Sub.nils | exact Sub.ff rfl⟩
             | 7, hc => cases hc; exact ⟨_, rfl, by first | exact Sub.refl _ | exact Sub.nils | exact Sub.ff rfl⟩
             | 8, hc => cases hc; exact ⟨_, rfl, by first | exact Sub.refl _ | exact Sub.nils | exact Sub.ff rfl⟩
             | 9, hc => cases hc; exact ⟨_, rfl, by first | exact Sub.refl _ | exact Sub.nils | exact Sub.ff rfl⟩
             | 10, hc => cases hc; exact ⟨_, rfl, by first | exact Sub.refl _ | exact Sub.nils | exact Sub.ff rfl⟩
             | 11, hc => cases hc; exact ⟨_, rfl, by first | exact Sub.refl _ | exact Sub.nils | exact Sub.ff rfl⟩
             | 12, hc => cases hc; exact ⟨_, rfl, by first | exact Sub.refl _ | exact Sub.nils | exact Sub.ff rfl⟩
             | i + 13, hc => simp [AV.cells, S.cells] at hc)) .nil)).trans (Le.of_eq (by rw [hav]; rfl))⟩)
          | (have e := (onS_eq false l[j]).trans (if_neg (by rintro (h | ⟨h, h'⟩) <;> first | contradiction | omega))
             exact ⟨j + 1, hj, by omega, (Le.els (.els (ElS.snoc (ElS.refl acc) (x' := .agg (onS false l[j]).cells) (by rw [e]; rfl) (fun i c' hc => by
             rw [e] at hc
             match i, hc with
             | 0, hc => cases hc; exact ⟨_, rfl, by first | exact Sub.refl _ | exact Sub.nils | exact Sub.ff rfl⟩
             | 1, hc => cases hc; exact ⟨_, rfl, by first | exact Sub.refl _ | exact Sub.nils | exact Sub.ff rfl⟩
             | 2, hc => cases hc; exact ⟨_, rfl, by first | exact Sub.refl _ | exact Sub.nils | exact Sub.ff rfl⟩
             | 3, hc => cases hc; exact ⟨_, rfl, by first | exact Sub.refl _ | exact Sub.nils | exact Sub.ff rfl⟩
             | 4, hc => cases hc; exact ⟨_, rfl, by first | exact Sub.refl _ | exact Sub.nils | exact Sub.ff rfl⟩
             | 5, hc => cases hc; exact ⟨_, rfl, by first | exact Sub.refl _ | exact Sub.nils | exact Sub.ff rfl⟩
             | 6, hc => cases hc; exact ⟨_, rfl, by first | exact Sub.refl _ | exact Sub.nils | exact Sub.ff rfl⟩
             | 7, hc => cases hc; exact ⟨_, rfl, by first | exact Sub.refl _ | exact Sub.nils | exact Sub.ff rfl⟩
             | 8, hc => cases hc; exact ⟨_, rfl, by first | exact Sub.refl _ | exact Sub.nils | exact Sub.ff rfl⟩
             | 9, hc => cases hc; exact ⟨_, rfl, by first | exact Sub.refl _ | exact Sub.nils | exact Sub.ff rfl⟩
             | 10, hc => cases hc; exact ⟨_, rfl, by first | exact Sub.refl _ | exact Sub.nils | exact Sub.ff rfl⟩
             | 11, hc => cases hc; exact ⟨_, rfl, by first | exact Sub.refl _ | exact Sub.nils | exact Sub.ff rfl⟩
             | 12, hc => cases hc; exact ⟨_, rfl, by first | exact Sub.refl _ | exact Sub.nils | exact Sub.ff rfl⟩
             | i + 13, hc => simp [AV.cells, S.cells] at hc)) .nil)).trans (Le.of_eq (by rw [hav]; rfl))⟩)
          | trace_state
    · have hall : (onL b l).take j = onL b l := List.take_of_length_le (by rw [onL_map, List.length_map]; exact hj)
      have hjl : j = (S.avs (onL b l)).length := by rw [S.avs_eq, List.length_map, onL_map, List.length_map]; omega
      rw [hall]
      conv => whnf
      repeat' (first | ((first | (intro (_ : _ ≤ 9223372036854775807)) | (refine DrawK.auto tabOK mixed (by kernel_rfl) ?_) | (refine And.intro rfl ?_) | (refine And.intro ⟨by decide, by decide⟩ ?_) | (refine And.intro ⟨rfl, rfl, by decide⟩ ?_) | (refine BsK.pure (fun x hx => by rcases List.mem_singleton.1 hx with rfl; rfl) rfl ?_) | (refine IdxK.map (by omega) (fun _ => rfl) ?_) | (refine IdxK.xs (by omega) ?_) | (refine IdxK.ss (by omega) ?_) | (refine ByteK.at (by omega) ?_) | (refine Wr.i64 (by omega) (by omega) ?_)); conv => whnf) | (refine Br.dec (fun _ => ?_) (fun _ => ?_) <;> first | (exfalso; omega) | conv => whnf) | (refine Br.dec2 (fun _ => ?_) (fun _ => ?_) <;> first | (exfalso; omega) | conv => whnf) | (refine Br.n (fun _ => ?_) (fun _ => ?_) <;> conv => whnf) | (refine Br.b (fun _ => ?_) (fun _ => ?_) <;> conv => whnf))
      exact ⟨_, .hd rfl hjl, rfl⟩
end Go.Ab
namespace Go.Ab
open Go.Proofs
/-- The statement that nobody is: number -1. -/
def stmtM : List AV := [.int .i64 (-1), .int .i64 0, .nils, .str [], .str [], .int .i64 0, .int .i64 0, .str [], .nils, .ff, .nils, .nils, .nils]
set_option maxHeartbeats 4000000 in
set_option maxRecDepth 100000 in
theorem whittlerref3_put : ∀ (k : Nat) (l : List S) (_ : cntL l < k) (_ : cntL l ≤ 1000000) (_ : ∀ t ∈ flL l, okC t ∧ t.id ≠ -1), SpecP Tryz.prog 190 [eSs l, .agg stmtM] (fun r => r = eSs l) := by
  intro k
  induction k with
  | zero => intro l h; omega
  | succ k ih =>
    intro l hk hn hok
    have hsl : (S.avs l).length = l.length := by rw [S.avs_eq, List.length_map]
    have hcl := cntL_len l
    refine SpecP.body I_whittlerref3_put tabOK Tryz.func190 rfl Tryz.call190 (by show 2 ≤ _; decide) ?_
    conv => whnf
    repeat' (first | ((first | (intro (_ : _ ≤ 9223372036854775807)) | (refine DrawK.auto tabOK mixed (by kernel_rfl) ?_) | (refine And.intro rfl ?_) | (refine And.intro ⟨by decide, by decide⟩ ?_) | (refine And.intro ⟨rfl, rfl, by decide⟩ ?_) | (refine BsK.pure (fun x hx => by rcases List.mem_singleton.1 hx with rfl; rfl) rfl ?_) | (refine IdxK.map (by omega) (fun _ => rfl) ?_) | (refine IdxK.xs (by omega) ?_) | (refine IdxK.ss (by omega) ?_) | (refine ByteK.at (by omega) ?_) | (refine Wr.i64 (by omega) (by omega) ?_)); conv => whnf) | (refine Br.dec (fun _ => ?_) (fun _ => ?_) <;> first | (exfalso; omega) | conv => whnf) | (refine Br.dec2 (fun _ => ?_) (fun _ => ?_) <;> first | (exfalso; omega) | conv => whnf) | (refine Br.n (fun _ => ?_) (fun _ => ?_) <;> conv => whnf) | (refine Br.b (fun _ => ?_) (fun _ => ?_) <;> conv => whnf))
    refine LoopK.inv tabOK (fun j : Nat => ⟨[(3, .p (.ip stmtM)), (5, .hd 0 0 j), (9, .p (eSs l)), (10, .p (.int .i64 (S.avs l).length)), (11, .p (.int .i64 j))], [(0, .own 60 13 (S.avs (l.take j)))]⟩) (fun j => j ≤ l.length) (fun j => l.length - j) 0
      (Le.mk [(0, .own 60 13 [])] (by simp [Chunk.new0]; rfl) (by simp) (by simp) (.cons (.refl _) (.cons (.nil List.mem_cons_self) (.cons (.refl _) (.cons (.refl _) (.cons (.refl _) .nil))))) (.new List.mem_cons_self .nil)) (Nat.zero_le _) ?_
    intro j h2
    rcases Nat.lt_or_ge j l.length with hj | hj
    · have htm := cntL_mem (List.getElem_mem hj)
      have hcs := cntS_eq l[j]
      have hself := hok _ (flL_self l _ (List.getElem_mem hj))
      have hsub : ∀ t, t ∈ flL l[j].thn ∨ t ∈ flL l[j].els → okC t ∧ t.id ≠ -1 := fun t ht => hok t (by
        have : t ∈ flS l[j] := by
          rw [flS_eq]
          exact List.mem_cons_of_mem _ (List.mem_append.2 ht)
        have key : ∀ (m : List S) (i : Nat) (h : i < m.length), t ∈ flS m[i] → t ∈ flL m := fun m => by
          induction m with
          | nil => intro i h; simp at h
          | cons a r ih =>
            intro i h ht
            rw [flL]
            cases i with
            | zero => exact List.mem_append.2 (.inl ht)
            | succ i => exact List.mem_append.2 (.inr (ih i (by simpa using h) ht))
        exact key l j hj this)
      have h5 := whittlerref3_copyOne l[j] hself.1.1 hself.1.2.1 hself.1.2.2.1 hself.1.2.2.2
      have hid := hself.2
      have h6 := ih l[j].thn (by omega) (by omega) fun t ht => hsub t (.inl ht)
      have h7 := ih l[j].els (by omega) (by omega) fun t ht => hsub t (.inr ht)
      have hacl : j = (S.avs (l.take j)).length := by rw [S.avs_eq, List.length_map, List.length_take]; omega
      have hav : S.avs (l.take (j + 1)) = S.avs (l.take j) ++ [.agg l[j].cells] := by
        rw [S.avs_eq, S.avs_eq, List.take_succ_eq_append_getElem hj, List.map_append]
        rfl
      generalize S.avs (l.take j) = acc at hacl hav ⊢
      have e : l[j] = .mk l[j].id l[j].kind l[j].labels l[j].name l[j].proc l[j].x l[j].has l[j].args l[j].thn l[j].els := by cases l[j]; rfl
      conv => whnf
      repeat' (first | ((first | (intro (_ : _ ≤ 9223372036854775807)) | (refine DrawK.auto tabOK mixed (by kernel_rfl) ?_) | (refine And.intro rfl ?_) | (refine And.intro ⟨by decide, by decide⟩ ?_) | (refine And.intro ⟨rfl, rfl, by decide⟩ ?_) | (refine BsK.pure (fun x hx => by rcases List.mem_singleton.1 hx with rfl; rfl) rfl ?_) | (refine IdxK.map (by omega) (fun _ => rfl) ?_) | (refine IdxK.xs (by omega) ?_) | (refine IdxK.ss (by omega) ?_) | (refine ByteK.at (by omega) ?_) | (refine Wr.i64 (by omega) (by omega) ?_) | (refine CallK.pure h5 (.cons (Sub.refl _) .nil) ?_; rintro _ rfl) | (refine CallK.pure h6 (.cons (Sub.refl _) (.cons (Sub.refl _) .nil)) ?_; rintro _ rfl) | (refine CallK.pure h7 (.cons (Sub.refl _) (.cons (Sub.refl _) .nil)) ?_; rintro _ rfl) | (refine AppK.mk hacl rfl (by show (j+1) * 208 ≤ 140737488355328; omega) (by show j+1 ≤ 9223372036854775807; omega) (fun x hx => by rcases List.mem_singleton.1 hx with rfl; exact ⟨rfl, rfl⟩) ?_)); conv => whnf) | (refine Br.dec (fun _ => ?_) (fun _ => ?_) <;> first | (exfalso; omega) | conv => whnf) | (refine Br.dec2 (fun _ => ?_) (fun _ => ?_) <;> first | (exfalso; omega) | conv => whnf) | (refine Br.n (fun _ => ?_) (fun _ => ?_) <;> conv => whnf) | (refine Br.b (fun _ => ?_) (fun _ => ?_) <;> conv => whnf))
      all_goals first
        | exact ⟨j + 1, hj, by omega, Le.of_eq (by rw [hav]; rfl)⟩
        | contradiction
        | trace_state
    · have hall : l.take j = l := List.take_of_length_le hj
      have hjl : j = (S.avs l).length := by rw [S.avs_eq, List.length_map]; omega
      rw [hall]
      conv => whnf
      repeat' (first | ((first | (intro (_ : _ ≤ 9223372036854775807)) | (refine DrawK.auto tabOK mixed (by kernel_rfl) ?_) | (refine And.intro rfl ?_) | (refine And.intro ⟨by decide, by decide⟩ ?_) | (refine And.intro ⟨rfl, rfl, by decide⟩ ?_) | (refine BsK.pure (fun x hx => by rcases List.mem_singleton.1 hx with rfl; rfl) rfl ?_) | (refine IdxK.map (by omega) (fun _ => rfl) ?_) | (refine IdxK.xs (by omega) ?_) | (refine IdxK.ss (by omega) ?_) | (refine ByteK.at (by omega) ?_) | (refine Wr.i64 (by omega) (by omega) ?_)); conv => whnf) | (refine Br.dec (fun _ => ?_) (fun _ => ?_) <;> first | (exfalso; omega) | conv => whnf) | (refine Br.dec2 (fun _ => ?_) (fun _ => ?_) <;> first | (exfalso; omega) | conv => whnf) | (refine Br.n (fun _ => ?_) (fun _ => ?_) <;> conv => whnf) | (refine Br.b (fun _ => ?_) (fun _ => ?_) <;> conv => whnf))
      exact ⟨_, .hd rfl hjl, rfl⟩
end Go.Ab
