/- The reference's expressions: how deep, which may be. -/
import Derived.Test.YtneccajakpeodaaGreatCdpS9
set_option linter.unusedSimpArgs false
set_option linter.unusedVariables false
set_option maxRecDepth 100000
set_option maxHeartbeats 16000000
namespace Go.Ab
open Go.Proofs
def maxN : List Nat → Nat
 | [] => 0
 | a :: r => max a (maxN r)
def deepI : Nat → X → Nat
 | 0, _ => 1
 | m + 1, x => 1 + maxN (x.kids.map (deepI m))
theorem maxN_le {l : List Nat} {m : Nat} (h : ∀ a ∈ l, a ≤ m) : maxN l ≤ m := by
 induction l with
 | nil => exact Nat.zero_le _
 | cons a r ih =>
   have := ih fun b hb => h b (List.mem_cons_of_mem _ hb)
   have := h a List.mem_cons_self
   rw [maxN]
   omega
def mayXR (x : X) : Bool := decide (deepI 20 x ≤ 20) && formF (wX x + 1) x
theorem deepB_form : ∀ (n : Nat) (x : X), deepB n x = true → deepI n x ≤ n ∧ ∀ k, formF k x = true
 | 0, x, h => by rw [deepB] at h; cases h
 | n + 1, x, h => by
   rw [deepB] at h
   simp only [Bool.and_eq_true, decide_eq_true_eq] at h
   obtain ⟨h1, h2⟩ := h
   have hkids : (∀ y ∈ x.kids, deepB n y = true) ∧ okForm x = true := by
    split at h2
    ·rename_i ho
     simp only [Bool.and_eq_true, decide_eq_true_eq] at h2
     have hk0 : x.kids = [] := by
      rw [ho] at h1
      have : kidsN 1 = 0 := by decide
      rw [this] at h1
      exact List.length_eq_zero_iff.1 (by omega)
     refine ⟨by rw [hk0]; simp, ?_⟩
     unfold okForm
     rw [h1, ho, h2.2]
     simp [h2.1]
    split at h2
    ·rename_i ho
     simp only [Bool.and_eq_true, decide_eq_true_eq] at h2
     have hk0 : x.kids = [] := by
      rw [ho] at h1
      have : kidsN 2 = 0 := by decide
      rw [this] at h1
      exact List.length_eq_zero_iff.1 (by omega)
     have hne : (x.name == []) = false := by
      cases hq : x.name with
      | nil =>
        have := h2.2
        rw [hq] at this
        unfold isName at this
        rw [dif_neg (by simp)] at this
        cases this
      | cons a r => rfl
     refine ⟨by rw [hk0]; simp, ?_⟩
     unfold okForm
     rw [h1, ho, h2.2, hne, h2.1]
     simp
    ·rename_i ho1 ho2
     simp only [Bool.and_eq_true, decide_eq_true_eq, List.all_eq_true] at h2
     refine ⟨h2.2, ?_⟩
     unfold okForm
     rw [h1, h2.1.1, h2.1.2]
     simp [ho1, ho2]
   refine ⟨?_, fun k => ?_⟩
   ·rw [deepI]
    have : maxN (x.kids.map (deepI n)) ≤ n := maxN_le fun a ha => by
     obtain ⟨y, hy, rfl⟩ := List.mem_map.1 ha
     exact (deepB_form n y (hkids.1 y hy)).1
    omega
   ·cases k with
    | zero => rfl
    | succ k =>
      rw [formF, hkids.2, Bool.true_and, List.all_eq_true]
      exact fun y hy => (deepB_form n y (hkids.1 y hy)).2 k
theorem mayX_R {x : X} (h : mayX x = true) : mayXR x = true := by
 obtain ⟨h1, h2⟩ := deepB_form 20 x h
 unfold mayXR
 rw [decide_eq_true h1, h2]
 rfl
open Go.Proofs
def argR (a : Arg) : Bool := bif a.ref then isName a.name && noneB a.x else (a.name == []) && mayXR a.x
theorem handB_R {a : Arg} (h : handB a = true) : argR a = true := by
 unfold handB namedB worthB at h
 unfold argR
 cases hr : a.ref with
 | true =>
   rw [hr] at h
   simpa using h
 | false =>
   rw [hr] at h
   simp only [cond_false, Bool.not_false, cond_true, Bool.and_eq_true] at h
   rw [h.1, mayX_R h.2]
   rfl
open Go.Proofs
def oneOk (s : S) : Bool := fieldsB s && namesB s.labels
def hasXB (s : S) : Bool := decide (s.kind = 1) || decide (s.kind = 3) || decide (s.kind = 5) || decide (s.kind = 6) || (decide (s.kind = 9) && s.has)
structure OneF (s : S) : Prop where
 labels : namesB s.labels = true
 lo : 1 ≤ s.kind
 hi : s.kind ≤ 10
 x : hasXB s = true → mayXR s.x = true
 nox : hasXB s = false → noneB s.x = true
 has : s.has = true → s.kind = 9
 name : s.kind = 1 ∨ s.kind = 2 ∨ s.kind = 10 → isName s.name = true
 noname : ¬ (s.kind = 1 ∨ s.kind = 2 ∨ s.kind = 10) → (s.name == []) = true ∨ (s.kind = 4 ∧ isName s.name = true)
 proc : s.kind = 4 → isName s.proc = true
 noproc : s.kind ≠ 4 → (s.proc == []) = true
 args : s.args.all argR = true
 noargs : s.kind ≠ 4 → s.args.length = 0
 thn : s.thn.length = 0 ∨ s.kind = 5 ∨ s.kind = 6
 els : s.els.length = 0 ∨ s.kind = 5
theorem one_facts {s : S} (h : oneOk s = true) : OneF s := by
 unfold oneOk at h
 rw [Bool.and_eq_true] at h
 obtain ⟨h, hlab⟩ := h
 have hargs : s.args.all handB = true → s.args.all argR = true := fun h => by
  rw [List.all_eq_true] at h ⊢
  exact fun a ha => handB_R (h a ha)
 have key : ∀ (k : Int) (f : Flds), s.kind = k → fldsOf s.kind s.has (s.name == []) = some f → f.has = false ∧ (f.thn = false → s.thn.length = 0) ∧ (f.els = false → s.els.length = 0) ∧ (s.kind ≠ 4 → s.args.length = 0) ∧ namedB s.name f.name = true ∧ namedB s.proc f.proc = true ∧ worthB s.x f.x = true ∧ s.args.all argR = true := fun k f hk hf => by
  rw [fieldsB_of hf] at h
  simp only [Bool.and_eq_true, Bool.not_eq_true', Bool.or_eq_false_iff, Bool.and_eq_false_iff, Bool.not_eq_false', decide_eq_false_iff_not, decide_eq_true_eq] at h
  obtain ⟨⟨⟨⟨⟨⟨⟨h1, h2⟩, h3⟩, h4⟩, h5⟩, h6⟩, h7⟩, h8⟩ := h
  refine ⟨h1, fun hq => ?_, fun hq => ?_, fun hq => ?_, h5, h6, h7, hargs h8⟩
  ·rcases h2 with h2 | h2
   ·rw [hq] at h2; cases h2
   ·omega
  ·rcases h3 with h3 | h3
   ·rw [hq] at h3; cases h3
   ·omega
  ·rcases h4 with h4 | h4
   ·exact absurd h4 hq
   ·omega
 have hkind : s.kind = 1 ∨ s.kind = 2 ∨ s.kind = 3 ∨ s.kind = 4 ∨ s.kind = 5 ∨ s.kind = 6 ∨ s.kind = 7 ∨ s.kind = 8 ∨ s.kind = 9 ∨ s.kind = 10 := by
  unfold fieldsB at h
  split at h
  ·cases h
  ·rename_i f hf
   unfold fldsOf at hf
   (repeat' split at hf) <;> first | (cases hf; done) | omega
 have fin : ∀ (k : Int) (f : Flds), s.kind = k → fldsOf s.kind s.has (s.name == []) = some f → (1 ≤ k ∧ k ≤ 10) → f.x = hasXB s → (s.has = true → f.has = true ∨ k = 9) → ((k = 1 ∨ k = 2 ∨ k = 10) → f.name = true) → (¬ (k = 1 ∨ k = 2 ∨ k = 10) → f.name = false ∨ (k = 4 ∧ f.name = !(s.name == []))) → f.proc = decide (k = 4) → (f.thn = true → k = 5 ∨ k = 6) → (f.els = true → k = 5) → OneF s := fun k f hk hf hkk hfx hfh hfn hfnn hfp hft hfe => by
  obtain ⟨h1, h2, h3, h4, h5, h6, h7, h8⟩ := key k f hk hf
  unfold worthB at h7
  refine ⟨hlab, by omega, by omega, fun hq => ?_, fun hq => ?_, fun hq => ?_, fun hq => ?_, fun hq => ?_, fun hq => ?_, fun hq => ?_, h8, h4, ?_, ?_⟩
  ·rw [hfx, hq] at h7; exact mayX_R h7
  ·rw [hfx, hq] at h7; exact h7
  ·rcases hfh hq with h9 | h9
   ·rw [h1] at h9; cases h9
   ·omega
  ·rw [hfn (by omega)] at h5; exact h5
  ·rcases hfnn (by omega) with h9 | ⟨h9, h10⟩
   ·rw [h9] at h5; exact .inl h5
   ·cases hq2 : s.name == [] with
    | true => exact .inl rfl
    | false =>
      rw [h10, hq2] at h5
      exact .inr ⟨by omega, h5⟩
  ·rw [hfp, decide_eq_true (by omega)] at h6; exact h6
  ·rw [hfp, decide_eq_false (by omega)] at h6; exact h6
  ·cases ht : f.thn with
   | true => exact .inr (by have := hft ht; omega)
   | false => exact .inl (h2 ht)
  ·cases he : f.els with
   | true => exact .inr (by have := hfe he; omega)
   | false => exact .inl (h3 he)
 rcases hkind with hk | hk | hk | hk | hk | hk | hk | hk | hk | hk
 ·exact fin 1 ⟨true, false, true, s.has, false, false⟩ hk (by rw [hk]; rfl) (by omega) (by unfold hasXB; rw [hk]; rfl) (fun h => .inl h) (fun _ => rfl) (fun h => absurd (by omega) h) rfl (fun h => by cases h) (fun h => by cases h)
 ·exact fin 2 ⟨true, false, false, s.has, false, false⟩ hk (by rw [hk]; rfl) (by omega) (by unfold hasXB; rw [hk]; rfl) (fun h => .inl h) (fun _ => rfl) (fun h => absurd (by omega) h) rfl (fun h => by cases h) (fun h => by cases h)
 ·exact fin 3 ⟨false, false, true, s.has, false, false⟩ hk (by rw [hk]; rfl) (by omega) (by unfold hasXB; rw [hk]; rfl) (fun h => .inl h) (fun h => by omega) (fun _ => .inl rfl) rfl (fun h => by cases h) (fun h => by cases h)
 ·exact fin 4 ⟨!(s.name == []), true, false, s.has, false, false⟩ hk (by rw [hk]; rfl) (by omega) (by unfold hasXB; rw [hk]; rfl) (fun h => .inl h) (fun h => by omega) (fun _ => .inr ⟨rfl, rfl⟩) rfl (fun h => by cases h) (fun h => by cases h)
 ·exact fin 5 ⟨false, false, true, s.has, true, true⟩ hk (by rw [hk]; rfl) (by omega) (by unfold hasXB; rw [hk]; rfl) (fun h => .inl h) (fun h => by omega) (fun _ => .inl rfl) rfl (fun _ => .inl rfl) (fun _ => rfl)
 ·exact fin 6 ⟨false, false, true, s.has, true, false⟩ hk (by rw [hk]; rfl) (by omega) (by unfold hasXB; rw [hk]; rfl) (fun h => .inl h) (fun h => by omega) (fun _ => .inl rfl) rfl (fun _ => .inr rfl) (fun h => by cases h)
 ·exact fin 7 ⟨false, false, false, s.has, false, false⟩ hk (by rw [hk]; rfl) (by omega) (by unfold hasXB; rw [hk]; rfl) (fun h => .inl h) (fun h => by omega) (fun _ => .inl rfl) rfl (fun h => by cases h) (fun h => by cases h)
 ·exact fin 8 ⟨false, false, false, s.has, false, false⟩ hk (by rw [hk]; rfl) (by omega) (by unfold hasXB; rw [hk]; rfl) (fun h => .inl h) (fun h => by omega) (fun _ => .inl rfl) rfl (fun h => by cases h) (fun h => by cases h)
 ·exact fin 9 ⟨false, false, s.has, false, false, false⟩ hk (by rw [hk]; rfl) (by omega) (by unfold hasXB; rw [hk]; cases s.has <;> rfl) (fun _ => .inr rfl) (fun h => by omega) (fun _ => .inl rfl) rfl (fun h => by cases h) (fun h => by cases h)
 ·exact fin 10 ⟨true, false, false, s.has, false, false⟩ hk (by rw [hk]; rfl) (by omega) (by unfold hasXB; rw [hk]; rfl) (fun h => .inl h) (fun _ => rfl) (fun h => absurd (by omega) h) rfl (fun h => by cases h) (fun h => by cases h)
open Go.Proofs
open Go.Proofs
def idsN (n c : Nat) : List Int := (List.range' (n + 1) c).map fun (k : Nat) => (k : Int)
theorem idsN_add (n a b : Nat) : idsN n (a + b) = idsN n a ++ idsN (n + a) b := by
 unfold idsN
 rw [← List.map_append, show n + a + 1 = n + 1 + 1 * a by omega, List.range'_append]
theorem idsN_one (n : Nat) : idsN n 1 = [((n + 1 : Nat) : Int)] := by simp [idsN]
mutual
theorem rowS_ids (nest : Int) : ∀ (t : S) {n : Nat} {m : Int}, rowS nest n t = some m → (flS t).map S.id = idsN n (cntS t)
 | .mk id kind labels name proc x has args thn els, n, m, h => by
   simp only [rowS] at h
   split at h
   ·cases h
   split at h
   ·cases h
   rename_i hid
   cases hn : namesB labels <;> rw [hn] at h
   ·cases h
   cases hf : fieldsB (.mk id kind labels name proc x has args thn els) <;> rw [hf] at h
   ·cases h
   simp only [cond_true] at h
   split at h
   ·rename_i m1 h1
    have h1' : rowL (nest + 1) ((n + 1 : Nat) : Int) thn = some m1 := by rw [← h1]; rfl
    have h2 := rowL_cnt _ _ thn h1'
    have h3 := rowL_ids (nest + 1) thn h1'
    have h' : rowL (nest + 1) ((n + 1 + cntL thn : Nat) : Int) els = some m := by rw [← h, h2]; rfl
    have h4 := rowL_ids (nest + 1) els h'
    rw [flS, cntS, List.map_cons, List.map_append, h3, h4, show 1 + cntL thn + cntL els = 1 + (cntL thn + cntL els) by omega, idsN_add, idsN_one, idsN_add]
    have : id = ((n + 1 : Nat) : Int) := by omega
    rw [show (S.mk id kind labels name proc x has args thn els).id = id from rfl, this]
    rfl
   ·cases h
theorem rowL_ids (nest : Int) : ∀ (l : List S) {n : Nat} {m : Int}, rowL nest n l = some m → (flL l).map S.id = idsN n (cntL l)
 | [], n, m, h => by rw [flL, cntL]; rfl
 | t :: r, n, m, h => by
   simp only [rowL] at h
   split at h
   ·cases h
   split at h
   ·rename_i m1 h1
    have h2 := rowS_cnt _ _ t h1
    have h3 := rowS_ids nest t h1
    have h' : rowL nest ((n + cntS t : Nat) : Int) r = some m := by rw [← h, h2]; rfl
    have h4 := rowL_ids nest r h'
    rw [flL, cntL, List.map_append, h3, h4, idsN_add]
   ·cases h
end
theorem mayPrs_ids : ∀ (l : List Pr) {n : Nat} {m : Int}, mayPrs n l = some m → ∀ (j : Nat) (f : Pr), l[j]? = some f → (flL f.body).map S.id = idsN (n + offN l j) (cntL f.body)
 | [], _, _, _, j, f, hj => by simp at hj
 | g :: r, n, m, h, j, f, hj => by
   rw [mayPrs] at h
   cases hm : mayPr g <;> rw [hm] at h
   ·cases h
   simp only [cond_true] at h
   split at h
   ·rename_i m1 h1
    cases j with
    | zero =>
      simp at hj
      subst hj
      exact rowL_ids 1 g.body h1
    | succ j =>
      have h2 := rowL_cnt _ _ g.body h1
      have h' : mayPrs ((n + cntL g.body : Nat) : Int) r = some m := by rw [← h, h2]; rfl
      have := mayPrs_ids r h' j f (by simpa using hj)
      rw [offN, this, Nat.add_assoc]
   ·cases h
theorem may_ids {p : Pg} (h : mayB p = true) {j : Nat} {f : Pr} (hj : p.procs[j]? = some f) : (flL f.body).map S.id = idsN (offN p.procs j) (cntL f.body) := by
 unfold mayB at h
 simp only [Bool.and_eq_true] at h
 cases hm : mayPrs 0 p.procs with
 | none => rw [hm] at h; cases h.2
 | some m =>
   have := mayPrs_ids p.procs (n := 0) hm j f hj
   simpa using this
theorem idsN_mem {n c : Nat} {a : Int} (h : a ∈ idsN n c) : (n : Int) + 1 ≤ a ∧ a ≤ n + c := by
 unfold idsN at h
 obtain ⟨k, hk, rfl⟩ := List.mem_map.1 h
 rw [List.mem_range'] at hk
 obtain ⟨i, hi, rfl⟩ := hk
 omega
def okI (lo hi : Nat) (x : Int) : Prop := x = -1 ∨ ((lo : Int) + 1 ≤ x ∧ x ≤ hi)
mutual
theorem itS_rng (proc : Int) (lo hi : Nat) : ∀ (t : S) (up nx loop : Int) (n : Nat) (it : Item), it ∈ itS proc up nx loop n t → okI lo hi nx → (loop = 0 ∨ ((lo : Int) + 1 ≤ loop ∧ loop ≤ hi)) → lo ≤ n → n + cntS t ≤ hi →
  okI lo hi it.next ∧ (it.loop = 0 ∨ ((lo : Int) + 1 ≤ it.loop ∧ it.loop ≤ hi))
 | .mk id kind labels name pr x has args thn els, up, nx, loop, n, it, h, h1, h2, h3, h4 => by
   rw [itS] at h
   rw [cntS] at h4
   rcases List.mem_cons.1 h with rfl | h
   ·exact ⟨h1, h2⟩
   ·have h5 : okI lo hi (if kind = 6 then ((n : Int) + 1) else nx) := by
     split
     ·exact .inr ⟨by omega, by omega⟩
     ·exact h1
    have h6 : (if kind = 6 then ((n : Int) + 1) else loop) = 0 ∨ ((lo : Int) + 1 ≤ (if kind = 6 then ((n : Int) + 1) else loop) ∧ (if kind = 6 then ((n : Int) + 1) else loop) ≤ hi) := by
     split
     ·exact .inr ⟨by omega, by omega⟩
     ·exact h2
    rcases List.mem_append.1 h with h | h
    ·exact itL_rng proc lo hi thn _ _ _ _ it h h5 h6 (by omega) (by omega)
    ·exact itL_rng proc lo hi els _ _ _ _ it h h5 h6 (by omega) (by omega)
theorem itL_rng (proc : Int) (lo hi : Nat) : ∀ (l : List S) (up nx loop : Int) (n : Nat) (it : Item), it ∈ itL proc up nx loop n l → okI lo hi nx → (loop = 0 ∨ ((lo : Int) + 1 ≤ loop ∧ loop ≤ hi)) → lo ≤ n → n + cntL l ≤ hi →
  okI lo hi it.next ∧ (it.loop = 0 ∨ ((lo : Int) + 1 ≤ it.loop ∧ it.loop ≤ hi))
 | [], up, nx, loop, n, it, h, h1, h2, h3, h4 => by rw [itL] at h; cases h
 | t :: r, up, nx, loop, n, it, h, h1, h2, h3, h4 => by
   rw [itL] at h
   rw [cntL] at h4
   rcases List.mem_append.1 h with h | h
   ·refine itS_rng proc lo hi t _ _ _ _ it h ?_ h2 h3 (by omega)
    cases r with
    | nil => exact h1
    | cons u r =>
      have : 1 ≤ cntL (u :: r) := by rw [cntL, cntS_eq]; omega
      exact .inr ⟨by simp; omega, by simp; omega⟩
   ·exact itL_rng proc lo hi r _ _ _ _ it h h1 h2 (by omega) (by omega)
end
theorem flL_self : ∀ (l : List S) (v : S), v ∈ l → v ∈ flL l
 | [], v, h => by cases h
 | t :: r, v, h => by
   rw [flL]
   rcases List.mem_cons.1 h with rfl | h
   ·refine List.mem_append.2 (.inl ?_)
    rw [flS_eq]
    exact List.mem_cons_self
   ·exact List.mem_append.2 (.inr (flL_self r v h))
open Go.Proofs
structure RI where
 s : S
 deep : Int
 inn : Int
 els : Bool
def RI.cells (i : RI) : List AV := i.s.cells ++ [.int .i64 i.deep, .int .i64 i.inn, .bool i.els]
theorem rowS_parts {nest seen m : Int} {s : S} (h : rowS nest seen s = some m) : oneOk s = true ∧ s.id = seen + 1 ∧ ∃ m1, rowL (nest + 1) (seen + 1) s.thn = some m1 ∧ rowL (nest + 1) m1 s.els = some m := by
 rw [rowS_eq] at h
 split at h
 ·cases h
 split at h
 ·cases h
 rename_i hid
 cases hn : namesB s.labels <;> rw [hn] at h
 ·cases h
 cases hf : fieldsB s <;> rw [hf] at h
 ·cases h
 simp only [cond_true] at h
 split at h
 ·rename_i m1 h1
  exact ⟨by unfold oneOk; rw [hn, hf]; rfl, by omega, m1, h1, h⟩
 ·cases h
theorem rowL_parts {nest seen m : Int} {s : S} {r : List S} (h : rowL nest seen (s :: r) = some m) : nest ≤ 12 ∧ ∃ m1, rowS nest seen s = some m1 ∧ rowL nest m1 r = some m := by
 rw [rowL] at h
 split at h
 ·cases h
 rename_i h0
 split at h
 ·rename_i m1 h1
  exact ⟨by omega, m1, h1, h⟩
 ·cases h
theorem cntP_mem : ∀ (l : List Pr) (f : Pr), f ∈ l → cntL f.body ≤ cntP l
 | [], f, h => by cases h
 | g :: r, f, h => by
   rw [cntP]
   rcases List.mem_cons.1 h with rfl | h
   ·omega
   ·have := cntP_mem r f h
    omega
open Go.Proofs
open Go.Proofs
def Pr0 : Pr := ⟨[], [], [], [], []⟩
def procR (p : Pg) (n : Str) : Pr × Bool := match p.procs.find? (fun f => f.name == n) with
 | some f => (f, true)
 | none => (Pr0, false)
open Go.Proofs
def otherS (a b s : Str) : Str := if s == a then b else if s == b then a else s
theorem whittlerref3_other (s a b : Str) : SpecP Tryz.prog 129 [.str s, .str a, .str b] (fun r => r = .str (otherS a b s)) := by
 refine SpecP.body I_whittlerref3_other tabOK Tryz.func129 rfl Tryz.call129 (by show 3 ≤ _; decide) ?_
 conv => whnf
 repeat' (first | ((first | (intro (_ : _ ≤ 9223372036854775807)) | (refine DrawK.auto tabOK mixed (by kernel_rfl) ?_) | (refine And.intro rfl ?_) | (refine And.intro ⟨by decide, by decide⟩ ?_) | (refine And.intro ⟨rfl, rfl, by decide⟩ ?_) | (refine BsK.pure (fun x hx => by rcases List.mem_singleton.1 hx with rfl; rfl) rfl ?_) | (refine IdxK.map (by omega) (fun _ => rfl) ?_) | (refine IdxK.xs (by omega) ?_) | (refine IdxK.ss (by omega) ?_) | (refine ByteK.at (by omega) ?_) | (refine Wr.i64 (by omega) (by omega) ?_)); conv => whnf) | (refine Br.dec (fun _ => ?_) (fun _ => ?_) <;> first | (exfalso; omega) | conv => whnf) | (refine Br.dec2 (fun _ => ?_) (fun _ => ?_) <;> first | (exfalso; omega) | conv => whnf) | (refine Br.n (fun _ => ?_) (fun _ => ?_) <;> conv => whnf) | (refine Br.b (fun _ => ?_) (fun _ => ?_) <;> conv => whnf))
 ·have h1 : (s == a) = true := by assumption
  exact RetK.p (by unfold otherS; rw [if_pos h1])
 ·have h1 : (s == a) = false := by assumption
  have h2 : (s == b) = true := by assumption
  exact RetK.p (by unfold otherS; rw [h1, h2]; rfl)
 ·have h1 : (s == a) = false := by assumption
  have h2 : (s == b) = false := by assumption
  exact RetK.p (by unfold otherS; rw [h1, h2]; rfl)
theorem whittlerref3_SwapTexts (l : List Str) (a b : Str) (hl : l.length ≤ 1000000) : SpecP Tryz.prog 128 [eStrs l, .str a, .str b] (fun r => r = eStrs (l.map (otherS a b))) := by
 refine SpecP.body I_whittlerref3_SwapTexts tabOK Tryz.func128 rfl Tryz.call128 (by show 3 ≤ _; decide) ?_
 conv => whnf
 have hlm : (l.map AV.str).length = l.length := List.length_map _
 repeat' (first | ((first | (intro (_ : _ ≤ 9223372036854775807)) | (refine DrawK.auto tabOK mixed (by kernel_rfl) ?_) | (refine And.intro rfl ?_) | (refine And.intro ⟨by decide, by decide⟩ ?_) | (refine And.intro ⟨rfl, rfl, by decide⟩ ?_) | (refine BsK.pure (fun x hx => by rcases List.mem_singleton.1 hx with rfl; rfl) rfl ?_) | (refine IdxK.map (by omega) (fun _ => rfl) ?_) | (refine IdxK.xs (by omega) ?_) | (refine IdxK.ss (by omega) ?_) | (refine ByteK.at (by omega) ?_) | (refine Wr.i64 (by omega) (by omega) ?_)); conv => whnf) | (refine Br.dec (fun _ => ?_) (fun _ => ?_) <;> first | (exfalso; omega) | conv => whnf) | (refine Br.dec2 (fun _ => ?_) (fun _ => ?_) <;> first | (exfalso; omega) | conv => whnf) | (refine Br.n (fun _ => ?_) (fun _ => ?_) <;> conv => whnf) | (refine Br.b (fun _ => ?_) (fun _ => ?_) <;> conv => whnf))
 refine LoopK.inv tabOK (fun j : Nat => ⟨[(1, .p (.str a)), (2, .p (.str b)), (7, .hd 0 0 ((l.take j).map (otherS a b)).length), (10, .p (eStrs l)), (11, .p (.int .i64 (l.map AV.str).length)), (12, .p (.int .i64 j))], [(0, .own 9 1 (((l.take j).map (otherS a b)).map .str))]⟩) (fun j => j ≤ l.length) (fun j => l.length - j) 0
  (Le.mk [(0, .own 9 1 [])] (by simp [Chunk.new0]; rfl) (by simp) (by simp) (.cons (.refl _) (.cons (.refl _) (.cons (.nil List.mem_cons_self) (.cons (.refl _) (.cons (.refl _) (.cons (.refl _) .nil)))))) (.new List.mem_cons_self .nil)) (Nat.zero_le _) ?_
 intro j h2
 rcases Nat.lt_or_ge j l.length with hj | hj
 ·have htk : (l.take (j + 1)).map (otherS a b) = (l.take j).map (otherS a b) ++ [otherS a b l[j]] := by rw [List.take_succ_eq_append_getElem hj, List.map_append]; rfl
  have hal : ((l.take j).map (otherS a b)).length ≤ j := by rw [List.length_map, List.length_take]; omega
  generalize (l.take j).map (otherS a b) = acc at htk hal ⊢
  conv => whnf
  repeat' (first | ((first | (intro (_ : _ ≤ 9223372036854775807)) | (refine CallK.pure (whittlerref3_other _ _ _) (by repeat' (first | exact ArgP.nil | refine ArgP.cons ?_ ?_ | exact Sub.refl _ | exact Sub.tt rfl | exact Sub.ff rfl)) ?_; rintro _ rfl) | (refine DrawK.auto tabOK mixed (by kernel_rfl) ?_) | (refine And.intro rfl ?_) | (refine And.intro ⟨by decide, by decide⟩ ?_) | (refine And.intro ⟨rfl, rfl, by decide⟩ ?_) | (refine BsK.pure (fun x hx => by rcases List.mem_singleton.1 hx with rfl; rfl) rfl ?_) | (refine IdxK.map (by omega) (fun _ => rfl) ?_) | (refine IdxK.xs (by omega) ?_) | (refine IdxK.ss (by omega) ?_) | (refine ByteK.at (by omega) ?_) | (refine Wr.i64 (by omega) (by omega) ?_) | (refine AppK.str1 (by simp) (by rw [List.length_map]; omega) ?_)); conv => whnf) | (refine Br.dec (fun _ => ?_) (fun _ => ?_) <;> first | (exfalso; omega) | conv => whnf) | (refine Br.dec2 (fun _ => ?_) (fun _ => ?_) <;> first | (exfalso; omega) | conv => whnf) | (refine Br.n (fun _ => ?_) (fun _ => ?_) <;> conv => whnf) | (refine Br.b (fun _ => ?_) (fun _ => ?_) <;> conv => whnf))
  exact ⟨j + 1, hj, by omega, Le.of_eq (by rw [htk]; simp only [List.length_append, List.map_append]; rfl)⟩
 ·rw [List.take_of_length_le hj]
  conv => whnf
  repeat' (first | ((first | (intro (_ : _ ≤ 9223372036854775807)) | (refine DrawK.auto tabOK mixed (by kernel_rfl) ?_) | (refine And.intro rfl ?_) | (refine And.intro ⟨by decide, by decide⟩ ?_) | (refine And.intro ⟨rfl, rfl, by decide⟩ ?_) | (refine BsK.pure (fun x hx => by rcases List.mem_singleton.1 hx with rfl; rfl) rfl ?_) | (refine IdxK.map (by omega) (fun _ => rfl) ?_) | (refine IdxK.xs (by omega) ?_) | (refine IdxK.ss (by omega) ?_) | (refine ByteK.at (by omega) ?_) | (refine Wr.i64 (by omega) (by omega) ?_)); conv => whnf) | (refine Br.dec (fun _ => ?_) (fun _ => ?_) <;> first | (exfalso; omega) | conv => whnf) | (refine Br.dec2 (fun _ => ?_) (fun _ => ?_) <;> first | (exfalso; omega) | conv => whnf) | (refine Br.n (fun _ => ?_) (fun _ => ?_) <;> conv => whnf) | (refine Br.b (fun _ => ?_) (fun _ => ?_) <;> conv => whnf))
  exact ⟨_, .hd rfl (by simp), rfl⟩
open Go.Proofs
def gTxs : List Str → Nat
 | [] => 0
 | s :: r => 1 + s.length + gTxs r
mutual
def gX : X → Nat
 | .mk _ _ name kids => 1 + name.length + gXs kids
def gXs : List X → Nat
 | [] => 0
 | x :: r => gX x + gXs r
end
def gArgs : List Arg → Nat
 | [] => 0
 | a :: r => gX a.x + (1 + a.name.length) + gArgs r
mutual
def gS : S → Nat
 | .mk _ _ labels name proc x _ args thn els => gX x + gTxs labels + (1 + name.length) + (1 + proc.length) + gArgs args + gL thn + gL els
def gL : List S → Nat
 | [] => 0
 | s :: r => gS s + gL r
end
def gPms : List Param → Nat
 | [] => 0
 | a :: r => 1 + a.name.length + gPms r
def gPr (f : Pr) : Nat := 1 + f.name.length + gTxs f.vars + gTxs f.fin + gPms f.params + gL f.body
def gPrs : List Pr → Nat
 | [] => 0
 | f :: r => gPr f + gPrs r
def gPg (p : Pg) : Nat := gTxs p.globals + gPrs p.procs
theorem gS_eq (s : S) : gS s = gX s.x + gTxs s.labels + (1 + s.name.length) + (1 + s.proc.length) + gArgs s.args + gL s.thn + gL s.els := by
 cases s
 rw [gS]
 rfl
theorem wg_Txs : ∀ l : List Str, wTxs l ≤ gTxs l
 | [] => Nat.le_refl _
 | s :: r => by have := wg_Txs r; simp only [wTxs, gTxs]; omega
mutual
theorem wg_X : ∀ x : X, wX x ≤ gX x
 | .mk _ _ name kids => by have := wg_Xs kids; rw [wX, gX]; omega
theorem wg_Xs : ∀ l : List X, wXs l ≤ gXs l
 | [] => by rw [wXs]; omega
 | x :: r => by have := wg_X x; have := wg_Xs r; rw [wXs, gXs]; omega
end
theorem wg_Args : ∀ l : List Arg, wArgs l ≤ gArgs l
 | [] => Nat.le_refl _
 | a :: r => by have := wg_Args r; have := wg_X a.x; simp only [wArgs, gArgs]; omega
mutual
theorem wg_S : ∀ s : S, wS s ≤ gS s
 | .mk _ _ labels name proc x _ args thn els => by
   have := wg_X x; have := wg_Txs labels; have := wg_Args args; have := wg_L thn; have := wg_L els
   rw [wS, gS]; omega
theorem wg_L : ∀ l : List S, wL l ≤ gL l
 | [] => by rw [wL]; omega
 | s :: r => by have := wg_S s; have := wg_L r; rw [wL, gL]; omega
end
theorem wg_Pms : ∀ l : List Param, wPms l ≤ gPms l
 | [] => Nat.le_refl _
 | a :: r => by have := wg_Pms r; simp only [wPms, gPms]; omega
theorem wg_Prs : ∀ l : List Pr, wPrs l ≤ gPrs l
 | [] => Nat.le_refl _
 | f :: r => by
   have := wg_Prs r; have := wg_Txs f.vars; have := wg_Txs f.fin; have := wg_Pms f.params; have := wg_L f.body
   simp only [wPrs, gPrs, wPr, gPr]; omega
theorem wg_Pg (p : Pg) : wPg p ≤ gPg p := by
 have := wg_Txs p.globals; have := wg_Prs p.procs
 unfold wPg gPg; omega
def satI (x : Int) : Int := if x > 20000 then 20001 else x
theorem satI_sat {a b : Int} (hb : 0 ≤ b) : satI (satI a + b) = satI (a + b) := by
 unfold satI
 split <;> split <;> (try split) <;> omega
theorem satI_rng {a : Int} (h : 0 ≤ a) : 0 ≤ satI a ∧ satI a ≤ 20001 := by
 unfold satI
 split <;> omega
theorem satI_id {a : Int} (h : a ≤ 20001) : satI a = a := by
 unfold satI
 split <;> omega
theorem satI_full {a b : Int} (h : a > 20000) (h1 : a ≤ 20001) (hb : 0 ≤ b) : a = satI (a + b) := by
 unfold satI
 split <;> omega
theorem whittlerref3_weighText (s : Str) (n : Int) (hn : 0 ≤ n ∧ n ≤ 20001) : SpecP Tryz.prog 77 [.str s, .int .i64 n] (fun r => r = .int .i64 (satI (n + (1 + s.length : Nat)))) := by
 refine SpecP.body I_whittlerref3_weighText tabOK Tryz.func77 rfl Tryz.call77 (by show 2 ≤ _; decide) ?_
 conv => whnf
 repeat' (first | ((first | (intro (_ : _ ≤ 9223372036854775807)) | (refine Wr.i64 (by omega) (by omega) ?_)); conv => whnf) | (refine Br.dec (fun _ => ?_) (fun _ => ?_) <;> first | (exfalso; omega) | conv => whnf))
 all_goals exact RetK.int (by unfold satI; (repeat' split) <;> omega)
theorem whittlerref3_weighTexts (l : List Str) (n : Int) (hn : 0 ≤ n ∧ n ≤ 20001) : SpecP Tryz.prog 76 [eStrs l, .int .i64 n] (fun r => r = .int .i64 (satI (n + gTxs l))) := by
 refine SpecP.body I_whittlerref3_weighTexts tabOK Tryz.func76 rfl Tryz.call76 (by show 2 ≤ _; decide) ?_
 conv => whnf
 skip
 have hl : (l.map AV.str).length = l.length := List.length_map _
 refine LoopK.inv tabOK (fun x : Nat × Int => ⟨[(0, .p (eStrs l)), (1, .p (.int .i64 x.2)), (5, .p (.int .i64 x.1))], []⟩) (fun x => x.1 ≤ l.length ∧ (0 ≤ x.2 ∧ x.2 ≤ 20001) ∧ satI (x.2 + gTxs (l.drop x.1)) = satI (n + gTxs l)) (fun x => l.length - x.1) (0, n) (Le.of_eq rfl) ⟨Nat.zero_le _, hn, rfl⟩ ?_
 rintro ⟨j, m⟩ ⟨h2, h3, h4⟩
 simp only at h2 h3 h4 ⊢
 rcases Nat.lt_or_ge j l.length with hj | hj
 ·rw [List.drop_eq_getElem_cons hj, gTxs] at h4
  conv => whnf
  repeat' (first | ((first | (intro (_ : _ ≤ 9223372036854775807)) | (refine CallK.pure (whittlerref3_weighText _ _ h3) (by repeat' (first | exact ArgP.nil | refine ArgP.cons ?_ ?_ | exact Sub.refl _ | exact Sub.tt rfl | exact Sub.ff rfl | exact Sub.int (by omega))) ?_; rintro _ rfl) | (refine IdxK.map (by omega) (fun _ => rfl) ?_) | (refine Wr.i64 (by omega) (by omega) ?_)); conv => whnf) | (refine Br.dec (fun _ => ?_) (fun _ => ?_) <;> first | (exfalso; omega) | conv => whnf))
  ·have h5 : satI (satI (m + (1 + l[j].length : Nat)) + gTxs (l.drop (j + 1))) = satI (n + gTxs l) := by
    rw [satI_sat (by omega), ← h4]
    congr 1
    omega
   exact ⟨(j + 1, satI (m + (1 + l[j].length : Nat))), ⟨by simp only; omega, satI_rng (by omega), h5⟩, by simp only; omega, Le.of_eq rfl⟩
  ·exact RetK.int (by rw [← h4]; exact satI_full (by omega) h3.2 (by omega))
 ·rw [List.drop_eq_nil_of_le hj, gTxs] at h4
  conv => whnf
  repeat' (first | (intro (_ : _ ≤ 9223372036854775807); conv => whnf) | (refine Br.dec (fun _ => ?_) (fun _ => ?_) <;> first | (exfalso; omega) | conv => whnf))
  exact RetK.int (by rw [← h4, satI_id (by omega)]; simp)
theorem whittlerref3_weighExpr : ∀ (k : Nat) (x : X) (_ : gX x < k) (n : Int) (_ : 0 ≤ n ∧ n ≤ 20001), SpecP Tryz.prog 135 [.agg x.cells, .int .i64 n] (fun r => r = .int .i64 (satI (n + gX x))) := by
 intro k
 induction k with
 | zero => intro x h; omega
 | succ k ih =>
   intro x hx n hn
   have hxe : gX x = 1 + x.name.length + gXs x.kids := by cases x; rw [gX]; rfl
   have hkl := X.avs_len x.kids
   refine SpecP.body I_whittlerref3_weighExpr tabOK Tryz.func135 rfl Tryz.call135 (by show 2 ≤ _; decide) ?_
   conv => whnf
   repeat' (refine CallK.pure (whittlerref3_weighText _ _ hn) (by repeat' (first | exact ArgP.nil | refine ArgP.cons ?_ ?_ | exact Sub.refl _ | exact Sub.tt rfl | exact Sub.ff rfl | exact Sub.int (by omega))) ?_; rintro _ rfl; conv => whnf)
   refine LoopK.inv tabOK (fun y : Nat × Int => ⟨[(1, .p (.int .i64 y.2)), (2, .p (.ip x.cells)), (5, .p (.int .i64 y.1))], []⟩) (fun y => y.1 ≤ x.kids.length ∧ (0 ≤ y.2 ∧ y.2 ≤ 20001) ∧ satI (y.2 + gXs (x.kids.drop y.1)) = satI (n + gX x)) (fun y => x.kids.length - y.1) (0, satI (n + (1 + x.name.length : Nat))) (Le.of_eq rfl) ⟨Nat.zero_le _, satI_rng (by omega), by
    show satI (satI (n + (1 + x.name.length : Nat)) + gXs x.kids) = _
    rw [satI_sat (by omega), hxe]
    congr 1
    omega⟩ ?_
   rintro ⟨j, m⟩ ⟨h2, h3, h4⟩
   simp only at h2 h3 h4 ⊢
   rcases Nat.lt_or_ge j x.kids.length with hj | hj
   ·rw [List.drop_eq_getElem_cons hj, gXs] at h4
    have hkw : gX x.kids[j] < k := by
     have : ∀ (l : List X) (y : X), y ∈ l → gX y ≤ gXs l := fun l => by
      induction l with
      | nil => intro y h; cases h
      | cons a r ih =>
        intro y h
        rw [gXs]
        rcases List.mem_cons.1 h with rfl | h
        ·omega
        ·have := ih y h; omega
     have := this x.kids _ (List.getElem_mem hj)
     omega
    conv => whnf
    repeat' (first | ((first | (intro (_ : _ ≤ 9223372036854775807)) | (refine IdxK.xs (by omega) ?_) | (refine Wr.i64 (by omega) (by omega) ?_) | (refine CallK.pure (ih (x.kids[j]'hj) hkw m h3) (.cons (Sub.refl _) (.cons (Sub.refl _) .nil)) ?_; rintro _ rfl)); conv => whnf) | (refine Br.dec (fun _ => ?_) (fun _ => ?_) <;> first | (exfalso; omega) | conv => whnf))
    ·have h5 : satI (satI (m + gX x.kids[j]) + gXs (x.kids.drop (j + 1))) = satI (n + gX x) := by
      rw [satI_sat (by omega), ← h4]
      congr 1
      omega
     exact ⟨(j + 1, satI (m + gX x.kids[j])), ⟨by simp only; omega, satI_rng (by omega), h5⟩, by simp only; omega, Le.of_eq rfl⟩
    ·exact RetK.int (by rw [← h4]; exact satI_full (by omega) h3.2 (by omega))
   ·rw [List.drop_eq_nil_of_le hj, gXs] at h4
    conv => whnf
    repeat' (first | (intro (_ : _ ≤ 9223372036854775807); conv => whnf) | (refine Br.dec (fun _ => ?_) (fun _ => ?_) <;> first | (exfalso; omega) | conv => whnf))
    exact RetK.int (by rw [← h4, satI_id (by omega)]; simp)
theorem gL_mem : ∀ (l : List S) (y : S), y ∈ l → gS y ≤ gL l
 | [], y, h => by cases h
 | a :: r, y, h => by
   rw [gL]
   rcases List.mem_cons.1 h with rfl | h
   ·omega
   ·have := gL_mem r y h; omega
theorem whittlerref3_weighStmts : ∀ (k : Nat) (l : List S) (_ : gL l < k) (n : Int) (_ : 0 ≤ n ∧ n ≤ 20001), SpecP Tryz.prog 78 [eSs l, .int .i64 n] (fun r => r = .int .i64 (satI (n + gL l))) := by
 intro k
 induction k with
 | zero => intro l h; omega
 | succ k ih =>
   intro l hl n hn
   have hkl := S.avs_len l
   refine SpecP.body I_whittlerref3_weighStmts tabOK Tryz.func78 rfl Tryz.call78 (by show 2 ≤ _; decide) ?_
   conv => whnf
   skip
   refine LoopK.inv tabOK (fun y : Nat × Int => ⟨[(0, .p (eSs l)), (1, .p (.int .i64 y.2)), (5, .p (.int .i64 y.1))], []⟩) (fun y => y.1 ≤ l.length ∧ (0 ≤ y.2 ∧ y.2 ≤ 20001) ∧ satI (y.2 + gL (l.drop y.1)) = satI (n + gL l)) (fun y => l.length - y.1) (0, n) (Le.of_eq rfl) ⟨Nat.zero_le _, hn, rfl⟩ ?_
   rintro ⟨j, m⟩ ⟨h2, h3, h4⟩
   simp only at h2 h3 h4 ⊢
   rcases Nat.lt_or_ge j l.length with hj | hj
   rotate_left 1
   ·rw [List.drop_eq_nil_of_le hj, gL] at h4
    conv => whnf
    repeat' (first | (intro (_ : _ ≤ 9223372036854775807); conv => whnf) | (refine Br.dec (fun _ => ?_) (fun _ => ?_) <;> first | (exfalso; omega) | conv => whnf))
    exact RetK.int (by rw [← h4, satI_id (by omega)]; simp)
   rw [List.drop_eq_getElem_cons hj, gL] at h4
   have hsw := gL_mem l _ (List.getElem_mem hj)
   have hse := gS_eq l[j]
   have q1 := satI_rng (a := m + gX l[j].x) (by omega)
   have q2 := satI_rng (a := satI (m + gX l[j].x) + gTxs l[j].labels) (by omega)
   have q3 := satI_rng (a := satI (satI (m + gX l[j].x) + gTxs l[j].labels) + (1 + l[j].name.length : Nat)) (by omega)
   conv => whnf
   repeat' (first | ((first | (intro (_ : _ ≤ 9223372036854775807)) | (refine DrawK.auto tabOK mixed (by kernel_rfl) ?_) | (refine And.intro rfl ?_) | (refine IdxK.ss (by omega) ?_) | (refine CallK.pure (whittlerref3_weighExpr (gX l[j].x+1) l[j].x (by omega) m h3) (.cons (Sub.refl _) (.cons (Sub.refl _) .nil)) ?_; rintro _ rfl) | (refine CallK.pure (whittlerref3_weighTexts l[j].labels _ q1) (.cons (Sub.refl _) (.cons (Sub.refl _) .nil)) ?_; rintro _ rfl) | (refine CallK.pure (whittlerref3_weighText l[j].name _ q2) (.cons (Sub.refl _) (.cons (Sub.refl _) .nil)) ?_; rintro _ rfl) | (refine CallK.pure (whittlerref3_weighText l[j].proc _ q3) (.cons (Sub.refl _) (.cons (Sub.refl _) .nil)) ?_; rintro _ rfl)); conv => whnf) | (refine Br.dec (fun _ => ?_) (fun _ => ?_) <;> first | (exfalso; omega) | conv => whnf))
   rotate_left 1
   ·exact RetK.int (by rw [← h4]; exact satI_full (by omega) h3.2 (by omega))
   have q4 := satI_rng (a := satI (satI (satI (m + gX l[j].x) + gTxs l[j].labels) + (1 + l[j].name.length : Nat)) + (1 + l[j].proc.length : Nat)) (by omega)
   have h5 : satI (satI (satI (satI (satI (m + gX l[j].x) + gTxs l[j].labels) + (1 + l[j].name.length : Nat)) + (1 + l[j].proc.length : Nat)) + (gArgs l[j].args + (gL l[j].thn + gL l[j].els + gL (l.drop (j + 1))) : Nat)) = satI (n + gL l) := by
    rw [satI_sat (by omega), Int.add_assoc, satI_sat (by omega), Int.add_assoc, satI_sat (by omega), Int.add_assoc, satI_sat (by omega), ← h4, hse]
    congr 1
    omega
   generalize satI (satI (satI (satI (m + gX l[j].x) + gTxs l[j].labels) + (1 + l[j].name.length : Nat)) + (1 + l[j].proc.length : Nat)) = m0 at q4 h5 ⊢
   have hal : (l[j].args.map fun a => AV.agg a.cells).length = l[j].args.length := List.length_map _
   refine LoopK.inv tabOK (fun y : Nat × Int => ⟨[(0, .p (eSs l)), (1, .p (.int .i64 y.2)), (5, .p (.int .i64 j)), (6, .p (.ip l[j].cells)), (7, .p (.int .i64 y.1))], []⟩) (fun y => y.1 ≤ l[j].args.length ∧ (0 ≤ y.2 ∧ y.2 ≤ 20001) ∧ satI (y.2 + (gArgs (l[j].args.drop y.1) + (gL l[j].thn + gL l[j].els + gL (l.drop (j + 1))) : Nat)) = satI (n + gL l)) (fun y => l[j].args.length - y.1) (0, m0) (Le.of_eq rfl) ⟨Nat.zero_le _, q4, h5⟩ ?_
   rintro ⟨a, m2⟩ ⟨h6, h7, h8⟩
   simp only at h6 h7 h8 ⊢
   have fin : satI (m2 + (gL l[j].thn + gL l[j].els + gL (l.drop (j + 1)) : Nat)) = satI (n + gL l) → (0 ≤ satI (satI (m2 + gL l[j].thn) + gL l[j].els) ∧ satI (satI (m2 + gL l[j].thn) + gL l[j].els) ≤ 20001) ∧ satI (satI (satI (m2 + gL l[j].thn) + gL l[j].els) + gL (l.drop (j + 1))) = satI (n + gL l) := fun h => by
    have := satI_rng (a := m2 + gL l[j].thn) (by omega)
    refine ⟨satI_rng (by omega), ?_⟩
    rw [satI_sat (by omega), Int.add_assoc, satI_sat (by omega), ← h]
    congr 1
    omega
   have r1 := satI_rng (a := m2 + gL l[j].thn) (by omega)
   have full : m2 > 20000 → satI (m2 + (gL l[j].thn + gL l[j].els + gL (l.drop (j + 1)) : Nat)) = satI (n + gL l) := fun h => by
    rw [← h8, ← satI_full h h7.2 (by omega), ← satI_full h h7.2 (by omega)]
   rcases Nat.lt_or_ge a l[j].args.length with ha | ha
   rotate_left 1
   ·have h9 : satI (m2 + (gL l[j].thn + gL l[j].els + gL (l.drop (j + 1)) : Nat)) = satI (n + gL l) := by
     rw [List.drop_eq_nil_of_le ha, gArgs, Nat.zero_add] at h8
     exact h8
    obtain ⟨f1, f2⟩ := fin h9
    conv => whnf
    repeat' (first | ((first | (intro (_ : _ ≤ 9223372036854775807)) | (refine DrawK.auto tabOK mixed (by kernel_rfl) ?_) | (refine Wr.i64 (by omega) (by omega) ?_) | (refine CallK.pure (ih l[j].thn (by omega) m2 h7) (.cons (Sub.refl _) (.cons (Sub.refl _) .nil)) ?_; rintro _ rfl) | (refine CallK.pure (ih l[j].els (by omega) _ r1) (.cons (Sub.refl _) (.cons (Sub.refl _) .nil)) ?_; rintro _ rfl)); conv => whnf) | (refine Br.dec (fun _ => ?_) (fun _ => ?_) <;> first | (exfalso; omega) | conv => whnf))
    all_goals exact ⟨(j + 1, satI (satI (m2 + gL l[j].thn) + gL l[j].els)), ⟨by simp only; omega, f1, f2⟩, by simp only; omega, Le.of_eq rfl⟩
   rw [List.drop_eq_getElem_cons ha, gArgs] at h8
   have q5 := satI_rng (a := m2 + gX l[j].args[a].x) (by omega)
   conv => whnf
   repeat' (first | ((first | (intro (_ : _ ≤ 9223372036854775807)) | (refine DrawK.auto tabOK mixed (by kernel_rfl) ?_) | (refine IdxK.map (by omega) (fun _ => rfl) ?_) | (refine Wr.i64 (by omega) (by omega) ?_) | (refine CallK.pure (whittlerref3_weighExpr (gX l[j].args[a].x+1) l[j].args[a].x (by omega) m2 h7) (.cons (Sub.refl _) (.cons (Sub.refl _) .nil)) ?_; rintro _ rfl) | (refine CallK.pure (whittlerref3_weighText l[j].args[a].name _ q5) (.cons (Sub.refl _) (.cons (Sub.refl _) .nil)) ?_; rintro _ rfl) | (refine CallK.pure (ih l[j].thn (by omega) m2 h7) (.cons (Sub.refl _) (.cons (Sub.refl _) .nil)) ?_; rintro _ rfl) | (refine CallK.pure (ih l[j].els (by omega) _ r1) (.cons (Sub.refl _) (.cons (Sub.refl _) .nil)) ?_; rintro _ rfl)); conv => whnf) | (refine Br.dec (fun _ => ?_) (fun _ => ?_) <;> first | (exfalso; omega) | conv => whnf))
   ·have h10 : satI (satI (satI (m2 + gX l[j].args[a].x) + (1 + l[j].args[a].name.length : Nat)) + (gArgs (l[j].args.drop (a + 1)) + (gL l[j].thn + gL l[j].els + gL (l.drop (j + 1))) : Nat)) = satI (n + gL l) := by
     rw [satI_sat (by omega), Int.add_assoc, satI_sat (by omega), ← h8]
     congr 1
     omega
    exact ⟨(a + 1, satI (satI (m2 + gX l[j].args[a].x) + (1 + l[j].args[a].name.length : Nat))), ⟨by simp only; omega, satI_rng (by omega), h10⟩, by simp only; omega, Le.of_eq rfl⟩
   ·obtain ⟨f1, f2⟩ := fin (full (by omega))
    exact ⟨(j + 1, satI (satI (m2 + gL l[j].thn) + gL l[j].els)), ⟨by simp only; omega, f1, f2⟩, by simp only; omega, Le.of_eq rfl⟩
open Go.Proofs
mutual
def swX (a b : Str) : X → X
 | .mk op n name kids => .mk op n (otherS a b name) (swXs a b kids)
def swXs (a b : Str) : List X → List X
 | [] => []
 | x :: r => swX a b x :: swXs a b r
end
theorem swXs_map (a b : Str) : ∀ l : List X, swXs a b l = l.map (swX a b)
 | [] => by rw [swXs]; rfl
 | x :: r => by rw [swXs, swXs_map a b r]; rfl
theorem swX_eq (a b : Str) (x : X) : swX a b x = .mk x.op x.n (otherS a b x.name) (x.kids.map (swX a b)) := by
 cases x
 rw [swX, swXs_map]
 rfl
theorem wX_kid : ∀ {l : List X} {y : X}, y ∈ l → wX y ≤ wXs l
 | [], _, h => by cases h
 | a :: r, y, h => by
   rw [wXs]
   rcases List.mem_cons.1 h with rfl | h
   ·omega
   ·have := wX_kid h
    omega
theorem wX_pos (x : X) : 1 ≤ wX x := by cases x; rw [wX]; omega
theorem wXs_len : ∀ l : List X, l.length ≤ wXs l
 | [] => by simp
 | a :: r => by
   rw [wXs, List.length_cons]
   have := wXs_len r
   have := wX_pos a
   omega
theorem whittlerref3_SwapExpr (a b : Str) : ∀ (k : Nat) (x : X) (_ : wX x < k) (_ : k ≤ 20002), SpecP Tryz.prog 187 [.agg x.cells, .str a, .str b] (fun r => r = .agg (swX a b x).cells) := by
 intro k
 induction k with
 | zero => intro x h; omega
 | succ k ih =>
   intro x hx hk
   have hxe : wX x = 1 + wXs x.kids := by cases x; rw [wX]; rfl
   have hkl := X.avs_len x.kids
   have hkn := wXs_len x.kids
   refine SpecP.body I_whittlerref3_SwapExpr tabOK Tryz.func187 rfl Tryz.call187 (by show 3 ≤ _; decide) ?_
   conv => whnf
   repeat' (first | ((first | (intro (_ : _ ≤ 9223372036854775807)) | (refine CallK.pure (whittlerref3_other _ _ _) (by repeat' (first | exact ArgP.nil | refine ArgP.cons ?_ ?_ | exact Sub.refl _ | exact Sub.tt rfl | exact Sub.ff rfl)) ?_; rintro _ rfl) | (refine DrawK.auto tabOK mixed (by kernel_rfl) ?_) | (refine And.intro rfl ?_) | (refine And.intro ⟨by decide, by decide⟩ ?_) | (refine And.intro ⟨rfl, rfl, by decide⟩ ?_) | (refine BsK.pure (fun x hx => by rcases List.mem_singleton.1 hx with rfl; rfl) rfl ?_) | (refine IdxK.map (by omega) (fun _ => rfl) ?_) | (refine IdxK.xs (by omega) ?_) | (refine IdxK.ss (by omega) ?_) | (refine ByteK.at (by omega) ?_) | (refine Wr.i64 (by omega) (by omega) ?_)); conv => whnf) | (refine Br.dec (fun _ => ?_) (fun _ => ?_) <;> first | (exfalso; omega) | conv => whnf) | (refine Br.dec2 (fun _ => ?_) (fun _ => ?_) <;> first | (exfalso; omega) | conv => whnf) | (refine Br.n (fun _ => ?_) (fun _ => ?_) <;> conv => whnf) | (refine Br.b (fun _ => ?_) (fun _ => ?_) <;> conv => whnf) | (refine And.intro ?_ ?_ <;> conv => whnf))
   all_goals
    refine LoopK.inv tabOK (fun j : Nat => ⟨[(1, .p (.str a)), (2, .p (.str b)), (3, .p (.ip x.cells)), (6, .ptr 1 0), (7, .ptr 0 0), (21, .p (.int .i64 (X.avs x.kids).length)), (22, .p (.int .i64 j))], [(0, .obj 55 [.p (.int .i64 x.op), .p (.int .i64 x.n), .p (.str (otherS a b x.name)), .hd 2 0 j]), (1, .obj 55 [.p (.int .i64 0), .p (.int .i64 0), .p (.str []), .p .nils]), (2, .own 55 4 (X.avs ((x.kids.take j).map (swX a b))))]⟩) (fun j => j ≤ x.kids.length) (fun j => x.kids.length - j) 0
     (Le.mk [(2, .own 55 4 [])] (by simp [Chunk.new0]; rfl) (by simp) (by simp) (.cons (.refl _) (.cons (.refl _) (.cons (.refl _) (.cons (.refl _) (.cons (.refl _) (.cons (.refl _) (.cons (.refl _) .nil))))))) (.cons rfl (.obj (.cons (.refl _) (.cons (.refl _) (.cons (.refl _) (.cons (.nil List.mem_cons_self) .nil))))) (.cons rfl (.refl _) (.new List.mem_cons_self .nil)))) (Nat.zero_le _) ?_
    intro j h2
    rcases Nat.lt_or_ge j x.kids.length with hj | hj
    ·have hkw := wX_kid (List.getElem_mem hj)
     have hih := ih x.kids[j] (by omega) (by omega)
     have htk : X.avs ((x.kids.take (j + 1)).map (swX a b)) = X.avs ((x.kids.take j).map (swX a b)) ++ [.agg (swX a b x.kids[j]).cells] := by
      rw [X.avs_eq, X.avs_eq, List.take_succ_eq_append_getElem hj, List.map_append, List.map_append]
      rfl
     have hal : (X.avs ((x.kids.take j).map (swX a b))).length = j := by rw [X.avs_len, List.length_map, List.length_take]; omega
     generalize X.avs ((x.kids.take j).map (swX a b)) = acc at htk hal ⊢
     conv => whnf
     repeat' (first | ((first | (intro (_ : _ ≤ 9223372036854775807)) | (refine DrawK.auto tabOK mixed (by kernel_rfl) ?_) | (refine And.intro rfl ?_) | (refine And.intro ⟨by decide, by decide⟩ ?_) | (refine And.intro ⟨rfl, rfl, by decide⟩ ?_) | (refine BsK.pure (fun x hx => by rcases List.mem_singleton.1 hx with rfl; rfl) rfl ?_) | (refine IdxK.map (by omega) (fun _ => rfl) ?_) | (refine IdxK.xs (by omega) ?_) | (refine IdxK.ss (by omega) ?_) | (refine ByteK.at (by omega) ?_) | (refine Wr.i64 (by omega) (by omega) ?_) | (refine CallK.pure hih (.cons (Sub.refl _) (.cons (Sub.refl _) (.cons (Sub.refl _) .nil))) ?_; rintro _ rfl) | (refine AppK.mk hal.symm rfl (by show (j+1) * 56 ≤ 140737488355328; omega) (by show j+1 ≤ 9223372036854775807; omega) (fun x hx => by rcases List.mem_singleton.1 hx with rfl; exact ⟨rfl, rfl⟩) ?_)); conv => whnf) | (refine Br.dec (fun _ => ?_) (fun _ => ?_) <;> first | (exfalso; omega) | conv => whnf) | (refine Br.dec2 (fun _ => ?_) (fun _ => ?_) <;> first | (exfalso; omega) | conv => whnf) | (refine Br.n (fun _ => ?_) (fun _ => ?_) <;> conv => whnf) | (refine Br.b (fun _ => ?_) (fun _ => ?_) <;> conv => whnf) | (refine And.intro ?_ ?_ <;> conv => whnf))
     all_goals exact ⟨j + 1, hj, by omega, Le.of_eq (by rw [htk]; rfl)⟩
    ·have hall : X.avs ((x.kids.take j).map (swX a b)) = X.avs (x.kids.map (swX a b)) := by rw [List.take_of_length_le hj]
     have hal : (X.avs ((x.kids.take j).map (swX a b))).length = j := by rw [X.avs_len, List.length_map, List.length_take]; omega
     conv => whnf
     repeat' (first | ((first | (intro (_ : _ ≤ 9223372036854775807)) | (refine DrawK.auto tabOK mixed (by kernel_rfl) ?_) | (refine And.intro rfl ?_) | (refine And.intro ⟨by decide, by decide⟩ ?_) | (refine And.intro ⟨rfl, rfl, by decide⟩ ?_) | (refine BsK.pure (fun x hx => by rcases List.mem_singleton.1 hx with rfl; rfl) rfl ?_) | (refine IdxK.map (by omega) (fun _ => rfl) ?_) | (refine IdxK.xs (by omega) ?_) | (refine IdxK.ss (by omega) ?_) | (refine ByteK.at (by omega) ?_) | (refine Wr.i64 (by omega) (by omega) ?_)); conv => whnf) | (refine Br.dec (fun _ => ?_) (fun _ => ?_) <;> first | (exfalso; omega) | conv => whnf) | (refine Br.dec2 (fun _ => ?_) (fun _ => ?_) <;> first | (exfalso; omega) | conv => whnf) | (refine Br.n (fun _ => ?_) (fun _ => ?_) <;> conv => whnf) | (refine Br.b (fun _ => ?_) (fun _ => ?_) <;> conv => whnf))
     refine ⟨_, .agg (cs := (swX a b x).cells) rfl fun i l c h1 h3 => ?_, rfl⟩
     rw [swX_eq] at h3
     match i, h1, h3 with
     | 0, h1, h3 => cases h1; cases h3; exact .p (Sub.refl _)
     | 1, h1, h3 => cases h1; cases h3; exact .p (Sub.refl _)
     | 2, h1, h3 => cases h1; cases h3; exact .p (Sub.refl _)
     | 3, h1, h3 =>
       cases h1
       cases h3
       show Frz _ _ (.sl (X.avs (x.kids.map (swX a b))))
       rw [← hall]
       exact .hd rfl hal.symm
     | i + 4, h1, h3 => simp at h1
open Go.Proofs
def swA (a b : Str) (x : Arg) : Arg := ⟨x.ref, otherS a b x.name, swX a b x.x⟩
mutual
def swS (a b : Str) : S → S
 | .mk id kind labels name proc x has args thn els => .mk id kind (labels.map (otherS a b)) (otherS a b name) (otherS a b proc) (swX a b x) has (args.map (swA a b)) (swL a b thn) (swL a b els)
def swL (a b : Str) : List S → List S
 | [] => []
 | t :: r => swS a b t :: swL a b r
end
def swPm (a b : Str) (m : Param) : Param := ⟨otherS a b m.name, m.ref⟩
def swPr (a b : Str) (f : Pr) : Pr := ⟨otherS a b f.name, f.params.map (swPm a b), f.vars.map (otherS a b), swL a b f.body, f.fin.map (otherS a b)⟩
def swPg (a b : Str) (p : Pg) : Pg := ⟨p.globals.map (otherS a b), p.procs.map (swPr a b)⟩
theorem swL_map (a b : Str) : ∀ l : List S, swL a b l = l.map (swS a b)
 | [] => by rw [swL]; rfl
 | t :: r => by rw [swL, swL_map a b r]; rfl
theorem swS_eq (a b : Str) (s : S) : swS a b s = .mk s.id s.kind (s.labels.map (otherS a b)) (otherS a b s.name) (otherS a b s.proc) (swX a b s.x) s.has (s.args.map (swA a b)) (swL a b s.thn) (swL a b s.els) := by
 cases s
 rw [swS]
 rfl
structure Ren (a b : Str) : Prop where
 na : isName a = true
 nb : isName b = true
 ma : a ≠ mainS
 mb : b ≠ mainS
theorem name_ne {s : Str} (h : isName s = true) : s ≠ [] := fun he => by
 subst he
 unfold isName at h
 rw [dif_neg (by simp)] at h
 cases h
theorem otherS_invol (a b s : Str) : otherS a b (otherS a b s) = s := by
 unfold otherS
 simp only [beq_iff_eq]
 by_cases h1 : s = a
 ·subst h1
  simp only [if_true]
  by_cases h2 : b = s
  ·simp [h2]
  ·simp [h2]
 ·simp only [if_neg h1]
  by_cases h2 : s = b
  ·subst h2
   simp
  ·simp [h1, h2]
theorem other_inj {a b x y : Str} (h : otherS a b x = otherS a b y) : x = y := by
 have := congrArg (otherS a b) h
 rwa [otherS_invol, otherS_invol] at this
theorem other_beq (a b x y : Str) : (otherS a b x == otherS a b y) = (x == y) := by
 by_cases h : x = y
 ·subst h; simp
 ·have h2 : otherS a b x ≠ otherS a b y := fun he => h (other_inj he)
  rw [beq_eq_false_iff_ne.2 h, beq_eq_false_iff_ne.2 h2]
theorem Ren.main {a b : Str} (h : Ren a b) : otherS a b mainS = mainS := by
 unfold otherS
 rw [if_neg (by simpa using fun e => h.ma e.symm), if_neg (by simpa using fun e => h.mb e.symm)]
theorem Ren.nil {a b : Str} (h : Ren a b) : otherS a b [] = [] := by
 unfold otherS
 rw [if_neg (by simpa using fun e => name_ne h.na e), if_neg (by simpa using fun e => name_ne h.nb e)]
theorem Ren.isNil {a b : Str} (h : Ren a b) (s : Str) : (otherS a b s == []) = (s == []) := by
 have := other_beq a b s []
 rwa [h.nil] at this
theorem Ren.isMain {a b : Str} (h : Ren a b) (s : Str) : (otherS a b s == mainS) = (s == mainS) := by
 have := other_beq a b s mainS
 rwa [h.main] at this
theorem Ren.mainIs {a b : Str} (h : Ren a b) (s : Str) : (mainS == otherS a b s) = (mainS == s) := by
 have := other_beq a b mainS s
 rwa [h.main] at this
theorem Ren.name {a b : Str} (h : Ren a b) (s : Str) : isName (otherS a b s) = isName s := by
 unfold otherS
 by_cases h1 : s = a
 ·subst h1
  simp [h.na, h.nb]
 ·rw [if_neg (by simpa using h1)]
  by_cases h2 : s = b
  ·subst h2
   simp [h.na, h.nb]
  ·rw [if_neg (by simpa using h2)]
theorem Ren.names {a b : Str} (h : Ren a b) (l : List Str) : namesB (l.map (otherS a b)) = namesB l := by
 unfold namesB
 rw [List.all_map]
 congr 1
 funext s
 exact h.name s
theorem any_sw (a b x : Str) (l : List Str) : (l.map (otherS a b)).any (fun s => otherS a b x == s) = l.any fun s => x == s := by
 rw [List.any_map]
 congr 1
 funext s
 exact other_beq a b x s
theorem Ren.any_main {a b : Str} (h : Ren a b) (l : List Str) : (l.map (otherS a b)).any (fun s => mainS == s) = l.any fun s => mainS == s := by
 rw [List.any_map]
 congr 1
 funext s
 exact h.mainIs s
theorem swX_op (a b : Str) (x : X) : (swX a b x).op = x.op := by rw [swX_eq]; rfl
theorem swX_n (a b : Str) (x : X) : (swX a b x).n = x.n := by rw [swX_eq]; rfl
theorem swX_name (a b : Str) (x : X) : (swX a b x).name = otherS a b x.name := by rw [swX_eq]; rfl
theorem swX_kids (a b : Str) (x : X) : (swX a b x).kids = x.kids.map (swX a b) := by rw [swX_eq]; rfl
theorem deepB_sw {a b : Str} (h : Ren a b) : ∀ (n : Nat) (x : X), deepB n (swX a b x) = deepB n x
 | 0, _ => rfl
 | n + 1, x => by
   rw [deepB, deepB, swX_op, swX_n, swX_name, swX_kids, List.length_map, h.isNil, h.name, List.all_map]
   have : (deepB n ∘ swX a b) = deepB n := by
    funext y
    exact deepB_sw h n y
   rw [this]
theorem mayX_sw {a b : Str} (h : Ren a b) (x : X) : mayX (swX a b x) = mayX x := deepB_sw h 20 x
theorem noneB_sw {a b : Str} (h : Ren a b) (x : X) : noneB (swX a b x) = noneB x := by
 unfold noneB
 rw [swX_op, swX_n, swX_name, swX_kids, List.length_map, h.isNil]
theorem worthB_sw {a b : Str} (h : Ren a b) (x : X) (is : Bool) : worthB (swX a b x) is = worthB x is := by
 unfold worthB
 rw [mayX_sw h, noneB_sw h]
theorem namedB_sw {a b : Str} (h : Ren a b) (s : Str) (is : Bool) : namedB (otherS a b s) is = namedB s is := by
 unfold namedB
 rw [h.name, h.isNil]
theorem handB_sw {a b : Str} (h : Ren a b) (x : Arg) : handB (swA a b x) = handB x := by
 unfold handB swA
 simp only
 rw [namedB_sw h, worthB_sw h]
theorem swS_id (a b : Str) (s : S) : (swS a b s).id = s.id := by rw [swS_eq]; rfl
theorem swS_kind (a b : Str) (s : S) : (swS a b s).kind = s.kind := by rw [swS_eq]; rfl
theorem swS_labels (a b : Str) (s : S) : (swS a b s).labels = s.labels.map (otherS a b) := by rw [swS_eq]; rfl
theorem swS_name (a b : Str) (s : S) : (swS a b s).name = otherS a b s.name := by rw [swS_eq]; rfl
theorem swS_proc (a b : Str) (s : S) : (swS a b s).proc = otherS a b s.proc := by rw [swS_eq]; rfl
theorem swS_x (a b : Str) (s : S) : (swS a b s).x = swX a b s.x := by rw [swS_eq]; rfl
theorem swS_has (a b : Str) (s : S) : (swS a b s).has = s.has := by rw [swS_eq]; rfl
theorem swS_args (a b : Str) (s : S) : (swS a b s).args = s.args.map (swA a b) := by rw [swS_eq]; rfl
theorem swS_thn (a b : Str) (s : S) : (swS a b s).thn = swL a b s.thn := by rw [swS_eq]; rfl
theorem swS_els (a b : Str) (s : S) : (swS a b s).els = swL a b s.els := by rw [swS_eq]; rfl
theorem swL_len (a b : Str) (l : List S) : (swL a b l).length = l.length := by rw [swL_map, List.length_map]
theorem fieldsB_sw {a b : Str} (h : Ren a b) (s : S) : fieldsB (swS a b s) = fieldsB s := by
 unfold fieldsB
 have e : ((s.args.map (swA a b)).all handB) = s.args.all handB := by
  rw [List.all_map]
  congr 1
  funext x
  exact handB_sw h x
 rw [swS_kind, swS_has, swS_name, swS_proc, swS_x, swS_args, swS_thn, swS_els, h.isNil, swL_len, swL_len, List.length_map, e]
 simp only [namedB_sw h, worthB_sw h]
mutual
theorem rowS_sw {a b : Str} (h : Ren a b) : ∀ (s : S) (nest seen : Int), rowS nest seen (swS a b s) = rowS nest seen s
 | .mk id kind labels name proc x has args thn els, nest, seen => by
   have hf := fieldsB_sw h (.mk id kind labels name proc x has args thn els)
   rw [swS] at hf ⊢
   rw [rowS, rowS, hf, h.names, rowL_sw h thn]
   cases rowL (nest + 1) (seen + 1) thn with
   | none => rfl
   | some m => simp only [rowL_sw h els]
theorem rowL_sw {a b : Str} (h : Ren a b) : ∀ (l : List S) (nest seen : Int), rowL nest seen (swL a b l) = rowL nest seen l
 | [], nest, seen => by rw [swL]
 | t :: r, nest, seen => by
   rw [swL, rowL, rowL, rowS_sw h t]
   cases rowS nest seen t with
   | none => rfl
   | some m => simp only [rowL_sw h r]
end
theorem mayPr_sw {a b : Str} (h : Ren a b) (f : Pr) : mayPr (swPr a b f) = mayPr f := by
 unfold mayPr swPr
 simp only
 have e : ((f.params.map (swPm a b)).all fun x => isName x.name) = f.params.all fun x => isName x.name := by
  rw [List.all_map]
  congr 1
  funext x
  exact h.name x.name
 rw [List.length_map, List.length_map, h.name, h.names, h.names, e]
theorem mayPrs_sw {a b : Str} (h : Ren a b) : ∀ (l : List Pr) (seen : Int), mayPrs seen (l.map (swPr a b)) = mayPrs seen l
 | [], seen => rfl
 | f :: r, seen => by
   rw [List.map_cons, mayPrs, mayPrs, mayPr_sw h, show (swPr a b f).body = swL a b f.body from rfl, rowL_sw h]
   cases rowL 1 seen f.body with
   | none => rfl
   | some m => simp only [mayPrs_sw h r]
theorem mayB_sw {a b : Str} (h : Ren a b) (p : Pg) : mayB (swPg a b p) = mayB p := by
 unfold mayB swPg
 simp only
 rw [List.length_map, List.length_map, h.names, mayPrs_sw h]
theorem getD_sw {a b : Str} (h : Ren a b) (l : List Str) (i : Nat) : (l.map (otherS a b))[i]?.getD [] = otherS a b (l[i]?.getD []) := by
 rw [List.getElem?_map]
 cases l[i]? with
 | none => exact h.nil.symm
 | some s => rfl
theorem twiceB_sw {a b : Str} (h : Ren a b) (l : List Str) : twiceB (l.map (otherS a b)) = twiceB l := by
 unfold twiceB
 rw [List.length_map]
 congr 1
 funext i
 rw [getD_sw h, ← List.map_take, any_sw]
mutual
theorem gatX_sw {a b : Str} : ∀ (x : X) (out : List Str), gatX (swX a b x) (out.map (otherS a b)) = (gatX x out).map (otherS a b)
 | .mk op n name kids, out => by
   rw [swX, gatX, gatX, any_sw]
   split
   ·rw [← gatXs_sw kids]; simp
   ·exact gatXs_sw kids out
theorem gatXs_sw {a b : Str} : ∀ (l : List X) (out : List Str), gatXs (swXs a b l) (out.map (otherS a b)) = (gatXs l out).map (otherS a b)
 | [], out => by rw [swXs, gatXs, gatXs]
 | x :: r, out => by rw [swXs, gatXs, gatXs, gatX_sw x, gatXs_sw r]
end
theorem namesX_sw {a b : Str} (h : Ren a b) (x : X) : namesX (swX a b x) = (namesX x).map (otherS a b) := by
 unfold namesX
 rw [mayX_sw h]
 cases mayX x with
 | true => exact gatX_sw x []
 | false => rfl
theorem namesA_sw {a b : Str} (h : Ren a b) (x : Arg) : namesA (swA a b x) = (namesA x).map (otherS a b) := by
 unfold namesA swA
 simp only
 rw [namesX_sw h, List.map_append]
 cases x.ref <;> rfl
theorem namesH_sw {a b : Str} (h : Ren a b) (t : S) : namesH (swS a b t) = (namesH t).map (otherS a b) := by
 unfold namesH
 rw [swS_kind, swS_name, swS_x, h.isNil, namesX_sw h, List.map_append]
 cases (t.kind ≠ 10 && !(t.name == []) : Bool) <;> rfl
theorem namesT_sw {a b : Str} (h : Ren a b) (t : S) : namesT (swS a b t) = (namesT t).map (otherS a b) := by
 unfold namesT
 rw [namesH_sw h, swS_args, List.map_append, List.flatMap_map, List.map_flatMap]
 congr 2
 funext x
 exact namesA_sw h x
theorem kindI_sw (a b : Str) (p : Pg) (f : Pr) (n : Str) : kindI (swPg a b p) (swPr a b f) (otherS a b n) = kindI p f n := by
 unfold kindI
 have e : (swPr a b f).params.find? (fun x => x.name == otherS a b n) = (f.params.find? fun x => x.name == n).map (swPm a b) := by
  show (f.params.map (swPm a b)).find? _ = _
  rw [List.find?_map]
  congr 2
  funext x
  exact other_beq a b x.name n
 rw [e, show (swPr a b f).vars = f.vars.map (otherS a b) from rfl, show (swPg a b p).globals = p.globals.map (otherS a b) from rfl, any_sw, any_sw]
 cases f.params.find? fun x => x.name == n with
 | none => rfl
 | some x => rfl
theorem knownB_sw {a b : Str} (h : Ren a b) (p : Pg) (f : Pr) (procs : List Str) (t : S) : knownB (swPg a b p) (swPr a b f) (procs.map (otherS a b)) (swS a b t) = knownB p f procs t := by
 unfold knownB
 rw [namesT_sw h, List.all_map, swS_kind, swS_proc, h.isMain, any_sw]
 congr 2
 funext n
 show (!(kindI (swPg a b p) (swPr a b f) (otherS a b n) == 0)) = _
 rw [kindI_sw]
mutual
theorem flS_sw (a b : Str) : ∀ s : S, flS (swS a b s) = (flS s).map (swS a b)
 | .mk id kind labels name proc x has args thn els => by
   rw [swS, flS, flS, List.map_cons, List.map_append, flL_sw a b thn, flL_sw a b els, swS]
theorem flL_sw (a b : Str) : ∀ l : List S, flL (swL a b l) = (flL l).map (swS a b)
 | [] => by rw [swL, flL]; rfl
 | t :: r => by rw [swL, flL, flL, List.map_append, flS_sw a b t, flL_sw a b r]
end
theorem procsN_sw (a b : Str) (p : Pg) : procsN (swPg a b p) = (procsN p).map (otherS a b) := by
 unfold procsN swPg
 simp only [List.map_map]
 rfl
theorem mainBad_sw {a b : Str} (h : Ren a b) (p : Pg) : mainBad (swPg a b p) = mainBad p := by
 unfold mainBad
 have e : (swPg a b p).procs.find? (fun f => mainS == f.name) = (p.procs.find? fun f => mainS == f.name).map (swPr a b) := by
  show (p.procs.map (swPr a b)).find? _ = _
  rw [List.find?_map]
  congr 2
  funext f
  exact h.mainIs f.name
 rw [e, procsN_sw, twiceB_sw h, h.any_main, show (swPg a b p).globals = p.globals.map (otherS a b) from rfl, twiceB_sw h]
 cases p.procs.find? fun f => mainS == f.name with
 | none => rfl
 | some f =>
   show (twiceB p.globals || (twiceB (procsN p) || (!(procsN p).any (fun s => mainS == s) || decide (0 < (f.params.map (swPm a b)).length)))) = _
   rw [List.length_map]
theorem ownL_sw (a b : Str) (f : Pr) : ownL (swPr a b f) = (ownL f).map (otherS a b) := by
 unfold ownL swPr
 simp only [List.map_append, List.map_map]
 rfl
theorem scopeAt_sw {a b : Str} (h : Ren a b) (p : Pg) (f : Pr) : scopeAt (swPg a b p) (swPr a b f) = scopeAt p f := by
 unfold scopeAt
 have e1 : ((ownL f).map (otherS a b)).any (fun n => (p.globals.map (otherS a b)).any fun s => n == s) = (ownL f).any fun n => p.globals.any fun s => n == s := by
  rw [List.any_map]
  congr 1
  funext n
  exact any_sw a b n p.globals
 have e2 : ((flL (swPr a b f).body).find? fun t => !knownB (swPg a b p) (swPr a b f) (procsN (swPg a b p)) t).map S.id = ((flL f.body).find? fun t => !knownB p f (procsN p) t).map S.id := by
  rw [show (swPr a b f).body = swL a b f.body from rfl, flL_sw, List.find?_map, Option.map_map]
  have e3 : ((fun t => !knownB (swPg a b p) (swPr a b f) (procsN (swPg a b p)) t) ∘ swS a b) = fun t => !knownB p f (procsN p) t := by
   funext t
   show (!knownB (swPg a b p) (swPr a b f) (procsN (swPg a b p)) (swS a b t)) = _
   rw [procsN_sw, knownB_sw h]
  rw [e3]
  congr 1
  funext t
  exact swS_id a b t
 rw [e2, ownL_sw, twiceB_sw h, show (swPg a b p).globals = p.globals.map (otherS a b) from rfl, e1]
theorem scopeB_sw {a b : Str} (h : Ren a b) (p : Pg) : scopeB (swPg a b p) = scopeB p := by
 unfold scopeB
 rw [mayB_sw h, mainBad_sw h, show (swPg a b p).procs = p.procs.map (swPr a b) from rfl, List.findSome?_map]
 have e : (scopeAt (swPg a b p) ∘ swPr a b) = scopeAt p := by
  funext f
  exact scopeAt_sw h p f
 rw [e]
theorem stmts_sw (a b : Str) (p : Pg) : stmts (swPg a b p) = (stmts p).map (swS a b) := by
 unfold stmts swPg
 simp only [List.flatMap_map, List.map_flatMap]
 congr 1
 funext f
 exact flL_sw a b f.body
theorem find_proc_sw (a b : Str) (p : Pg) (n : Str) : (swPg a b p).procs.find? (fun f => f.name == otherS a b n) = (p.procs.find? fun f => f.name == n).map (swPr a b) := by
 show (p.procs.map (swPr a b)).find? _ = _
 rw [List.find?_map]
 congr 2
 funext f
 exact other_beq a b f.name n
theorem fitsB_sw (a b : Str) (p : Pg) (s : S) : fitsB (swPg a b p) (swS a b s) = fitsB p s := by
 unfold fitsB
 rw [swS_kind, swS_proc, find_proc_sw]
 cases p.procs.find? fun f => f.name == s.proc with
 | none => rfl
 | some f =>
   show (decide (s.kind = 4) && sameB (f.params.map (swPm a b)) (swS a b s).args) = _
   rw [swS_args]
   unfold sameB
   rw [List.map_map, List.map_map]
   rfl
theorem arityB_sw {a b : Str} (h : Ren a b) (p : Pg) : arityB (swPg a b p) = arityB p := by
 unfold arityB
 rw [scopeB_sw h, stmts_sw, List.find?_map]
 have e : ((fun t : S => decide (t.kind = 4) && !fitsB (swPg a b p) t) ∘ swS a b) = fun t => decide (t.kind = 4) && !fitsB p t := by
  funext t
  show (decide ((swS a b t).kind = 4) && !fitsB (swPg a b p) (swS a b t)) = _
  rw [swS_kind, fitsB_sw]
 rw [e]
 cases (stmts p).find? fun t => decide (t.kind = 4) && !fitsB p t with
 | none => rfl
 | some t =>
   show (if (scopeB p).1 ≠ 0 then _ else ((6 : Int), (swS a b t).id)) = _
   rw [swS_id]
theorem joinO_sw (a b : Str) : ∀ (l seen : List Str), joinO (seen.map (otherS a b)) (l.map (otherS a b)) = (joinO seen l).map fun s => s.map (otherS a b)
 | [], seen => rfl
 | n :: r, seen => by
   rw [List.map_cons, joinO, joinO, any_sw]
   cases seen.any fun s => n == s with
   | true => rfl
   | false =>
     have := joinO_sw a b r (seen ++ [n])
     rw [List.map_append] at this
     exact this
theorem atB_sw (a b : Str) (f : Pr) (label : Str) : atB (swPr a b f) (otherS a b label) = atB f label := by
 unfold atB
 rw [show (swPr a b f).body = swL a b f.body from rfl, flL_sw, List.find?_map, show (swPr a b f).fin = f.fin.map (otherS a b) from rfl, any_sw]
 have e : ((fun t : S => t.labels.any fun s => otherS a b label == s) ∘ swS a b) = fun t => t.labels.any fun s => label == s := by
  funext t
  show ((swS a b t).labels.any fun s => otherS a b label == s) = _
  rw [swS_labels, any_sw]
 rw [e]
 cases (flL f.body).find? fun t => t.labels.any fun s => label == s with
 | none => rfl
 | some t =>
   show ((swS a b t).id, true) = _
   rw [swS_id]
def swI (a b : Str) (it : Item) : Item := ⟨swS a b it.s, it.proc, it.up, it.next, it.loop⟩
mutual
theorem cntS_sw (a b : Str) : ∀ s : S, cntS (swS a b s) = cntS s
 | .mk id kind labels name proc x has args thn els => by rw [swS, cntS, cntS, cntL_sw a b thn, cntL_sw a b els]
theorem cntL_sw (a b : Str) : ∀ l : List S, cntL (swL a b l) = cntL l
 | [] => by rw [swL]
 | t :: r => by rw [swL, cntL, cntL, cntS_sw a b t, cntL_sw a b r]
end
mutual
theorem itS_sw (a b : Str) : ∀ (s : S) (proc up nx loop : Int) (n : Nat), itS proc up nx loop n (swS a b s) = (itS proc up nx loop n s).map (swI a b)
 | .mk id kind labels name pr x has args thn els, proc, up, nx, loop, n => by
   rw [swS, itS, itS, List.map_cons, List.map_append, itL_sw a b thn, itL_sw a b els, cntL_sw]
   unfold swI
   simp only
   rw [swS]
theorem itL_sw (a b : Str) : ∀ (l : List S) (proc up nx loop : Int) (n : Nat), itL proc up nx loop n (swL a b l) = (itL proc up nx loop n l).map (swI a b)
 | [], proc, up, nx, loop, n => by rw [swL, itL]; rfl
 | t :: r, proc, up, nx, loop, n => by
   have e : (swL a b r).isEmpty = r.isEmpty := by cases r <;> rw [swL] <;> rfl
   rw [swL, itL, itL, List.map_append, itS_sw a b t, itL_sw a b r, cntS_sw, e]
end
theorem leadsB_sw (a b : Str) (f : Pr) (it : Item) : leadsB (swPr a b f) (swI a b it) = leadsB f it := by
 unfold leadsB swI
 simp only
 rw [swS_kind, swS_name, atB_sw]
theorem jumpR_sw (a b : Str) (f : Pr) : ∀ (l : List Item) (seen : List Str), jumpR (swPr a b f) (l.map (swI a b)) (seen.map (otherS a b)) = (jumpR f l seen).map fun s => s.map (otherS a b)
 | [], seen => rfl
 | it :: r, seen => by
   rw [List.map_cons, jumpR, jumpR, show (swI a b it).s.labels = it.s.labels.map (otherS a b) from swS_labels a b it.s, show (swI a b it).s.id = it.s.id from swS_id a b it.s, joinO_sw, leadsB_sw]
   cases joinO seen it.s.labels with
   | none => rfl
   | some s =>
     show (bif leadsB f it then jumpR (swPr a b f) (r.map (swI a b)) (s.map (otherS a b)) else .error it.s.id) = Except.map _ (bif leadsB f it then jumpR f r s else .error it.s.id)
     cases leadsB f it with
     | true => exact jumpR_sw a b f r s
     | false => rfl
theorem offN_sw (a b : Str) : ∀ (l : List Pr) (i : Nat), offN (l.map (swPr a b)) i = offN l i
 | _, 0 => by rw [offN, offN]
 | [], i + 1 => rfl
 | f :: r, i + 1 => by rw [List.map_cons, offN, offN, offN_sw a b r, show (swPr a b f).body = swL a b f.body from rfl, cntL_sw]
theorem jumpAt_sw (a b : Str) (p : Pg) (j : Nat) : jumpAt (swPg a b p) j = jumpAt p j := by
 unfold jumpAt
 rw [show (swPg a b p).procs = p.procs.map (swPr a b) from rfl, List.getElem?_map]
 cases p.procs[j]? with
 | none => rfl
 | some f =>
   simp only [Option.map_some]
   rw [show (swPr a b f).body = swL a b f.body from rfl, itL_sw, offN_sw]
   have := jumpR_sw a b f (itL (j : Nat) 0 (-1) 0 (offN p.procs j) f.body) []
   rw [show ([] : List Str).map (otherS a b) = [] from rfl] at this
   rw [this]
   cases jumpR f (itL (j : Nat) 0 (-1) 0 (offN p.procs j) f.body) [] with
   | error id => rfl
   | ok s =>
     show (match joinO (s.map (otherS a b)) (f.fin.map (otherS a b)) with | none => some (0 : Int) | some _ => none) = match joinO s f.fin with | none => some (0 : Int) | some _ => none
     rw [joinO_sw]
     cases joinO s f.fin <;> rfl
theorem jumpB_sw {a b : Str} (h : Ren a b) (p : Pg) : jumpB (swPg a b p) = jumpB p := by
 unfold jumpB
 rw [scopeB_sw h, show (swPg a b p).procs.length = p.procs.length from List.length_map _, show jumpAt (swPg a b p) = jumpAt p from funext fun j => jumpAt_sw a b p j]
end Go.Ab
