/- What can be come to: the reckoned answer has what ways lead to, and no more. -/
import Derived.Test.YtabdfngdamikiaaGreatCfg14
set_option linter.unusedSimpArgs false
set_option linter.unusedVariables false
namespace Go.Ab
open Go.Proofs
/-- A way of steps. -/
inductive Rch {α : Type} (R : α → α → Prop) (a : α) : α → Prop
  | refl : Rch R a a
  | tail {b c : α} (h : Rch R a b) (hr : R b c) : Rch R a c
theorem Rch.trans {α : Type} {R : α → α → Prop} {a b c : α} (h : Rch R a b) (h' : Rch R b c) : Rch R a c := by
  induction h' with
  | refl => exact h
  | tail _ hr ih => exact .tail ih hr
theorem Rch.mono {α : Type} {R R' : α → α → Prop} (h : ∀ x y, R x y → R' x y) {a b : α} (hr : Rch R a b) : Rch R' a b := by
  induction hr with
  | refl => exact .refl
  | tail _ hr ih => exact .tail ih (h _ _ hr)
/-- What is closed and holds the beginning holds all that ways lead to. -/
theorem Rch.closed {α : Type} {R : α → α → Prop} {S : α → Prop} (hS : ∀ x y, S x → R x y → S y) {a b : α} (ha : S a) (h : Rch R a b) : S b := by
  induction h with
  | refl => exact ha
  | tail _ hr ih => exact hS _ _ ih hr
structure WkM (n : Nat) (st : List Bool × List Int) : Prop where
  inv : wkInv n st
  mem : ∀ x, x ∈ st.2 ↔ (0 ≤ x ∧ x < n) ∧ st.1.getD x.toNat false = true
theorem WkM.start (n : Nat) : WkM n (List.replicate n false, []) := ⟨wkInv_start n, fun x => by
  simp only [List.not_mem_nil, false_iff, not_and]
  intro _
  rw [List.getD_eq_getElem?_getD, List.getElem?_replicate]
  split <;> simp⟩
theorem WkM.see {n : Nat} {st : List Bool × List Int} (h : WkM n st) {b : Int} (hb : 0 ≤ b ∧ b < n) : WkM n (seeW st b) ∧ (∀ x, x ∈ (seeW st b).2 ↔ x ∈ st.2 ∨ x = b) ∧ st.2 <+: (seeW st b).2 := by
  have hi := seeW_inv h.inv hb
  cases hs : st.1.getD b.toNat false with
  | true =>
    have e : seeW st b = st := by unfold seeW; rw [hs]; rfl
    rw [e]
    refine ⟨h, fun x => ⟨.inl, fun hx => ?_⟩, List.prefix_refl _⟩
    rcases hx with hx | rfl
    · exact hx
    · exact (h.mem _).2 ⟨hb, hs⟩
  | false =>
    have e : seeW st b = (st.1.set b.toNat true, st.2 ++ [b]) := by unfold seeW; rw [hs]; rfl
    rw [e] at hi ⊢
    have hlen := h.inv.1
    refine ⟨⟨hi, fun x => ?_⟩, fun x => by simp, List.prefix_append _ _⟩
    rw [List.mem_append, List.mem_singleton, h.mem]
    simp only [List.getD_eq_getElem?_getD, List.getElem?_set]
    by_cases hx : x = b
    · subst hx
      rw [if_pos rfl, if_pos (by omega)]
      simp [hb]
    · constructor
      · rintro (⟨h1, h2⟩ | h2)
        · refine ⟨h1, ?_⟩
          rw [if_neg (by omega)]
          exact h2
        · exact absurd h2 hx
      · rintro ⟨h1, h2⟩
        rw [if_neg (by omega)] at h2
        exact .inl ⟨h1, h2⟩
theorem WkM.fold {n : Nat} : ∀ (l : List Int) {st : List Bool × List Int}, WkM n st → (∀ b ∈ l, 0 ≤ b ∧ b < n) → WkM n (l.foldl seeW st) ∧ (∀ x, x ∈ (l.foldl seeW st).2 ↔ x ∈ st.2 ∨ x ∈ l) ∧ st.2 <+: (l.foldl seeW st).2
  | [], st, h, _ => ⟨h, fun x => by simp, List.prefix_refl _⟩
  | b :: r, st, h, hl => by
    obtain ⟨h1, h2, h3⟩ := h.see (hl b List.mem_cons_self)
    obtain ⟨h4, h5, h6⟩ := WkM.fold r h1 fun c hc => hl c (List.mem_cons_of_mem _ hc)
    refine ⟨h4, fun x => ?_, h3.trans h6⟩
    rw [List.foldl_cons, h5, h2, List.mem_cons, or_assoc]
/-- One place goes on to another one. -/
def rowR (rows : List (List Int)) (x y : Int) : Prop := y ∈ rows.getD x.toNat []
theorem row_in {n : Nat} {rows : List (List Int)} (hr : rowsIn n rows) {x y : Int} (h : rowR rows x y) : 0 ≤ y ∧ y < n := by
  unfold rowR at h
  rw [List.getD_eq_getElem?_getD] at h
  cases hq : rows[x.toNat]? with
  | none => rw [hq] at h; simp at h
  | some r => rw [hq] at h; exact hr.2 r (List.mem_of_getElem? hq) y h
theorem prefix_get {α : Type} {l m : List α} (h : l <+: m) {i : Nat} {a : α} (ha : l[i]? = some a) : m[i]? = some a := by
  obtain ⟨t, rfl⟩ := h
  rw [List.getElem?_append_left (List.getElem?_eq_some_iff.1 ha).1]
  exact ha
theorem walk_spec {n : Nat} {rows : List (List Int)} (hr : rowsIn n rows) : ∀ (k i : Nat) {st : List Bool × List Int}, WkM n st → i ≤ st.2.length → n + 1 ≤ k + i → (∀ (m : Nat) (a : Int), m < i → st.2[m]? = some a → ∀ b, rowR rows a b → b ∈ st.2) →
    WkM n (walkF rows k i st) ∧ (∀ x ∈ st.2, x ∈ (walkF rows k i st).2) ∧ (∀ x ∈ (walkF rows k i st).2, ∀ b, rowR rows x b → b ∈ (walkF rows k i st).2) ∧ (∀ S : Int → Prop, (∀ x ∈ st.2, S x) → (∀ x b, S x → rowR rows x b → S b) → ∀ x ∈ (walkF rows k i st).2, S x)
  | 0, i, st, h, hi, hk, _ => by
    have := wkInv_len h.inv
    omega
  | k + 1, i, st, h, hi, hk, hc => by
    rw [walkF]
    split
    · rename_i a ha
      have hlt := (List.getElem?_eq_some_iff.1 ha).1
      have hrow : ∀ b ∈ rows.getD a.toNat [], 0 ≤ b ∧ b < n := fun b hb => row_in hr hb
      obtain ⟨h1, h2, h3⟩ := h.fold (rows.getD a.toNat []) hrow
      obtain ⟨h4, h5, h6, h7⟩ := walk_spec hr k (i + 1) h1 (Nat.le_trans hlt h3.length_le) (by omega) fun m c hm hmc b hb => by
        rw [h2]
        rcases Nat.lt_or_ge m i with hmi | hmi
        · have hml : m < st.2.length := by omega
          have hmc' : st.2[m]? = some c := by
            have := prefix_get h3 (List.getElem?_eq_getElem hml)
            rw [List.getElem?_eq_getElem hml, ← this, hmc]
          exact .inl (hc m c hmi hmc' b hb)
        · obtain rfl : m = i := by omega
          have := prefix_get h3 ha
          rw [this] at hmc
          cases hmc
          exact .inr hb
      refine ⟨h4, fun x hx => h5 x ((h2 x).2 (.inl hx)), h6, fun S hS hcl => h7 S (fun x hx => ?_) hcl⟩
      rcases (h2 x).1 hx with hx | hx
      · exact hS x hx
      · exact hcl a x (hS a (List.mem_of_getElem? ha)) hx
    · rename_i ha
      have hlen : st.2.length ≤ i := List.getElem?_eq_none_iff.1 ha
      refine ⟨h, fun x hx => hx, fun x hx b hb => ?_, fun S hS _ => hS⟩
      obtain ⟨m, hm⟩ := List.mem_iff_getElem?.1 hx
      exact hc m x (by have := (List.getElem?_eq_some_iff.1 hm).1; omega) hm b hb
theorem start_spec {n : Nat} : ∀ (l : List Int) {st : List Bool × List Int}, WkM n st → WkM n (l.foldl (fun st a => bif hasB n a then seeW st a else st) st) ∧ ∀ x, x ∈ (l.foldl (fun st a => bif hasB n a then seeW st a else st) st).2 ↔ x ∈ st.2 ∨ (x ∈ l ∧ hasB n x = true)
  | [], st, h => ⟨h, fun x => by simp⟩
  | a :: r, st, h => by
    rw [List.foldl_cons]
    cases hb : hasB n a with
    | true =>
      obtain ⟨h1, h2, _⟩ := h.see (hasB_iff hb)
      obtain ⟨h3, h4⟩ := start_spec r h1
      rw [cond_true]
      refine ⟨h3, fun x => ?_⟩
      rw [h4, h2, List.mem_cons]
      constructor
      · rintro ((h5 | rfl) | ⟨h5, h6⟩)
        · exact .inl h5
        · exact .inr ⟨.inl rfl, hb⟩
        · exact .inr ⟨.inr h5, h6⟩
      · rintro (h5 | ⟨rfl | h5, h6⟩)
        · exact .inl (.inl h5)
        · exact .inl (.inr rfl)
        · exact .inr ⟨h5, h6⟩
    | false =>
      obtain ⟨h3, h4⟩ := start_spec r h
      rw [cond_false]
      refine ⟨h3, fun x => ?_⟩
      rw [h4, List.mem_cons]
      constructor
      · rintro (h5 | ⟨h5, h6⟩)
        · exact .inl h5
        · exact .inr ⟨.inr h5, h6⟩
      · rintro (h5 | ⟨rfl | h5, h6⟩)
        · exact .inl h5
        · rw [hb] at h6; cases h6
        · exact .inr ⟨h5, h6⟩
theorem lstI_iff : ∀ (l : List Bool) (i : Nat) (y : Int), y ∈ lstI i l ↔ ∃ k : Nat, l[k]? = some true ∧ y = ((i + k : Nat) : Int)
  | [], i, y => by simp [lstI]
  | b :: r, i, y => by
    have ih := lstI_iff r (i + 1) y
    have key : (∃ k : Nat, (b :: r)[k]? = some true ∧ y = ((i + k : Nat) : Int)) ↔ (b = true ∧ y = (i : Int)) ∨ ∃ k : Nat, r[k]? = some true ∧ y = ((i + 1 + k : Nat) : Int) := by
      constructor
      · rintro ⟨k, h1, h2⟩
        cases k with
        | zero => simp at h1; exact .inl ⟨h1, by simpa using h2⟩
        | succ k => exact .inr ⟨k, by simpa using h1, by rw [h2]; omega⟩
      · rintro (⟨h1, h2⟩ | ⟨k, h1, h2⟩)
        · exact ⟨0, by simp [h1], by simpa using h2⟩
        · exact ⟨k + 1, by simpa using h1, by rw [h2]; omega⟩
    rw [key, ← ih, lstI]
    cases b <;> simp
/-- What the program reckons as come to is what ways lead to. -/
theorem reach_iff {n : Nat} {rows : List (List Int)} (hr : rowsIn n rows) (l : List Int) (y : Int) : y ∈ lstI 0 (reachB rows l) ↔ ∃ a ∈ l, hasB n a = true ∧ Rch (rowR rows) a y := by
  obtain ⟨h1, h2⟩ := start_spec (n := n) l (WkM.start n)
  obtain ⟨h3, h4, h5, h6⟩ := walk_spec hr (rows.length + 1) 0 (st := startW rows.length l) (by rw [hr.1]; exact h1) (Nat.zero_le _) (by rw [hr.1]; omega) (fun m a hm => by omega)
  have hst : ∀ x, x ∈ (startW rows.length l).2 ↔ x ∈ l ∧ hasB n x = true := fun x => by
    rw [hr.1]
    unfold startW
    rw [h2]
    simp
  have hmem : ∀ y, y ∈ lstI 0 (reachB rows l) ↔ y ∈ (walkF rows (rows.length + 1) 0 (startW rows.length l)).2 := fun y => by
    rw [lstI_iff, h3.mem]
    show (∃ k : Nat, (walkF rows (rows.length + 1) 0 (startW rows.length l)).1[k]? = some true ∧ _) ↔ _
    constructor
    · rintro ⟨k, h7, h8⟩
      have hlt := (List.getElem?_eq_some_iff.1 h7).1
      rw [h3.inv.1] at hlt
      refine ⟨by omega, ?_⟩
      rw [h8, List.getD_eq_getElem?_getD]
      simp [h7]
    · rintro ⟨h7, h8⟩
      have hlt : y.toNat < (walkF rows (rows.length + 1) 0 (startW rows.length l)).1.length := by rw [h3.inv.1]; omega
      refine ⟨y.toNat, ?_, by omega⟩
      rw [List.getD_eq_getElem?_getD, List.getElem?_eq_getElem hlt] at h8
      rw [List.getElem?_eq_getElem hlt]
      simpa using h8
  rw [hmem]
  constructor
  · intro hy
    refine h6 (fun y => ∃ a ∈ l, hasB n a = true ∧ Rch (rowR rows) a y) (fun x hx => ?_) (fun x b ⟨a, h7, h8, h9⟩ hb => ⟨a, h7, h8, .tail h9 hb⟩) y hy
    obtain ⟨h7, h8⟩ := (hst x).1 hx
    exact ⟨x, h7, h8, .refl⟩
  · rintro ⟨a, h7, h8, h9⟩
    exact h9.closed (S := fun y => y ∈ (walkF rows (rows.length + 1) 0 (startW rows.length l)).2) (fun x b hx hb => h5 x hx b hb) (h4 a ((hst a).2 ⟨h7, h8⟩))
end Go.Ab
namespace Go.Ab
open Go.Proofs
theorem insI_mem {l : List Int} {k : Nat} {b x : Int} : x ∈ insI l k b ↔ x ∈ l ∨ x = b := by
  unfold insI
  rw [List.mem_append, List.mem_cons]
  have : x ∈ l ↔ x ∈ l.take k ∨ x ∈ l.drop k := by rw [← List.mem_append, List.take_append_drop]
  rw [this]
  constructor
  · rintro (h | h | h)
    · exact .inl (.inl h)
    · exact .inr h
    · exact .inl (.inr h)
  · rintro ((h | h) | h)
    · exact .inl h
    · exact .inr (.inr h)
    · exact .inr (.inl h)
theorem addE_row {n : Nat} {g : List (List Int) × List (List Int)} (hl : g.1.length = n) (e : Int × Int) {x y : Int} (hx : 0 ≤ x ∧ x < n) : y ∈ (addE n g e).1.getD x.toNat [] ↔ y ∈ g.1.getD x.toNat [] ∨ ((x, y) = e ∧ hasB n y = true) := by
  rw [addE_1]
  cases hc : (hasB n e.1 && hasB n e.2 && !(g.1.getD e.1.toNat []).contains e.2) with
  | true =>
    simp only [Bool.and_eq_true, Bool.not_eq_true'] at hc
    obtain ⟨⟨h1, h2⟩, _⟩ := hc
    have h3 := hasB_iff h1
    rw [cond_true]
    unfold putR
    rw [List.getD_eq_getElem?_getD, List.getElem?_set]
    by_cases he : e.1.toNat = x.toNat
    · rw [if_pos he, if_pos (by omega)]
      simp only [Option.getD_some]
      rw [insI_mem, ← he]
      have : x = e.1 := by omega
      constructor
      · rintro (h | h)
        · exact .inl h
        · exact .inr ⟨by rw [this, h], by rw [h]; exact h2⟩
      · rintro (h | ⟨h, _⟩)
        · exact .inl h
        · exact .inr (by rw [← h])
    · rw [if_neg he, ← List.getD_eq_getElem?_getD]
      constructor
      · exact .inl
      · rintro (h | ⟨h, _⟩)
        · exact h
        · exact absurd (by rw [← h]) he
  | false =>
    rw [cond_false]
    constructor
    · exact .inl
    · rintro (h | ⟨rfl, h⟩)
      · exact h
      · have h1 : hasB n x = true := by unfold hasB; simp [hx]
        simp only [h1, h, Bool.true_and, Bool.not_eq_false'] at hc
        simpa using hc
theorem addE_len {n : Nat} {g : List (List Int) × List (List Int)} (hl : g.1.length = n) (e : Int × Int) : (addE n g e).1.length = n := by
  rw [addE_1]
  cases (hasB n e.1 && hasB n e.2 && !(g.1.getD e.1.toNat []).contains e.2) with
  | true => rw [cond_true]; unfold putR; rw [List.length_set]; exact hl
  | false => exact hl
theorem graph_row {n : Nat} {x y : Int} (hx : 0 ≤ x ∧ x < n) : ∀ (l : List (Int × Int)) {g : List (List Int) × List (List Int)}, g.1.length = n → (y ∈ (l.foldl (addE n) g).1.getD x.toNat [] ↔ y ∈ g.1.getD x.toNat [] ∨ ((x, y) ∈ l ∧ hasB n y = true))
  | [], g, _ => by simp
  | e :: r, g, h => by
    rw [List.foldl_cons, graph_row hx r (addE_len h e), addE_row h e hx, List.mem_cons]
    constructor
    · rintro ((h1 | ⟨h1, h2⟩) | ⟨h1, h2⟩)
      · exact .inl h1
      · exact .inr ⟨.inl h1, h2⟩
      · exact .inr ⟨.inr h1, h2⟩
    · rintro (h1 | ⟨h1 | h1, h2⟩)
      · exact .inl (.inl h1)
      · exact .inl (.inr ⟨h1, h2⟩)
      · exact .inr ⟨h1, h2⟩
theorem graph_rowR {n : Nat} {l : List (Int × Int)} {x y : Int} (hx : 0 ≤ x ∧ x < n) : rowR (graphE n l).1 x y ↔ (x, y) ∈ l ∧ hasB n y = true := by
  unfold rowR graphE
  rw [graph_row hx l (by simp)]
  have : (List.replicate n ([] : List Int)).getD x.toNat [] = [] := by
    rw [List.getD_eq_getElem?_getD, List.getElem?_replicate]
    split <;> rfl
  rw [this]
  simp
/-- What a graph of edges comes to from a node. -/
theorem graph_reach {n : Nat} {l : List (Int × Int)} (h0 : 0 < n) (y : Int) : y ∈ lstI 0 (reachB (graphE n l).1 [0]) ↔ Rch (fun a b => (a, b) ∈ l ∧ hasB n b = true) 0 y := by
  rw [reach_iff (graphE_in n l).1]
  have hs : hasB n 0 = true := by unfold hasB; simp; omega
  constructor
  · rintro ⟨a, ha, _, h⟩
    obtain rfl : a = 0 := by simpa using ha
    exact (h.closed (S := fun x : Int => (0 ≤ x ∧ x < n) ∧ Rch (fun a b => (a, b) ∈ l ∧ hasB n b = true) 0 x) (fun x y ⟨h1, h2⟩ h3 => by
      have h4 := (graph_rowR h1).1 h3
      exact ⟨hasB_iff h4.2, .tail h2 h4⟩) ⟨⟨by omega, by omega⟩, .refl⟩).2
  · intro h
    refine ⟨0, by simp, hs, ?_⟩
    exact (h.closed (S := fun x : Int => (0 ≤ x ∧ x < n) ∧ Rch (rowR (graphE n l).1) 0 x) (fun x y ⟨h1, h2⟩ h3 => ⟨hasB_iff h3.2, .tail h2 ((graph_rowR h1).2 h3)⟩) ⟨⟨by omega, by omega⟩, .refl⟩).2
/-- A step leads from one place to another one. -/
def stR (F : List Step) (a b : Int) : Prop := ∃ s ∈ F, s.src = a ∧ s.dst = b
/-- A place of a procedure: the entry, the exit, a statement. -/
def plP (p : Pg) (j : Nat) (f : Pr) (x : Int) : Prop := x = 0 ∨ x = -1 ∨ ((offN p.procs j : Int) + 1 ≤ x ∧ x ≤ (offN p.procs j + cntL f.body : Nat))
def ixI (p : Pg) (j : Nat) (f : Pr) (x : Int) : Int := indexI (loI p j) (hiI p j f) (cntL f.body + 2 : Nat) x
theorem ix_rng {p : Pg} {j : Nat} {f : Pr} {x : Int} (h : plP p j f x) : 0 ≤ ixI p j f x ∧ ixI p j f x < (cntL f.body + 2 : Nat) := by
  unfold ixI indexI loI hiI
  unfold plP at h
  (repeat' split) <;> omega
theorem ix_inj {p : Pg} {j : Nat} {f : Pr} {x y : Int} (hx : plP p j f x) (hy : plP p j f y) (h : ixI p j f x = ixI p j f y) : x = y := by
  unfold ixI indexI loI hiI at h
  unfold plP at hx hy
  (repeat' split at h) <;> omega
theorem step_reach {p : Pg} {j : Nat} {f : Pr} {F : List Step} (hF : ∀ s ∈ F, plP p j f s.src ∧ plP p j f s.dst) {y : Int} (hy : plP p j f y) :
    ixI p j f y ∈ lstI 0 (reachB (graphE (cntL f.body + 2) (F.map (ixP p j f (cntL f.body + 2 : Nat)))).1 [0]) ↔ Rch (stR F) 0 y := by
  rw [graph_reach (by omega)]
  have e0 : ixI p j f 0 = 0 := by unfold ixI indexI; rw [if_pos rfl]
  have p0 : plP p j f 0 := .inl rfl
  constructor
  · intro h
    obtain ⟨z, h1, h2, h3⟩ := h.closed (S := fun i => ∃ z, plP p j f z ∧ ixI p j f z = i ∧ Rch (stR F) 0 z) (by
      rintro a b ⟨z, h1, h2, h3⟩ ⟨h4, _⟩
      obtain ⟨s, hs, he⟩ := List.mem_map.1 h4
      obtain ⟨h5, h6⟩ := hF s hs
      have e1 : ixI p j f s.src = a := congrArg Prod.fst he
      have e2 : ixI p j f s.dst = b := congrArg Prod.snd he
      have e3 : s.src = z := ix_inj h5 h1 (by rw [e1, h2])
      exact ⟨s.dst, h6, e2, .tail h3 ⟨s, hs, e3, rfl⟩⟩) ⟨0, p0, e0, .refl⟩
    rw [← ix_inj h1 hy h2]
    exact h3
  · intro h
    have := h.closed (S := fun z => plP p j f z ∧ Rch (fun a b => (a, b) ∈ F.map (ixP p j f (cntL f.body + 2 : Nat)) ∧ hasB (cntL f.body + 2) b = true) 0 (ixI p j f z)) (by
      rintro a b ⟨h1, h2⟩ ⟨s, hs, rfl, rfl⟩
      obtain ⟨h5, h6⟩ := hF s hs
      refine ⟨h6, .tail h2 ⟨List.mem_map.2 ⟨s, hs, rfl⟩, ?_⟩⟩
      have := ix_rng h6
      unfold hasB
      simp only [Bool.and_eq_true, decide_eq_true_eq]
      exact this) ⟨p0, by rw [e0]; exact .refl⟩
    exact this.2
theorem real_places {p : Pg} (h : chkB p = true) {j : Nat} {f : Pr} (hj : p.procs[j]? = some f) : ∀ s ∈ (newWay p j f).real, plP p j f s.src ∧ plP p j f s.dst := fun s hs => by
  obtain ⟨_, h2⟩ := real_spec h hj
  obtain ⟨_, h3, _⟩ := chk_way h hj
  obtain ⟨h4, h5⟩ := h3 s ((h2 s).1 hs)
  unfold okI at h5
  unfold plP
  omega
/-- Who can come to an end, others given. -/
def endP (p : Pg) (k : Nat) (f : Pr) (E : List Str) : Prop := Rch (stR ((newWay p k f).real.filter (keepE p E))) 0 (-1)
theorem endsW_iff {p : Pg} (h : chkB p = true) {k : Nat} {f : Pr} (hj : p.procs[k]? = some f) (E : List Str) : endsW (newWay p k f) f E = true ↔ endP p k f E := by
  unfold endP
  rw [← step_reach (p := p) (j := k) (f := f) (fun s hs => real_places h hj s (List.mem_filter.1 hs).1) (y := -1) (.inr (.inl rfl))]
  unfold endsW
  rw [List.any_eq_true]
  have e1 : ixI p k f (-1) = ((cntL f.body + 2 : Nat) : Int) - 1 := by unfold ixI indexI; rw [if_neg (by omega), if_pos rfl]
  rw [e1]
  constructor
  · rintro ⟨x, h1, h2⟩
    have h2 : ((cntL f.body + 2 : Nat) : Int) - 1 = x := of_decide_eq_true h2
    rw [h2]
    exact h1
  · intro h1
    exact ⟨_, h1, decide_eq_true rfl⟩
def memB (E : List Str) (s : Str) : Bool := E.any fun x => s == x
theorem memB_iff {E : List Str} {s : Str} : memB E s = true ↔ s ∈ E := by
  unfold memB
  rw [List.any_eq_true]
  constructor
  · rintro ⟨x, h1, h2⟩
    have : s = x := by simpa using h2
    rw [this]
    exact h1
  · intro h
    exact ⟨s, h, by simp⟩
theorem keepE_mono {p : Pg} {E E' : List Str} (h : ∀ s ∈ E, s ∈ E') {t : Step} (ht : keepE p E t = true) : keepE p E' t = true := by
  unfold keepE at ht ⊢
  rw [Bool.or_eq_true] at ht ⊢
  rcases ht with ht | ht
  · exact .inl ht
  · refine .inr ?_
    split at ht
    · simp only [Bool.not_eq_true', Bool.and_eq_false_iff, Bool.not_eq_false'] at ht ⊢
      rcases ht with ht | ht
      · exact .inl ht
      · exact .inr (memB_iff.2 (h _ (memB_iff.1 ht)))
    · rfl
theorem endP_mono {p : Pg} {k : Nat} {f : Pr} {E E' : List Str} (h : ∀ s ∈ E, s ∈ E') (he : endP p k f E) : endP p k f E' := by
  refine he.mono fun x y ⟨s, hs, h1, h2⟩ => ⟨s, ?_, h1, h2⟩
  obtain ⟨h3, h4⟩ := List.mem_filter.1 hs
  exact List.mem_filter.2 ⟨h3, keepE_mono h h4⟩
theorem foldE_same {p : Pg} : ∀ (l : List Nat) (o : List Str) (b : Bool), (l.foldl (endS p) (o, b)).2 = false → b = false ∧ (l.foldl (endS p) (o, b)).1 = o ∧ ∀ k ∈ l, endS p (o, false) k = (o, false)
  | [], o, b, h => ⟨h, rfl, by simp⟩
  | k :: r, o, b, h => by
    rw [List.foldl_cons] at h ⊢
    have hst : endS p (o, b) k = (o, b) ∨ (endS p (o, b) k).2 = true := by
      unfold endS
      split
      · rename_i f _
        cases (!((o, b).1.any fun s => f.name == s) && endsW (newWay p k f) f (o, b).1) with
        | true => exact .inr rfl
        | false => exact .inl rfl
      · exact .inl rfl
    rcases hst with hst | hst
    · rw [hst] at h ⊢
      obtain ⟨h1, h2, h3⟩ := foldE_same r o b h
      refine ⟨h1, h2, fun m hm => ?_⟩
      rcases List.mem_cons.1 hm with rfl | hm
      · rw [← h1]; rw [h1] at hst ⊢; exact hst
      · exact h3 m hm
    · have := (foldE_same r (endS p (o, b) k).1 (endS p (o, b) k).2 h).1
      rw [hst] at this
      cases this
/-- Whoever is told can come to an end over those that are told. -/
def endInv (p : Pg) (out : List Str) : Prop := ∀ s ∈ out, ∃ (k : Nat) (f : Pr), p.procs[k]? = some f ∧ f.name = s ∧ endP p k f out
theorem endS_inv {p : Pg} (hc : chkB p = true) {st : List Str × Bool} (h : endInv p st.1) (k : Nat) : endInv p (endS p st k).1 ∧ leftN p (endS p st k).1 + (endS p st k).2.toNat ≤ leftN p st.1 + st.2.toNat := by
  unfold endS
  split
  · rename_i f hf
    cases hq : (!(st.1.any fun s => f.name == s) && endsW (newWay p k f) f st.1) with
    | true =>
      rw [cond_true]
      simp only [Bool.and_eq_true, Bool.not_eq_true'] at hq
      have hl := leftN_add (p := p) (out := st.1) (List.mem_of_getElem? hf) hq.1
      have he := (endsW_iff hc hf st.1).1 hq.2
      refine ⟨fun s hs => ?_, ?_⟩
      · rcases List.mem_append.1 hs with hs | hs
        · obtain ⟨k', f', h1, h2, h3⟩ := h s hs
          exact ⟨k', f', h1, h2, endP_mono (fun s hs => List.mem_append.2 (.inl hs)) h3⟩
        · obtain rfl := List.mem_singleton.1 hs
          exact ⟨k, f, hf, rfl, endP_mono (fun s hs => List.mem_append.2 (.inl hs)) he⟩
      · simp only [Bool.toNat_true]
        omega
    | false => exact ⟨h, Nat.le_refl _⟩
  · exact ⟨h, Nat.le_refl _⟩
theorem foldE_inv {p : Pg} (hc : chkB p = true) : ∀ (l : List Nat) {st : List Str × Bool}, endInv p st.1 → endInv p (l.foldl (endS p) st).1 ∧ leftN p (l.foldl (endS p) st).1 + (l.foldl (endS p) st).2.toNat ≤ leftN p st.1 + st.2.toNat
  | [], st, h => ⟨h, Nat.le_refl _⟩
  | k :: r, st, h => by
    obtain ⟨h1, h2⟩ := endS_inv hc h k
    obtain ⟨h3, h4⟩ := foldE_inv hc r h1
    rw [List.foldl_cons]
    exact ⟨h3, by omega⟩
theorem endsF_spec {p : Pg} (hc : chkB p = true) : ∀ (k : Nat) {out : List Str}, leftN p out < k → endInv p out → endInv p (endsF p k out) ∧ (∀ s ∈ out, True) ∧ ∀ (m : Nat) (f : Pr), p.procs[m]? = some f → endP p m f (endsF p k out) → f.name ∈ endsF p k out
  | 0, out, h, _ => by omega
  | k + 1, out, h, hi => by
    obtain ⟨h1, h2⟩ := foldE_inv hc (List.range p.procs.length) (st := (out, false)) hi
    rw [endsF]
    cases hr : (roundE p out).2 with
    | true =>
      rw [cond_true]
      have hr' : ((List.range p.procs.length).foldl (endS p) (out, false)).2 = true := hr
      rw [hr'] at h2
      simp only [Bool.toNat_true, Bool.toNat_false] at h2
      have h3 : leftN p (roundE p out).1 < k := by show leftN p ((List.range p.procs.length).foldl (endS p) (out, false)).1 < k; omega
      obtain ⟨h4, _, h5⟩ := endsF_spec hc k h3 h1
      exact ⟨h4, fun _ _ => trivial, h5⟩
    | false =>
      rw [cond_false]
      obtain ⟨_, h3, h4⟩ := foldE_same (List.range p.procs.length) out false hr
      have h3 : (roundE p out).1 = out := h3
      rw [h3]
      refine ⟨hi, fun _ _ => trivial, fun m f hm he => ?_⟩
      have h5 := h4 m (List.mem_range.2 (List.getElem?_eq_some_iff.1 hm).1)
      unfold endS at h5
      rw [hm] at h5
      simp only at h5
      cases hq : (out.any fun s => f.name == s) with
      | true => exact memB_iff.1 hq
      | false =>
        rw [hq, (endsW_iff hc hm out).2 he] at h5
        have := congrArg Prod.snd h5
        cases this
theorem leftN_nil (p : Pg) : leftN p [] ≤ p.procs.length := List.countP_le_length
theorem twice_no {l : List Str} (h : twiceB l = false) : l.Nodup := by
  unfold twiceB at h
  rw [List.any_eq_false] at h
  unfold List.Nodup
  rw [List.pairwise_iff_getElem]
  intro i j hi hj hij he
  have h1 := h j (List.mem_range.2 hj)
  apply h1
  rw [List.any_eq_true]
  refine ⟨l[i], ?_, ?_⟩
  · exact List.mem_iff_getElem.2 ⟨i, by simp; omega, by simp⟩
  · rw [List.getElem?_eq_getElem hj]
    simp [he]
theorem names_nodup {p : Pg} (h : chkB p = true) : (procsN p).Nodup := by
  obtain ⟨hm, hs, _⟩ := chk_parts h
  unfold scopeB at hs
  rw [hm, cond_true] at hs
  cases hb : mainBad p with
  | true => rw [hb] at hs; cases hs
  | false =>
    unfold mainBad at hb
    simp only [Bool.or_eq_false_iff] at hb
    exact twice_no hb.2.1
theorem proc_inj {p : Pg} (h : chkB p = true) {j k : Nat} {f g : Pr} (hj : p.procs[j]? = some f) (hk : p.procs[k]? = some g) (he : f.name = g.name) : j = k ∧ f = g := by
  have hn := names_nodup h
  have h1 : (procsN p)[j]? = some f.name := by simp [procsN, hj]
  have h2 : (procsN p)[k]? = some g.name := by simp [procsN, hk]
  rw [he] at h1
  have hjl := (List.getElem?_eq_some_iff.1 h1).1
  obtain rfl : j = k := (List.getElem?_inj hjl hn).1 (h1.trans h2.symm)
  rw [hj] at hk
  exact ⟨rfl, Option.some.inj hk⟩
/-- Who can come to an end: just who has a way to its exit over calls alone of others that can. -/
theorem ends_iff {p : Pg} (h : chkB p = true) {k : Nat} {f : Pr} (hk : p.procs[k]? = some f) : f.name ∈ endsR p ↔ endP p k f (endsR p) := by
  obtain ⟨h1, _, h3⟩ := endsF_spec h (p.procs.length + 1) (out := []) (by have := leftN_nil p; omega) (fun s hs => by cases hs)
  have e : ∀ s, s ∈ endsR p ↔ s ∈ endsF p (p.procs.length + 1) [] := fun s => by unfold endsR; rw [h, cond_true, sortS_mem]
  rw [e]
  constructor
  · intro hm
    obtain ⟨k', f', h4, h5, h6⟩ := h1 _ hm
    obtain ⟨rfl, rfl⟩ := proc_inj h hk h4 h5.symm
    exact endP_mono (fun s hs => (e s).2 hs) h6
  · intro he
    exact h3 k f hk (endP_mono (fun s hs => (e s).1 hs) he)
end Go.Ab
namespace Go.Ab
open Go.Proofs
set_option maxHeartbeats 1000000 in
set_option maxRecDepth 100000 in
theorem tree_count : ∀ (k : Nat) (l : List S) (_ : cntL l < k) (_ : cntL l ≤ 1000000), SpecP Tryz.prog 82 [eSs l] (fun r => r = .int .i64 (cntL l)) := by
  intro k
  induction k with
  | zero => intro l h; omega
  | succ k ih =>
    intro l hk hl
    have hll := S.avs_len l
    have hlc : l.length ≤ cntL l := by
      clear hk hl hll
      induction l with
      | nil => simp
      | cons t r ihr => rw [cntL, cntS_eq, List.length_cons]; omega
    refine SpecP.body I_tree_count tabOK Tryz.func82 rfl Tryz.call82 (by show 1 ≤ _; decide) ?_
    conv => whnf
    repeat' (intro (_ : _ ≤ 9223372036854775807); conv => whnf)
    refine LoopK.inv tabOK (fun y : Nat × Nat => ⟨[(0, .p (eSs l)), (3, .p (.int .i64 y.2)), (8, .p (.int .i64 (S.avs l).length)), (9, .p (.int .i64 y.1))], []⟩) (fun y => y.1 ≤ l.length ∧ y.2 + cntL (l.drop y.1) = cntL l + (l.length - y.1)) (fun y => l.length - y.1) (0, l.length) (Le.of_eq (by simp only [S.avs_len]; rfl)) ⟨Nat.zero_le _, by simp; omega⟩ ?_
    rintro ⟨j, n⟩ ⟨h2, h3⟩
    simp only at h2 h3 ⊢
    rcases Nat.lt_or_ge j l.length with hj | hj
    · have hst := cntL_step hj
      have hcs := cntS_eq l[j]
      have h4 : cntL (l.drop j) ≤ cntL l := by
        have : ∀ (l : List S) (j : Nat), cntL (l.drop j) ≤ cntL l := fun l => by
          induction l with
          | nil => intro j; simp
          | cons t r ihr =>
            intro j
            cases j with
            | zero => simp
            | succ j => rw [List.drop_succ_cons, cntL]; have := ihr j; omega
        exact this l j
      conv => whnf
      repeat' (first | ((first | (refine DrawK.auto tabOK mixed (by kernel_rfl) ?_) | (refine IdxK.ss (by omega) ?_) | (refine Wr.i64 (by omega) (by omega) ?_) | (refine CallK.pure (ih l[j].thn (by omega) (by omega)) (.cons (Sub.refl _) .nil) ?_; rintro _ rfl) | (refine CallK.pure (ih l[j].els (by omega) (by omega)) (.cons (Sub.refl _) .nil) ?_; rintro _ rfl)); conv => whnf) | (refine Br.dec (fun _ => ?_) (fun _ => ?_) <;> first | (exfalso; omega) | conv => whnf))
      all_goals exact ⟨(j + 1, n + (cntL l[j].thn + cntL l[j].els)), ⟨by simp only; omega, by simp only; omega⟩, by simp only; omega, Le.of_eq rfl⟩
    · conv => whnf
      rw [List.drop_eq_nil_of_le hj, cntL] at h3
      repeat' (refine Br.dec (fun _ => ?_) (fun _ => ?_) <;> first | (exfalso; omega) | conv => whnf)
      exact RetK.int (by omega)
set_option maxRecDepth 100000 in
theorem tree_Count (p : Pg) (hc : cntP p.procs ≤ 1000) : SpecP Tryz.prog 32 [.agg p.cells] (fun r => r = .int .i64 (cntP p.procs)) := by
  refine SpecP.body I_tree_Count tabOK Tryz.func32 rfl Tryz.call32 (by show 1 ≤ _; decide) ?_
  conv => whnf
  have hl2 : (p.procs.map fun f => AV.agg f.cells).length = p.procs.length := List.length_map _
  repeat' (intro (_ : _ ≤ 9223372036854775807); conv => whnf)
  refine LoopK.inv tabOK (fun y : Nat × Nat => ⟨[(3, .p (.int .i64 y.2)), (7, .p (.sl (p.procs.map fun f => .agg f.cells))), (8, .p (.int .i64 (p.procs.map fun f => AV.agg f.cells).length)), (9, .p (.int .i64 y.1))], []⟩) (fun y => y.1 ≤ p.procs.length ∧ y.2 + cntP (p.procs.drop y.1) = cntP p.procs) (fun y => p.procs.length - y.1) (0, 0) (Le.of_eq rfl) ⟨Nat.zero_le _, by simp⟩ ?_
  rintro ⟨j, n⟩ ⟨h2, h3⟩
  simp only at h2 h3 ⊢
  rcases Nat.lt_or_ge j p.procs.length with hj | hj
  · have hst := cntP_step hj
    have hcm := cntP_mem _ _ (List.getElem_mem hj)
    conv => whnf
    repeat' (first | ((first | (refine And.intro rfl ?_) | (refine IdxK.map (by omega) (fun _ => rfl) ?_) | (refine Wr.i64 (by omega) (by omega) ?_) | (refine CallK.pure (tree_count (cntL p.procs[j].body+1) p.procs[j].body (by omega) (by omega)) (.cons (Sub.refl _) .nil) ?_; rintro _ rfl)); conv => whnf) | (refine Br.dec (fun _ => ?_) (fun _ => ?_) <;> first | (exfalso; omega) | conv => whnf))
    exact ⟨(j + 1, n + cntL p.procs[j].body), ⟨by simp only; omega, by simp only; omega⟩, by simp only; omega, Le.of_eq rfl⟩
  · conv => whnf
    rw [List.drop_eq_nil_of_le hj, cntP] at h3
    repeat' (refine Br.dec (fun _ => ?_) (fun _ => ?_) <;> first | (exfalso; omega) | conv => whnf)
    exact RetK.int (by omega)
def smallB (p : Pg) (most : Int) : Bool := chkB p && decide ((cntP p.procs : Int) ≤ most)
set_option maxRecDepth 100000 in
theorem whittlerlaw15_small (p : Pg) (hf : Fit p) (most : Int) : SpecP Tryz.prog 39 [.agg p.cells, .int .i64 most] (fun r => r = .bool (smallB p most)) := by
  refine SpecP.body I_whittlerlaw15_small tabOK Tryz.func39 rfl Tryz.call39 (by show 2 ≤ _; decide) ?_
  conv => whnf
  have hC := check_May p hf
  unfold smallB
  cases hc : chkB p with
  | false =>
    rw [hc] at hC
    repeat' (first | (refine CallK.pure hC (.cons (Sub.refl _) .nil) ?_; rintro _ rfl; conv => whnf) | (refine Br.b (fun _ => ?_) (fun _ => ?_) <;> conv => whnf))
    all_goals first
      | contradiction
      | exact RetK.ff rfl
  | true =>
    rw [hc] at hC
    have hcn := (chk_cnt hc).2.2
    repeat' (first | ((first | (refine CallK.pure hC (.cons (Sub.refl _) .nil) ?_; rintro _ rfl) | (refine CallK.pure (tree_Count p (by omega)) (.cons (Sub.refl _) .nil) ?_; rintro _ rfl)); conv => whnf) | (refine Br.b (fun _ => ?_) (fun _ => ?_) <;> conv => whnf))
    all_goals first
      | contradiction
      | exact RetK.bool (by simp)
end Go.Ab
namespace Go.Ab
open Go.Proofs
/-- A step that may be taken: from the beginning, or past none of some. -/
def frR (steps : List Step) (at_ : Int) (but : List Int) (a b : Int) : Prop := (a = at_ ∨ hasI but a = false) ∧ ∃ s ∈ steps, s.src = a ∧ s.dst = b
structure FrI (steps : List Step) (at_ : Int) (but : List Int) (n : Nat) (l : List Int) : Prop where
  le : n ≤ l.length
  hd : l[0]? = some at_
  nd : l.Nodup
  sub : ∀ x ∈ l, x ∈ at_ :: steps.map Step.dst
  snd : ∀ x ∈ l, Rch (frR steps at_ but) at_ x
  cl : ∀ (m : Nat) (a : Int), m < n → l[m]? = some a → ∀ b, frR steps at_ but a b → b ∈ l
theorem FrI.len {steps : List Step} {at_ : Int} {but : List Int} {n : Nat} {l : List Int} (h : FrI steps at_ but n l) : l.length ≤ steps.length + 1 := by
  have := nodup_len h.nd h.sub
  simpa using this
theorem FrI.start (steps : List Step) (at_ : Int) (but : List Int) : FrI steps at_ but 0 [at_] := ⟨Nat.zero_le _, rfl, by simp, by simp, fun x hx => by rw [List.mem_singleton.1 hx]; exact .refl, fun m a hm => by omega⟩
theorem FrI.add {steps : List Step} {at_ : Int} {but : List Int} {n : Nat} {l : List Int} (h : FrI steps at_ but n l) {a b : Int} (ha : a ∈ l) (hb : frR steps at_ but a b) (hn : hasI l b = false) : FrI steps at_ but n (l ++ [b]) := by
  have hnm : b ∉ l := fun hm => by rw [hasI_iff.2 hm] at hn; cases hn
  have h0 : 0 < l.length := (List.getElem?_eq_some_iff.1 h.hd).1
  refine ⟨by rw [List.length_append]; have := h.le; omega, by rw [List.getElem?_append_left h0]; exact h.hd, ?_, fun x hx => ?_, fun x hx => ?_, fun m c hm hc d hd => ?_⟩
  · rw [List.nodup_append]
    refine ⟨h.nd, by simp, fun x hx y hy => ?_⟩
    rw [List.mem_singleton.1 hy]
    exact fun e => hnm (e ▸ hx)
  · rcases List.mem_append.1 hx with hx | hx
    · exact h.sub x hx
    · rw [List.mem_singleton.1 hx]
      obtain ⟨_, s, hs, _, h2⟩ := hb
      exact List.mem_cons_of_mem _ (List.mem_map.2 ⟨s, hs, h2⟩)
  · rcases List.mem_append.1 hx with hx | hx
    · exact h.snd x hx
    · rw [List.mem_singleton.1 hx]
      exact .tail (h.snd a ha) hb
  · rcases Nat.lt_or_ge m l.length with hml | hml
    · rw [List.getElem?_append_left hml] at hc
      exact List.mem_append.2 (.inl (h.cl m c hm hc d hd))
    · have := h.le
      omega
theorem FrI.fin {steps : List Step} {at_ : Int} {but : List Int} {l : List Int} (h : FrI steps at_ but l.length l) (x : Int) : x ∈ l ↔ Rch (frR steps at_ but) at_ x := by
  refine ⟨h.snd x, fun hr => hr.closed (S := fun x => x ∈ l) (fun a b ha hb => ?_) (List.mem_of_getElem? h.hd)⟩
  obtain ⟨m, hm⟩ := List.mem_iff_getElem?.1 ha
  exact h.cl m a (List.getElem?_eq_some_iff.1 hm).1 hm b hb
theorem FrI.next {steps : List Step} {at_ : Int} {but : List Int} {n : Nat} {l : List Int} (h : FrI steps at_ but n l) (hn : n < l.length) (hc : ∀ b, frR steps at_ but l[n] b → b ∈ l) : FrI steps at_ but (n + 1) l := by
  refine ⟨hn, h.hd, h.nd, h.sub, h.snd, fun m a hm ha b hb => ?_⟩
  rcases Nat.lt_or_ge m n with hmn | hmn
  · exact h.cl m a hmn ha b hb
  · obtain rfl : m = n := by omega
    rw [List.getElem?_eq_getElem hn] at ha
    cases ha
    exact hc b hb
def fromP (steps : List Step) (at_ : Int) (but : List Int) (r : AV) : Prop := ∃ es, r = eInts es ∧ ∀ x, x ∈ es ↔ Rch (frR steps at_ but) at_ x
set_option maxHeartbeats 2000000 in
set_option maxRecDepth 100000 in
theorem whittlerref14_From (steps : List Step) (at_ : Int) (but : List Int) (hlen : steps.length ≤ 1000000) : SpecP Tryz.prog 41 [eSteps steps, .int .i64 at_, eInts but] (fun r => fromP steps at_ but r) := by
  refine SpecP.body I_whittlerref14_From tabOK Tryz.func41 rfl Tryz.call41 (by show 3 ≤ _; decide) ?_
  conv => whnf
  have hsl : (steps.map fun s => AV.agg s.cells).length = steps.length := List.length_map _
  repeat' ((first | (refine And.intro rfl ?_) | (refine And.intro ⟨by decide, by decide⟩ ?_) | (refine BsK.own (fun x hx => by rcases List.mem_singleton.1 hx with rfl; rfl) rfl ?_)); conv => whnf)
  refine LoopK.inv tabOK (fun x : Nat × List Int => ⟨[(0, .p (eSteps steps)), (2, .p (eInts but)), (7, .hd 0 0 x.2.length), (8, .p (.int .i64 x.1))], [(0, .own 3 1 (x.2.map (.int .i64)))]⟩) (fun x => x.1 ≤ x.2.length ∧ FrI steps at_ but x.1 x.2) (fun x => steps.length + 2 - x.1) (0, [at_]) (Le.of_eq rfl) ⟨Nat.zero_le _, FrI.start _ _ _⟩ ?_
  rintro ⟨n, l⟩ ⟨h1, h2⟩
  simp only at h1 h2 ⊢
  have hll := h2.len
  rcases Nat.lt_or_ge n l.length with hn | hn
  rotate_left 1
  · conv => whnf
    repeat' (first | (intro (_ : _ ≤ 9223372036854775807); conv => whnf) | (refine Br.dec (fun _ => ?_) (fun _ => ?_) <;> first | (exfalso; omega) | conv => whnf))
    have hnl : n = l.length := by have := h2.le; omega
    subst hnl
    exact ⟨_, .hd rfl (by simp), l, rfl, h2.fin⟩
  conv => whnf
  repeat' (first | ((first | (intro (_ : _ ≤ 9223372036854775807)) | (refine And.intro rfl ?_) | (refine Wr.i64 (by omega) (by omega) ?_) | (refine IdxL.mk n (by omega) (by omega) ?_) | (refine LdOwn.mk n 0 (.int .i64 l[n]) (by omega) (by simp [hn]) ?_) | (refine CallK.pure (whittlerref14_has but l[n]) (.cons (Sub.refl _) (.cons (Sub.refl _) .nil)) ?_; rintro _ rfl)); conv => whnf) | (refine Br.dec (fun _ => ?_) (fun _ => ?_) <;> first | (exfalso; omega) | conv => whnf) | (refine Br.b (fun _ => ?_) (fun _ => ?_) <;> conv => whnf))
  · have hb : hasI but l[n] = true := by assumption
    have hn0 : 0 < n := by omega
    refine ⟨(n + 1, l), ⟨hn, h2.next hn fun b ⟨h3, _⟩ => ?_⟩, by simp only; omega, Le.of_eq rfl⟩
    rcases h3 with h3 | h3
    · have h4 : l[0]? = l[n]? := by rw [h2.hd, List.getElem?_eq_getElem hn, h3]
      have := (List.getElem?_inj (by omega) h2.nd).1 h4
      omega
    · rw [hb] at h3; cases h3
  all_goals
    have hcan : l[n] = at_ ∨ hasI but l[n] = false := by
      first
        | exact .inr (by assumption)
        | (left
           have h5 : n = 0 := by omega
           have h6 := h2.hd
           subst h5
           rw [List.getElem?_eq_getElem hn] at h6
           exact Option.some.inj h6)
    refine LoopK.inv tabOK (fun x : Nat × List Int => ⟨[(0, .p (eSteps steps)), (2, .p (eInts but)), (7, .hd 0 0 x.2.length), (8, .p (.int .i64 n)), (29, .p (eSteps steps)), (30, .p (.int .i64 (steps.map fun s => AV.agg s.cells).length)), (31, .p (.int .i64 x.1))], [(0, .own 3 1 (x.2.map (.int .i64)))]⟩) (fun x => x.1 ≤ steps.length ∧ l <+: x.2 ∧ FrI steps at_ but n x.2 ∧ ∀ s ∈ steps.take x.1, s.src = l[n] → s.dst ∈ x.2) (fun x => steps.length - x.1) (0, l) (Le.of_eq rfl) ⟨Nat.zero_le _, List.prefix_refl _, h2, by simp⟩ ?_
    rintro ⟨y, o⟩ ⟨h3, h4, h5, h6⟩
    simp only at h3 h4 h5 h6 ⊢
    have hno : n < o.length := Nat.lt_of_lt_of_le hn h4.length_le
    have hon : o[n] = l[n] := by
      have := prefix_get h4 (List.getElem?_eq_getElem hn)
      rw [List.getElem?_eq_getElem hno] at this
      exact Option.some.inj this
    have hol := h5.len
    have hom : (o.map (AV.int .i64)).length = o.length := List.length_map _
    rcases Nat.lt_or_ge y steps.length with hy | hy
    · have htk := List.take_succ_eq_append_getElem hy
      conv => whnf
      repeat' (first | ((first | (refine DrawK.auto tabOK mixed (by kernel_rfl) ?_) | (refine And.intro rfl ?_) | (refine And.intro ⟨by decide, by decide⟩ ?_) | (refine BsK.pure (fun x hx => by rcases List.mem_singleton.1 hx with rfl; rfl) rfl ?_) | (refine IdxK.map (by omega) (fun _ => rfl) ?_) | (refine Wr.i64 (by omega) (by omega) ?_) | (refine IdxL.mk n (by omega) (by omega) ?_) | (refine LdOwn.mk n 0 (.int .i64 o[n]) (by omega) (by simp [hno]) ?_) | (refine CallK.borrow (whittlerref14_has o steps[y].dst) (.cons (.hd rfl hom.symm) (.cons (.p (Sub.refl _)) .nil)) (by rintro _ rfl; rfl) ?_; rintro _ rfl) | (refine AppK.int1 (by simp) (by simp; omega) ?_)); conv => whnf) | (refine Br.dec (fun _ => ?_) (fun _ => ?_) <;> first | (exfalso; omega) | conv => whnf) | (refine Br.n (fun _ => ?_) (fun _ => ?_) <;> conv => whnf))
      all_goals first
        | exact ⟨(y + 1, o ++ [steps[y].dst]), ⟨hy, h4.trans (List.prefix_append _ _), h5.add (List.getElem_mem hno) ⟨by rw [hon]; exact hcan, steps[y], List.getElem_mem hy, by assumption, rfl⟩ (by assumption), fun s hs he => by
            rw [htk] at hs
            rcases List.mem_append.1 hs with hs | hs
            · exact List.mem_append.2 (.inl (h6 s hs he))
            · rw [List.mem_singleton.1 hs]
              exact List.mem_append.2 (.inr (List.mem_singleton.2 rfl))⟩, by simp only; omega, Le.of_eq (by simp only [List.length_append, List.map_append]; rfl)⟩
        | exact ⟨(y + 1, o), ⟨hy, h4, h5, fun s hs he => by
            rw [htk] at hs
            rcases List.mem_append.1 hs with hs | hs
            · exact h6 s hs he
            · rw [List.mem_singleton.1 hs] at he ⊢
              first
                | exact hasI_iff.1 (by assumption)
                | (exfalso
                   have hne : ¬ steps[y].src = o[n] := by assumption
                   exact hne (he.trans hon.symm))⟩, by simp only; omega, Le.of_eq rfl⟩
    · rw [List.take_of_length_le hy] at h6
      conv => whnf
      repeat' (first | (refine Wr.i64 (by omega) (by omega) ?_; conv => whnf) | (refine Br.dec (fun _ => ?_) (fun _ => ?_) <;> first | (exfalso; omega) | conv => whnf))
      exact ⟨(n + 1, o), ⟨hno, h5.next hno fun b ⟨_, s, hs, h7, h8⟩ => h8 ▸ h6 s hs (by rw [h7, hon])⟩, by simp only; omega, Le.of_eq rfl⟩
end Go.Ab
namespace Go.Ab
open Go.Proofs
theorem ValO.boolEql {P : Program} {T : Tab} {hr : Bool} {s : St} {o : Oper} {K : LV → Prop} (hT : TabOK P T) {t u : TypeId} {x y : Operand} (hop : o.op = .binOp .eql t x y u) {i : TyI} (ht : T.get t = some i) (hd : i.desc = .bool)
    {a b : Bool} (hx : asBL (evalO s.sl x) = some a) (hy : asBL (evalO s.sl y) = some b) (hK : K (.p (.bool (a == b)))) : ValO P hr s o K := by
  refine ⟨fun σ β ac w hs _ => ⟨_, .bool (a == b), hK, .p (.bool _), fun w' _ _ => ?_⟩⟩
  have h1 := asBL_rep (evalO_rep hs x) hx
  have h2 := asBL_rep (evalO_rep hs y) hy
  have hu := hT.of ht
  rw [hd] at hu
  have hg : (eqGuard .eql t x y (.bool a) (.bool b)).run P w' = .ok () w' := by unfold eqGuard; rfl
  have he : (Op.equal t (.bool a) (.bool b)).run P w' = .ok (a == b) w' := by
    have e : Op.equal t (.bool a) (.bool b) = Op.equalIn (9999 + 1) t (.bool a) (.bool b) := rfl
    rw [e, Op.equalIn, Sem.run_bind, run_underlying hu, Result.andThen_ok]
    rfl
  simp only [execOp, hop, h1, h2, Sem.run_bind, hg, Result.andThen_ok, binOp]
  simp [he]
theorem DrawK.frz {P : Program} {T : Tab} {N : Nat} {ops : Array Oper} {info : Info} {id : Nat} {K : St → Prop} {s : St} (gs : List (List Nat)) (h : frzK gs s fun s' => DrawK P T N info id ops K s') : DrawK P T N info id ops K s := by
  obtain ⟨s', h1, h2⟩ := frzK_spec (N := N) h
  exact DrawK.le h2 h1
def stuckB (E : List Str) (x : RI) : Bool := decide (x.s.kind = 4) && !(inS E x.s.proc)
def stuckR (E : List Str) (F : List RI) : List Int := (F.filter (stuckB E)).map fun x => x.s.id
theorem inS_iff {l : List Str} {x : Str} : inS l x = true ↔ x ∈ l := by
  unfold inS
  rw [List.any_eq_true]
  constructor
  · rintro ⟨y, h1, h2⟩
    have : y = x := by simpa using h2
    rw [← this]
    exact h1
  · intro h
    exact ⟨x, h, by simp⟩
/-- A statement's own item, by its number. -/
theorem stAt_own {p : Pg} (h : chkB p = true) {j : Nat} {f : Pr} (hj : p.procs[j]? = some f) {a : Int} (h1 : (offN p.procs j : Int) + 1 ≤ a) (h2 : a ≤ (offN p.procs j + cntL f.body : Nat)) : ∃ t ∈ flL f.body, stAt p a = some t ∧ t.id = a := by
  obtain ⟨it, h3, h4⟩ := sheet_its hj (k := (a - 1).toNat) (by omega) (by omega)
  refine ⟨it.s, its_s h4, by unfold stAt; rw [h3]; rfl, ?_⟩
  obtain ⟨_, _, _, hlen, hsp⟩ := sheet_spec p
  obtain ⟨_, _, hle, hd⟩ := hsp j f hj
  have hids := its_ids (chk_parts h).1 hj
  have h5 : (itsOf p j f)[(a - 1).toNat - offN p.procs j]? = some it := by
    unfold itsOf
    rw [← hd, List.getElem?_drop, List.getElem?_take, if_pos (by omega), show offN p.procs j + ((a - 1).toNat - offN p.procs j) = (a - 1).toNat by omega]
    exact h3
  have h6 : ((itsOf p j f).map fun it => it.s.id)[(a - 1).toNat - offN p.procs j]? = some it.s.id := by rw [List.getElem?_map, h5]; rfl
  rw [hids] at h6
  unfold idsN at h6
  rw [List.getElem?_map, List.getElem?_range' (by omega)] at h6
  simp at h6
  omega
theorem keep_iff {p : Pg} (h : chkB p = true) {j : Nat} {f : Pr} (hj : p.procs[j]? = some f) (E : List Str) {s : Step} (hs : s ∈ (newWay p j f).real) : keepE p E s = true ↔ s.src = 0 ∨ hasI (stuckR E (flatR f)) s.src = false := by
  have hm := (chk_parts h).1
  have e3 : flatR f = flatU f := flatR_eq hm (List.mem_of_getElem? hj)
  have e4 : (flatU f).map RI.s = flL f.body := fuL_s 1 0 false f.body
  obtain ⟨_, h3, _⟩ := chk_way h hj
  obtain ⟨h4, _⟩ := h3 s (((real_spec h hj).2 s).1 hs)
  rcases h4 with h4 | ⟨h4, h5⟩
  · unfold keepE
    simp [h4]
  · obtain ⟨t, h6, h7, h8⟩ := stAt_own h hj h4 h5
    have key : hasI (stuckR E (flatR f)) s.src = (decide (t.kind = 4) && !(inS E t.proc)) := by
      rw [Bool.eq_iff_iff, hasI_iff, e3]
      unfold stuckR
      rw [List.mem_map]
      constructor
      · rintro ⟨x, hx, hid⟩
        obtain ⟨hx1, hx2⟩ := List.mem_filter.1 hx
        have hxs : x.s ∈ flL f.body := by rw [← e4]; exact List.mem_map.2 ⟨x, hx1, rfl⟩
        have : x.s = t := nodup_inj (f := S.id) (by rw [may_ids hm hj]; exact idsN_nodup _ _) _ hxs _ h6 (by rw [hid, h8])
        rw [← this]
        exact hx2
      · intro ht
        rw [← e4] at h6
        obtain ⟨x, hx1, rfl⟩ := List.mem_map.1 h6
        exact ⟨x, List.mem_filter.2 ⟨hx1, ht⟩, h8⟩
    rw [key]
    unfold keepE
    rw [h7]
    have hany : (E.any fun x => t.proc == x) = inS E t.proc := by rw [Bool.eq_iff_iff, inS_iff]; exact memB_iff
    have h0 : s.src ≠ 0 := by omega
    simp only [hany, h0, decide_false, Bool.false_or, false_or, Bool.not_eq_true']
theorem ends_law {p : Pg} (h : chkB p = true) {n : Str} {q : Pr} {b : Bool} (hq : procR p n = (q, b)) : n ∈ endsR p ↔ Rch (frR (ofR p n) 0 (stuckR (endsR p) (flatR q))) 0 (-1) := by
  cases hw : wayO p n with
  | none =>
    obtain ⟨_, e2⟩ := first_none hw
    rw [e2]
    constructor
    · intro hn
      exfalso
      obtain ⟨h1, _⟩ := endsF_spec h (p.procs.length + 1) (out := []) (by have := leftN_nil p; omega) (fun s hs => by cases hs)
      have hn' : n ∈ endsF p (p.procs.length + 1) [] := by unfold endsR at hn; rw [h, cond_true, sortS_mem] at hn; exact hn
      obtain ⟨k, f, h2, h3, _⟩ := h1 n hn'
      unfold wayO at hw
      rw [h, cond_true] at hw
      cases hf : p.procs.find? (fun f => f.name == n) with
      | none =>
        have := List.find?_eq_none.1 hf f (List.mem_of_getElem? h2)
        simp [h3] at this
      | some g => rw [hf] at hw; cases hw
    · intro hr
      cases hr with
      | tail h1 h2 =>
        obtain ⟨_, s, hs, _⟩ := h2
        cases hs
  | some w =>
    obtain ⟨k, f, hkj, rfl, _, hfn, hfind⟩ := wayO_some hw
    have e1 : procR p n = (f, true) := by unfold procR; rw [hfind]
    obtain ⟨rfl, _⟩ := Prod.mk.inj (e1.symm.trans hq)
    have e2 : ofR p n = (newWay p k f).real := by unfold ofR; rw [hw]
    rw [e2, ← hfn, ends_iff h hkj]
    unfold endP
    have hrel : ∀ a b, stR ((newWay p k f).real.filter (keepE p (endsR p))) a b ↔ frR (newWay p k f).real 0 (stuckR (endsR p) (flatR f)) a b := fun a b => by
      unfold stR frR
      constructor
      · rintro ⟨s, hs, rfl, h2⟩
        obtain ⟨h3, h4⟩ := List.mem_filter.1 hs
        exact ⟨(keep_iff h hkj _ h3).1 h4, s, h3, rfl, h2⟩
      · rintro ⟨h1, s, hs, rfl, h2⟩
        exact ⟨s, List.mem_filter.2 ⟨hs, (keep_iff h hkj _ hs).2 h1⟩, rfl, h2⟩
    exact ⟨fun hr => hr.mono fun a b hab => (hrel a b).1 hab, fun hr => hr.mono fun a b hab => (hrel a b).2 hab⟩
set_option maxHeartbeats 8000000 in
set_option maxRecDepth 100000 in
theorem whittlerlaw15_CfgEnds (p : Pg) (n : Int) : SpecP Tryz.prog 8 [.agg p.cells, .int .i64 n] (fun r => r = .tt) := by
  refine SpecP.body I_whittlerlaw15_CfgEnds tabOK Tryz.func8 rfl Tryz.call8 (by show 2 ≤ _; decide) ?_
  conv => whnf
  cases hfb : fitB p with
  | false =>
    have hno : ¬ wPg p ≤ 20000 := by unfold fitB at hfb; simpa using hfb
    repeat' (first | ((first | (refine CallK.pure (whittlerref3_Fits _) (by repeat' (first | exact ArgP.nil | refine ArgP.cons ?_ ?_ | exact Sub.refl _ | exact Sub.tt rfl | exact Sub.ff rfl)) ?_; rintro _ rfl) | (refine CallK.pure whittlerlaw15_flowing .nil ?_; rintro _ rfl)); conv => whnf) | (refine Br.dec2 (fun _ => ?_) (fun _ => ?_) <;> first | (exfalso; omega) | conv => whnf))
    all_goals first
      | exact ⟨_, .p (Sub.refl _), rfl⟩
      | (exfalso; simp_all; done)
  | true =>
    have hf : Fit p := by unfold fitB at hfb; unfold Fit; simpa using hfb
    have hfit : wPg p ≤ 20000 := hf
    have hC := whittlerlaw15_small p hf 100
    cases hc : smallB p 100 with
    | false =>
      rw [hc] at hC
      repeat' (first | ((first | (refine CallK.pure (whittlerref3_Fits _) (by repeat' (first | exact ArgP.nil | refine ArgP.cons ?_ ?_ | exact Sub.refl _ | exact Sub.tt rfl | exact Sub.ff rfl)) ?_; rintro _ rfl) | (refine CallK.pure whittlerlaw15_flowing .nil ?_; rintro _ rfl) | (refine CallK.pure hC (.cons (Sub.refl _) (.cons (Sub.refl _) .nil)) ?_; rintro _ rfl)); conv => whnf) | (refine Br.dec2 (fun _ => ?_) (fun _ => ?_) <;> first | (exfalso; omega) | conv => whnf) | (refine Br.n (fun _ => ?_) (fun _ => ?_) <;> conv => whnf))
      all_goals first
        | contradiction
        | exact ⟨_, .p (Sub.refl _), rfl⟩
    | true =>
      rw [hc] at hC
      have hc : chkB p = true := by unfold smallB at hc; rw [Bool.and_eq_true] at hc; exact hc.1
      have hO := cfg_Of p hf (procAtR p n)
      have hM := whittlerref6_Proc p (procAtR p n)
      have hE := cfg_Ends p hf
      have hm := (chk_parts hc).1
      repeat' (first | ((first | (intro (_ : _ ≤ 9223372036854775807)) | (refine CallK.pure (whittlerref3_Fits _) (by repeat' (first | exact ArgP.nil | refine ArgP.cons ?_ ?_ | exact Sub.refl _ | exact Sub.tt rfl | exact Sub.ff rfl)) ?_; rintro _ rfl) | (refine And.intro rfl ?_) | (refine CallK.pure whittlerlaw15_flowing .nil ?_; rintro _ rfl) | (refine CallK.pure hC (.cons (Sub.refl _) (.cons (Sub.refl _) .nil)) ?_; rintro _ rfl) | (refine CallK.pure (whittlerref6_ProcAt p n (fit_procs hc)) (.cons (Sub.refl _) (.cons (Sub.refl _) .nil)) ?_; rintro _ rfl) | (refine CallK.pure hE (.cons (Sub.refl _) .nil) ?_; rintro _ rfl) | (refine CallK.pure hM (.cons (Sub.refl _) (.cons (Sub.refl _) .nil)) ?_; rintro _ ⟨q, b, rfl, hq⟩) | (refine CallK.pure (whittlerref3_Flat _) (.cons (Sub.refl _) .nil) ?_; rintro _ rfl)); conv => whnf) | (refine Br.dec2 (fun _ => ?_) (fun _ => ?_) <;> first | (exfalso; omega) | conv => whnf) | (refine Br.n (fun _ => ?_) (fun _ => ?_) <;> conv => whnf))
      all_goals try contradiction
      have K := kinds_facts hc (hq hm)
      have KL := ends_law hc (hq hm)
      have hll := K.len
      have hfl := flatR_len q
      generalize procAtR p n = pn at hO KL hll ⊢
      generalize ofR p pn = L at hO KL hll
      generalize endsR p = E at KL ⊢
      generalize flatR q = F at KL hfl ⊢
      clear K hM hE hC hq
      have hFl : (F.map fun i => AV.agg i.cells).length = F.length := List.length_map _
      refine LoopK.inv tabOK (fun j : Nat => ⟨[(2, .p (.ip p.cells)), (5, .p (.str pn)), (6, .p (eStrs E)), (9, .hd 0 0 (stuckR E (F.take j)).length), (32, .p (eRIs F)), (33, .p (.int .i64 (F.map fun i => AV.agg i.cells).length)), (34, .p (.int .i64 j))], [(0, .own 3 1 ((stuckR E (F.take j)).map (.int .i64)))]⟩) (fun j => j ≤ F.length) (fun j => F.length - j) 0
        (Le.mk [(0, .own 3 1 [])] (by simp [Chunk.new0]; rfl) (by simp) (by simp) (.cons (.refl _) (.cons (.refl _) (.cons (.refl _) (.cons (.nil List.mem_cons_self) (.cons (.refl _) (.cons (.refl _) (.cons (.refl _) .nil))))))) (.new List.mem_cons_self .nil)) (Nat.zero_le _) ?_
      intro j h2
      have hsl : (stuckR E (F.take j)).length ≤ j := by
        unfold stuckR
        rw [List.length_map]
        exact Nat.le_trans (List.length_filter_le _ _) (by rw [List.length_take]; omega)
      rcases Nat.lt_or_ge j F.length with hj | hj
      · have hst : stuckR E (F.take (j + 1)) = stuckR E (F.take j) ++ (if stuckB E F[j] then [F[j].s.id] else []) := by
          unfold stuckR
          rw [List.take_succ_eq_append_getElem hj, List.filter_append, List.map_append]
          congr 1
          cases h : stuckB E F[j] <;> simp [h]
        conv => whnf
        repeat' (first | ((first | (refine CallK.pure (whittlerref6_In _ _) (by repeat' (first | exact ArgP.nil | refine ArgP.cons ?_ ?_ | exact Sub.refl _ | exact Sub.tt rfl | exact Sub.ff rfl)) ?_; rintro _ rfl) | (refine And.intro rfl ?_) | (refine And.intro ⟨by decide, by decide⟩ ?_) | (refine BsK.pure (fun x hx => by rcases List.mem_singleton.1 hx with rfl; rfl) rfl ?_) | (refine IdxK.map (by omega) (fun _ => rfl) ?_) | (refine Wr.i64 (by omega) (by omega) ?_) | (refine AppK.int1 (by simp) (by simp; omega) ?_)); conv => whnf) | (refine Br.dec (fun _ => ?_) (fun _ => ?_) <;> first | (exfalso; omega) | conv => whnf) | (refine Br.n (fun _ => ?_) (fun _ => ?_) <;> conv => whnf))
        all_goals first
          | (have e : stuckB E F[j] = true := by simp [stuckB, *]; done
             exact ⟨j + 1, hj, by omega, Le.of_eq (by rw [hst, e, if_pos rfl]; simp only [List.length_append, List.map_append]; rfl)⟩)
          | (have e : stuckB E F[j] = false := by simp [stuckB, *]; done
             exact ⟨j + 1, hj, by omega, Le.of_eq (by rw [hst, e, if_neg (by simp), List.append_nil]; rfl)⟩)
      · rw [List.take_of_length_le hj] at hsl ⊢
        generalize hT : stuckR E F = T at KL hsl ⊢
        have hTm : (T.map (AV.int .i64)).length = T.length := List.length_map _
        conv => whnf
        repeat' (refine Br.dec (fun _ => ?_) (fun _ => ?_) <;> first | (exfalso; omega) | conv => whnf)
        refine DrawK.frz [[9]] ?_
        conv => whnf
        repeat' (refine LenK.mk (by simp) ?_; conv => whnf)
        repeat' ((first | (refine CallK.pure (whittlerref6_In _ _) (by repeat' (first | exact ArgP.nil | refine ArgP.cons ?_ ?_ | exact Sub.refl _ | exact Sub.tt rfl | exact Sub.ff rfl)) ?_; rintro _ rfl) | (refine DrawK.auto tabOK mixed (by kernel_rfl) ?_) | (refine CallK.pure hO (.cons (Sub.refl _) (.cons (Sub.refl _) .nil)) ?_; rintro _ rfl) | (refine CallK.pure (whittlerref14_From L 0 T (by omega)) (.cons (Sub.refl _) (.cons (Sub.refl _) (.cons (Sub.refl _) .nil))) ?_; rintro _ ⟨es, rfl, hes⟩) | (refine CallK.pure (whittlerlaw15_has es (-1)) (.cons (Sub.refl _) (.cons (Sub.refl _) .nil)) ?_; rintro _ rfl) | (refine ValO.boolEql tabOK rfl rfl rfl rfl rfl ?_)); conv => whnf)
        refine ⟨_, .p (Sub.tt' ?_), rfl⟩
        have e : inS E pn = hasI es (-1) := by rw [Bool.eq_iff_iff, inS_iff, hasI_iff, hes]; exact KL
        rw [e]
        simp
end Go.Ab
