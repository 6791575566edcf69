/- What can be come to: the reckoned answer has what ways lead to, and no more. -/
import Derived.Test.YtngohbblmlokoaaGreatAugF10
import Derived.Test.YtngohbblmlokoaaGreatAugF11
import Derived.Test.YtngohbblmlokoaaGreatAugF14
set_option linter.unusedSimpArgs false
set_option linter.unusedVariables false
namespace Go.Ab
open Go.Proofs
/-- A way of steps. -/
inductive Rch {α : Type} (R : α → α → Prop) (a : α) : α → Prop
  | refl : Rch R a a
  | tail {b c : α} (h : Rch R a b) (hr : R b c) : Rch R a c
theorem Rch.trans {α : Type} {R : α → α → Prop} {a b c : α} (h : Rch R a b) (h' : Rch R b c) : Rch R a c := by
  induction h' with
  | refl => exact h
  | tail _ hr ih => exact .tail ih hr
theorem Rch.head {α : Type} {R : α → α → Prop} {a b c : α} (hr : R a b) (h : Rch R b c) : Rch R a c := Rch.trans (.tail .refl hr) h
theorem Rch.mono {α : Type} {R R' : α → α → Prop} (h : ∀ x y, R x y → R' x y) {a b : α} (hr : Rch R a b) : Rch R' a b := by
  induction hr with
  | refl => exact .refl
  | tail _ hr ih => exact .tail ih (h _ _ hr)
/-- What is closed and holds the beginning holds all that ways lead to. -/
theorem Rch.closed {α : Type} {R : α → α → Prop} {S : α → Prop} (hS : ∀ x y, S x → R x y → S y) {a b : α} (ha : S a) (h : Rch R a b) : S b := by
  induction h with
  | refl => exact ha
  | tail _ hr ih => exact hS _ _ ih hr
structure WkM (n : Nat) (st : List Bool × List Int) : Prop where
  inv : wkInv n st
  mem : ∀ x, x ∈ st.2 ↔ (0 ≤ x ∧ x < n) ∧ st.1.getD x.toNat false = true
theorem WkM.start (n : Nat) : WkM n (List.replicate n false, []) := ⟨wkInv_start n, fun x => by
  simp only [List.not_mem_nil, false_iff, not_and]
  intro _
  rw [List.getD_eq_getElem?_getD, List.getElem?_replicate]
  split <;> simp⟩
theorem WkM.see {n : Nat} {st : List Bool × List Int} (h : WkM n st) {b : Int} (hb : 0 ≤ b ∧ b < n) : WkM n (seeW st b) ∧ (∀ x, x ∈ (seeW st b).2 ↔ x ∈ st.2 ∨ x = b) ∧ st.2 <+: (seeW st b).2 := by
  have hi := seeW_inv h.inv hb
  cases hs : st.1.getD b.toNat false with
  | true =>
    have e : seeW st b = st := by unfold seeW; rw [hs]; rfl
    rw [e]
    refine ⟨h, fun x => ⟨.inl, fun hx => ?_⟩, List.prefix_refl _⟩
    rcases hx with hx | rfl
    · exact hx
    · exact (h.mem _).2 ⟨hb, hs⟩
  | false =>
    have e : seeW st b = (st.1.set b.toNat true, st.2 ++ [b]) := by unfold seeW; rw [hs]; rfl
    rw [e] at hi ⊢
    have hlen := h.inv.1
    refine ⟨⟨hi, fun x => ?_⟩, fun x => by simp, List.prefix_append _ _⟩
    rw [List.mem_append, List.mem_singleton, h.mem]
    simp only [List.getD_eq_getElem?_getD, List.getElem?_set]
    by_cases hx : x = b
    · subst hx
      rw [if_pos rfl, if_pos (by omega)]
      simp [hb]
    · constructor
      · rintro (⟨h1, h2⟩ | h2)
        · refine ⟨h1, ?_⟩
          rw [if_neg (by omega)]
          exact h2
        · exact absurd h2 hx
      · rintro ⟨h1, h2⟩
        rw [if_neg (by omega)] at h2
        exact .inl ⟨h1, h2⟩
theorem WkM.fold {n : Nat} : ∀ (l : List Int) {st : List Bool × List Int}, WkM n st → (∀ b ∈ l, 0 ≤ b ∧ b < n) → WkM n (l.foldl seeW st) ∧ (∀ x, x ∈ (l.foldl seeW st).2 ↔ x ∈ st.2 ∨ x ∈ l) ∧ st.2 <+: (l.foldl seeW st).2
  | [], st, h, _ => ⟨h, fun x => by simp, List.prefix_refl _⟩
  | b :: r, st, h, hl => by
    obtain ⟨h1, h2, h3⟩ := h.see (hl b List.mem_cons_self)
    obtain ⟨h4, h5, h6⟩ := WkM.fold r h1 fun c hc => hl c (List.mem_cons_of_mem _ hc)
    refine ⟨h4, fun x => ?_, h3.trans h6⟩
    rw [List.foldl_cons, h5, h2, List.mem_cons, or_assoc]
/-- One place goes on to another one. -/
def rowR (rows : List (List Int)) (x y : Int) : Prop := y ∈ rows.getD x.toNat []
theorem row_in {n : Nat} {rows : List (List Int)} (hr : rowsIn n rows) {x y : Int} (h : rowR rows x y) : 0 ≤ y ∧ y < n := by
  unfold rowR at h
  rw [List.getD_eq_getElem?_getD] at h
  cases hq : rows[x.toNat]? with
  | none => rw [hq] at h; simp at h
  | some r => rw [hq] at h; exact hr.2 r (List.mem_of_getElem? hq) y h
theorem prefix_get {α : Type} {l m : List α} (h : l <+: m) {i : Nat} {a : α} (ha : l[i]? = some a) : m[i]? = some a := by
  obtain ⟨t, rfl⟩ := h
  rw [List.getElem?_append_left (List.getElem?_eq_some_iff.1 ha).1]
  exact ha
theorem walk_spec {n : Nat} {rows : List (List Int)} (hr : rowsIn n rows) : ∀ (k i : Nat) {st : List Bool × List Int}, WkM n st → i ≤ st.2.length → n + 1 ≤ k + i → (∀ (m : Nat) (a : Int), m < i → st.2[m]? = some a → ∀ b, rowR rows a b → b ∈ st.2) →
    WkM n (walkF rows k i st) ∧ (∀ x ∈ st.2, x ∈ (walkF rows k i st).2) ∧ (∀ x ∈ (walkF rows k i st).2, ∀ b, rowR rows x b → b ∈ (walkF rows k i st).2) ∧ (∀ S : Int → Prop, (∀ x ∈ st.2, S x) → (∀ x b, S x → rowR rows x b → S b) → ∀ x ∈ (walkF rows k i st).2, S x)
  | 0, i, st, h, hi, hk, _ => by
    have := wkInv_len h.inv
    omega
  | k + 1, i, st, h, hi, hk, hc => by
    rw [walkF]
    split
    · rename_i a ha
      have hlt := (List.getElem?_eq_some_iff.1 ha).1
      have hrow : ∀ b ∈ rows.getD a.toNat [], 0 ≤ b ∧ b < n := fun b hb => row_in hr hb
      obtain ⟨h1, h2, h3⟩ := h.fold (rows.getD a.toNat []) hrow
      obtain ⟨h4, h5, h6, h7⟩ := walk_spec hr k (i + 1) h1 (Nat.le_trans hlt h3.length_le) (by omega) fun m c hm hmc b hb => by
        rw [h2]
        rcases Nat.lt_or_ge m i with hmi | hmi
        · have hml : m < st.2.length := by omega
          have hmc' : st.2[m]? = some c := by
            have := prefix_get h3 (List.getElem?_eq_getElem hml)
            rw [List.getElem?_eq_getElem hml, ← this, hmc]
          exact .inl (hc m c hmi hmc' b hb)
        · obtain rfl : m = i := by omega
          have := prefix_get h3 ha
          rw [this] at hmc
          cases hmc
          exact .inr hb
      refine ⟨h4, fun x hx => h5 x ((h2 x).2 (.inl hx)), h6, fun S hS hcl => h7 S (fun x hx => ?_) hcl⟩
      rcases (h2 x).1 hx with hx | hx
      · exact hS x hx
      · exact hcl a x (hS a (List.mem_of_getElem? ha)) hx
    · rename_i ha
      have hlen : st.2.length ≤ i := List.getElem?_eq_none_iff.1 ha
      refine ⟨h, fun x hx => hx, fun x hx b hb => ?_, fun S hS _ => hS⟩
      obtain ⟨m, hm⟩ := List.mem_iff_getElem?.1 hx
      exact hc m x (by have := (List.getElem?_eq_some_iff.1 hm).1; omega) hm b hb
theorem start_spec {n : Nat} : ∀ (l : List Int) {st : List Bool × List Int}, WkM n st → WkM n (l.foldl (fun st a => bif hasB n a then seeW st a else st) st) ∧ ∀ x, x ∈ (l.foldl (fun st a => bif hasB n a then seeW st a else st) st).2 ↔ x ∈ st.2 ∨ (x ∈ l ∧ hasB n x = true)
  | [], st, h => ⟨h, fun x => by simp⟩
  | a :: r, st, h => by
    rw [List.foldl_cons]
    cases hb : hasB n a with
    | true =>
      obtain ⟨h1, h2, _⟩ := h.see (hasB_iff hb)
      obtain ⟨h3, h4⟩ := start_spec r h1
      rw [cond_true]
      refine ⟨h3, fun x => ?_⟩
      rw [h4, h2, List.mem_cons]
      constructor
      · rintro ((h5 | rfl) | ⟨h5, h6⟩)
        · exact .inl h5
        · exact .inr ⟨.inl rfl, hb⟩
        · exact .inr ⟨.inr h5, h6⟩
      · rintro (h5 | ⟨rfl | h5, h6⟩)
        · exact .inl (.inl h5)
        · exact .inl (.inr rfl)
        · exact .inr ⟨h5, h6⟩
    | false =>
      obtain ⟨h3, h4⟩ := start_spec r h
      rw [cond_false]
      refine ⟨h3, fun x => ?_⟩
      rw [h4, List.mem_cons]
      constructor
      · rintro (h5 | ⟨h5, h6⟩)
        · exact .inl h5
        · exact .inr ⟨.inr h5, h6⟩
      · rintro (h5 | ⟨rfl | h5, h6⟩)
        · exact .inl h5
        · rw [hb] at h6; cases h6
        · exact .inr ⟨h5, h6⟩
theorem lstI_iff : ∀ (l : List Bool) (i : Nat) (y : Int), y ∈ lstI i l ↔ ∃ k : Nat, l[k]? = some true ∧ y = ((i + k : Nat) : Int)
  | [], i, y => by simp [lstI]
  | b :: r, i, y => by
    have ih := lstI_iff r (i + 1) y
    have key : (∃ k : Nat, (b :: r)[k]? = some true ∧ y = ((i + k : Nat) : Int)) ↔ (b = true ∧ y = (i : Int)) ∨ ∃ k : Nat, r[k]? = some true ∧ y = ((i + 1 + k : Nat) : Int) := by
      constructor
      · rintro ⟨k, h1, h2⟩
        cases k with
        | zero => simp at h1; exact .inl ⟨h1, by simpa using h2⟩
        | succ k => exact .inr ⟨k, by simpa using h1, by rw [h2]; omega⟩
      · rintro (⟨h1, h2⟩ | ⟨k, h1, h2⟩)
        · exact ⟨0, by simp [h1], by simpa using h2⟩
        · exact ⟨k + 1, by simpa using h1, by rw [h2]; omega⟩
    rw [key, ← ih, lstI]
    cases b <;> simp
/-- What the program reckons as come to is what ways lead to. -/
theorem reach_iff {n : Nat} {rows : List (List Int)} (hr : rowsIn n rows) (l : List Int) (y : Int) : y ∈ lstI 0 (reachB rows l) ↔ ∃ a ∈ l, hasB n a = true ∧ Rch (rowR rows) a y := by
  obtain ⟨h1, h2⟩ := start_spec (n := n) l (WkM.start n)
  obtain ⟨h3, h4, h5, h6⟩ := walk_spec hr (rows.length + 1) 0 (st := startW rows.length l) (by rw [hr.1]; exact h1) (Nat.zero_le _) (by rw [hr.1]; omega) (fun m a hm => by omega)
  have hst : ∀ x, x ∈ (startW rows.length l).2 ↔ x ∈ l ∧ hasB n x = true := fun x => by
    rw [hr.1]
    unfold startW
    rw [h2]
    simp
  have hmem : ∀ y, y ∈ lstI 0 (reachB rows l) ↔ y ∈ (walkF rows (rows.length + 1) 0 (startW rows.length l)).2 := fun y => by
    rw [lstI_iff, h3.mem]
    show (∃ k : Nat, (walkF rows (rows.length + 1) 0 (startW rows.length l)).1[k]? = some true ∧ _) ↔ _
    constructor
    · rintro ⟨k, h7, h8⟩
      have hlt := (List.getElem?_eq_some_iff.1 h7).1
      rw [h3.inv.1] at hlt
      refine ⟨by omega, ?_⟩
      rw [h8, List.getD_eq_getElem?_getD]
      simp [h7]
    · rintro ⟨h7, h8⟩
      have hlt : y.toNat < (walkF rows (rows.length + 1) 0 (startW rows.length l)).1.length := by rw [h3.inv.1]; omega
      refine ⟨y.toNat, ?_, by omega⟩
      rw [List.getD_eq_getElem?_getD, List.getElem?_eq_getElem hlt] at h8
      rw [List.getElem?_eq_getElem hlt]
      simpa using h8
  rw [hmem]
  constructor
  · intro hy
    refine h6 (fun y => ∃ a ∈ l, hasB n a = true ∧ Rch (rowR rows) a y) (fun x hx => ?_) (fun x b ⟨a, h7, h8, h9⟩ hb => ⟨a, h7, h8, .tail h9 hb⟩) y hy
    obtain ⟨h7, h8⟩ := (hst x).1 hx
    exact ⟨x, h7, h8, .refl⟩
  · rintro ⟨a, h7, h8, h9⟩
    exact h9.closed (S := fun y => y ∈ (walkF rows (rows.length + 1) 0 (startW rows.length l)).2) (fun x b hx hb => h5 x hx b hb) (h4 a ((hst a).2 ⟨h7, h8⟩))
end Go.Ab
namespace Go.Ab
open Go.Proofs
theorem insI_mem {l : List Int} {k : Nat} {b x : Int} : x ∈ insI l k b ↔ x ∈ l ∨ x = b := by
  unfold insI
  rw [List.mem_append, List.mem_cons]
  have : x ∈ l ↔ x ∈ l.take k ∨ x ∈ l.drop k := by rw [← List.mem_append, List.take_append_drop]
  rw [this]
  constructor
  · rintro (h | h | h)
    · exact .inl (.inl h)
    · exact .inr h
    · exact .inl (.inr h)
  · rintro ((h | h) | h)
    · exact .inl h
    · exact .inr (.inr h)
    · exact .inr (.inl h)
theorem addE_row {n : Nat} {g : List (List Int) × List (List Int)} (hl : g.1.length = n) (e : Int × Int) {x y : Int} (hx : 0 ≤ x ∧ x < n) : y ∈ (addE n g e).1.getD x.toNat [] ↔ y ∈ g.1.getD x.toNat [] ∨ ((x, y) = e ∧ hasB n y = true) := by
  rw [addE_1]
  cases hc : (hasB n e.1 && hasB n e.2 && !(g.1.getD e.1.toNat []).contains e.2) with
  | true =>
    simp only [Bool.and_eq_true, Bool.not_eq_true'] at hc
    obtain ⟨⟨h1, h2⟩, _⟩ := hc
    have h3 := hasB_iff h1
    rw [cond_true]
    unfold putR
    rw [List.getD_eq_getElem?_getD, List.getElem?_set]
    by_cases he : e.1.toNat = x.toNat
    · rw [if_pos he, if_pos (by omega)]
      simp only [Option.getD_some]
      rw [insI_mem, ← he]
      have : x = e.1 := by omega
      constructor
      · rintro (h | h)
        · exact .inl h
        · exact .inr ⟨by rw [this, h], by rw [h]; exact h2⟩
      · rintro (h | ⟨h, _⟩)
        · exact .inl h
        · exact .inr (by rw [← h])
    · rw [if_neg he, ← List.getD_eq_getElem?_getD]
      constructor
      · exact .inl
      · rintro (h | ⟨h, _⟩)
        · exact h
        · exact absurd (by rw [← h]) he
  | false =>
    rw [cond_false]
    constructor
    · exact .inl
    · rintro (h | ⟨rfl, h⟩)
      · exact h
      · have h1 : hasB n x = true := by unfold hasB; simp [hx]
        simp only [h1, h, Bool.true_and, Bool.not_eq_false'] at hc
        simpa using hc
theorem addE_len {n : Nat} {g : List (List Int) × List (List Int)} (hl : g.1.length = n) (e : Int × Int) : (addE n g e).1.length = n := by
  rw [addE_1]
  cases (hasB n e.1 && hasB n e.2 && !(g.1.getD e.1.toNat []).contains e.2) with
  | true => rw [cond_true]; unfold putR; rw [List.length_set]; exact hl
  | false => exact hl
theorem graph_row {n : Nat} {x y : Int} (hx : 0 ≤ x ∧ x < n) : ∀ (l : List (Int × Int)) {g : List (List Int) × List (List Int)}, g.1.length = n → (y ∈ (l.foldl (addE n) g).1.getD x.toNat [] ↔ y ∈ g.1.getD x.toNat [] ∨ ((x, y) ∈ l ∧ hasB n y = true))
  | [], g, _ => by simp
  | e :: r, g, h => by
    rw [List.foldl_cons, graph_row hx r (addE_len h e), addE_row h e hx, List.mem_cons]
    constructor
    · rintro ((h1 | ⟨h1, h2⟩) | ⟨h1, h2⟩)
      · exact .inl h1
      · exact .inr ⟨.inl h1, h2⟩
      · exact .inr ⟨.inr h1, h2⟩
    · rintro (h1 | ⟨h1 | h1, h2⟩)
      · exact .inl (.inl h1)
      · exact .inl (.inr ⟨h1, h2⟩)
      · exact .inr ⟨h1, h2⟩
theorem graph_rowR {n : Nat} {l : List (Int × Int)} {x y : Int} (hx : 0 ≤ x ∧ x < n) : rowR (graphE n l).1 x y ↔ (x, y) ∈ l ∧ hasB n y = true := by
  unfold rowR graphE
  rw [graph_row hx l (by simp)]
  have : (List.replicate n ([] : List Int)).getD x.toNat [] = [] := by
    rw [List.getD_eq_getElem?_getD, List.getElem?_replicate]
    split <;> rfl
  rw [this]
  simp
/-- What a graph of edges comes to from a node. -/
theorem graph_reach {n : Nat} {l : List (Int × Int)} (h0 : 0 < n) (y : Int) : y ∈ lstI 0 (reachB (graphE n l).1 [0]) ↔ Rch (fun a b => (a, b) ∈ l ∧ hasB n b = true) 0 y := by
  rw [reach_iff (graphE_in n l).1]
  have hs : hasB n 0 = true := by unfold hasB; simp; omega
  constructor
  · rintro ⟨a, ha, _, h⟩
    obtain rfl : a = 0 := by simpa using ha
    exact (h.closed (S := fun x : Int => (0 ≤ x ∧ x < n) ∧ Rch (fun a b => (a, b) ∈ l ∧ hasB n b = true) 0 x) (fun x y ⟨h1, h2⟩ h3 => by
      have h4 := (graph_rowR h1).1 h3
      exact ⟨hasB_iff h4.2, .tail h2 h4⟩) ⟨⟨by omega, by omega⟩, .refl⟩).2
  · intro h
    refine ⟨0, by simp, hs, ?_⟩
    exact (h.closed (S := fun x : Int => (0 ≤ x ∧ x < n) ∧ Rch (rowR (graphE n l).1) 0 x) (fun x y ⟨h1, h2⟩ h3 => ⟨hasB_iff h3.2, .tail h2 ((graph_rowR h1).2 h3)⟩) ⟨⟨by omega, by omega⟩, .refl⟩).2
/-- A step leads from one place to another one. -/
def stR (F : List Step) (a b : Int) : Prop := ∃ s ∈ F, s.src = a ∧ s.dst = b
/-- A place of a procedure: the entry, the exit, a statement. -/
def plP (p : Pg) (j : Nat) (f : Pr) (x : Int) : Prop := x = 0 ∨ x = -1 ∨ ((offN p.procs j : Int) + 1 ≤ x ∧ x ≤ (offN p.procs j + cntL f.body : Nat))
def ixI (p : Pg) (j : Nat) (f : Pr) (x : Int) : Int := indexI (loI p j) (hiI p j f) (cntL f.body + 2 : Nat) x
theorem ix_rng {p : Pg} {j : Nat} {f : Pr} {x : Int} (h : plP p j f x) : 0 ≤ ixI p j f x ∧ ixI p j f x < (cntL f.body + 2 : Nat) := by
  unfold ixI indexI loI hiI
  unfold plP at h
  (repeat' split) <;> omega
theorem ix_inj {p : Pg} {j : Nat} {f : Pr} {x y : Int} (hx : plP p j f x) (hy : plP p j f y) (h : ixI p j f x = ixI p j f y) : x = y := by
  unfold ixI indexI loI hiI at h
  unfold plP at hx hy
  (repeat' split at h) <;> omega
theorem step_reach {p : Pg} {j : Nat} {f : Pr} {F : List Step} (hF : ∀ s ∈ F, plP p j f s.src ∧ plP p j f s.dst) {y : Int} (hy : plP p j f y) :
    ixI p j f y ∈ lstI 0 (reachB (graphE (cntL f.body + 2) (F.map (ixP p j f (cntL f.body + 2 : Nat)))).1 [0]) ↔ Rch (stR F) 0 y := by
  rw [graph_reach (by omega)]
  have e0 : ixI p j f 0 = 0 := by unfold ixI indexI; rw [if_pos rfl]
  have p0 : plP p j f 0 := .inl rfl
  constructor
  · intro h
    obtain ⟨z, h1, h2, h3⟩ := h.closed (S := fun i => ∃ z, plP p j f z ∧ ixI p j f z = i ∧ Rch (stR F) 0 z) (by
      rintro a b ⟨z, h1, h2, h3⟩ ⟨h4, _⟩
      obtain ⟨s, hs, he⟩ := List.mem_map.1 h4
      obtain ⟨h5, h6⟩ := hF s hs
      have e1 : ixI p j f s.src = a := congrArg Prod.fst he
      have e2 : ixI p j f s.dst = b := congrArg Prod.snd he
      have e3 : s.src = z := ix_inj h5 h1 (by rw [e1, h2])
      exact ⟨s.dst, h6, e2, .tail h3 ⟨s, hs, e3, rfl⟩⟩) ⟨0, p0, e0, .refl⟩
    rw [← ix_inj h1 hy h2]
    exact h3
  · intro h
    have := h.closed (S := fun z => plP p j f z ∧ Rch (fun a b => (a, b) ∈ F.map (ixP p j f (cntL f.body + 2 : Nat)) ∧ hasB (cntL f.body + 2) b = true) 0 (ixI p j f z)) (by
      rintro a b ⟨h1, h2⟩ ⟨s, hs, rfl, rfl⟩
      obtain ⟨h5, h6⟩ := hF s hs
      refine ⟨h6, .tail h2 ⟨List.mem_map.2 ⟨s, hs, rfl⟩, ?_⟩⟩
      have := ix_rng h6
      unfold hasB
      simp only [Bool.and_eq_true, decide_eq_true_eq]
      exact this) ⟨p0, by rw [e0]; exact .refl⟩
    exact this.2
theorem real_places {p : Pg} (h : chkB p = true) {j : Nat} {f : Pr} (hj : p.procs[j]? = some f) : ∀ s ∈ (newWay p j f).real, plP p j f s.src ∧ plP p j f s.dst := fun s hs => by
  obtain ⟨_, h2⟩ := real_spec h hj
  obtain ⟨_, h3, _⟩ := chk_way h hj
  obtain ⟨h4, h5⟩ := h3 s ((h2 s).1 hs)
  unfold okI at h5
  unfold plP
  omega
/-- Who can come to an end, others given. -/
def endP (p : Pg) (k : Nat) (f : Pr) (E : List Str) : Prop := Rch (stR ((newWay p k f).real.filter (keepE p E))) 0 (-1)
theorem endsW_iff {p : Pg} (h : chkB p = true) {k : Nat} {f : Pr} (hj : p.procs[k]? = some f) (E : List Str) : endsW (newWay p k f) f E = true ↔ endP p k f E := by
  unfold endP
  rw [← step_reach (p := p) (j := k) (f := f) (fun s hs => real_places h hj s (List.mem_filter.1 hs).1) (y := -1) (.inr (.inl rfl))]
  unfold endsW
  rw [List.any_eq_true]
  have e1 : ixI p k f (-1) = ((cntL f.body + 2 : Nat) : Int) - 1 := by unfold ixI indexI; rw [if_neg (by omega), if_pos rfl]
  rw [e1]
  constructor
  · rintro ⟨x, h1, h2⟩
    have h2 : ((cntL f.body + 2 : Nat) : Int) - 1 = x := of_decide_eq_true h2
    rw [h2]
    exact h1
  · intro h1
    exact ⟨_, h1, decide_eq_true rfl⟩
theorem twice_no {l : List Str} (h : twiceB l = false) : l.Nodup := by
  unfold twiceB at h
  rw [List.any_eq_false] at h
  unfold List.Nodup
  rw [List.pairwise_iff_getElem]
  intro i j hi hj hij he
  have h1 := h j (List.mem_range.2 hj)
  apply h1
  rw [List.any_eq_true]
  refine ⟨l[i], ?_, ?_⟩
  · exact List.mem_iff_getElem.2 ⟨i, by simp; omega, by simp⟩
  · rw [List.getElem?_eq_getElem hj]
    simp [he]
end Go.Ab
namespace Go.Ab
open Go.Proofs
end Go.Ab
namespace Go.Ab
open Go.Proofs
/-- A step that may be taken: from the beginning, or past none of some. -/
def frR (steps : List Step) (at_ : Int) (but : List Int) (a b : Int) : Prop := (a = at_ ∨ hasI but a = false) ∧ ∃ s ∈ steps, s.src = a ∧ s.dst = b
structure FrI (steps : List Step) (at_ : Int) (but : List Int) (n : Nat) (l : List Int) : Prop where
  le : n ≤ l.length
  hd : l[0]? = some at_
  nd : l.Nodup
  sub : ∀ x ∈ l, x ∈ at_ :: steps.map Step.dst
  snd : ∀ x ∈ l, Rch (frR steps at_ but) at_ x
  cl : ∀ (m : Nat) (a : Int), m < n → l[m]? = some a → ∀ b, frR steps at_ but a b → b ∈ l
theorem FrI.len {steps : List Step} {at_ : Int} {but : List Int} {n : Nat} {l : List Int} (h : FrI steps at_ but n l) : l.length ≤ steps.length + 1 := by
  have := nodup_len h.nd h.sub
  simpa using this
theorem FrI.start (steps : List Step) (at_ : Int) (but : List Int) : FrI steps at_ but 0 [at_] := ⟨Nat.zero_le _, rfl, by simp, by simp, fun x hx => by rw [List.mem_singleton.1 hx]; exact .refl, fun m a hm => by omega⟩
theorem FrI.add {steps : List Step} {at_ : Int} {but : List Int} {n : Nat} {l : List Int} (h : FrI steps at_ but n l) {a b : Int} (ha : a ∈ l) (hb : frR steps at_ but a b) (hn : hasI l b = false) : FrI steps at_ but n (l ++ [b]) := by
  have hnm : b ∉ l := fun hm => by rw [hasI_iff.2 hm] at hn; cases hn
  have h0 : 0 < l.length := (List.getElem?_eq_some_iff.1 h.hd).1
  refine ⟨by rw [List.length_append]; have := h.le; omega, by rw [List.getElem?_append_left h0]; exact h.hd, ?_, fun x hx => ?_, fun x hx => ?_, fun m c hm hc d hd => ?_⟩
  · rw [List.nodup_append]
    refine ⟨h.nd, by simp, fun x hx y hy => ?_⟩
    rw [List.mem_singleton.1 hy]
    exact fun e => hnm (e ▸ hx)
  · rcases List.mem_append.1 hx with hx | hx
    · exact h.sub x hx
    · rw [List.mem_singleton.1 hx]
      obtain ⟨_, s, hs, _, h2⟩ := hb
      exact List.mem_cons_of_mem _ (List.mem_map.2 ⟨s, hs, h2⟩)
  · rcases List.mem_append.1 hx with hx | hx
    · exact h.snd x hx
    · rw [List.mem_singleton.1 hx]
      exact .tail (h.snd a ha) hb
  · rcases Nat.lt_or_ge m l.length with hml | hml
    · rw [List.getElem?_append_left hml] at hc
      exact List.mem_append.2 (.inl (h.cl m c hm hc d hd))
    · have := h.le
      omega
theorem FrI.fin {steps : List Step} {at_ : Int} {but : List Int} {l : List Int} (h : FrI steps at_ but l.length l) (x : Int) : x ∈ l ↔ Rch (frR steps at_ but) at_ x := by
  refine ⟨h.snd x, fun hr => hr.closed (S := fun x => x ∈ l) (fun a b ha hb => ?_) (List.mem_of_getElem? h.hd)⟩
  obtain ⟨m, hm⟩ := List.mem_iff_getElem?.1 ha
  exact h.cl m a (List.getElem?_eq_some_iff.1 hm).1 hm b hb
theorem FrI.next {steps : List Step} {at_ : Int} {but : List Int} {n : Nat} {l : List Int} (h : FrI steps at_ but n l) (hn : n < l.length) (hc : ∀ b, frR steps at_ but l[n] b → b ∈ l) : FrI steps at_ but (n + 1) l := by
  refine ⟨hn, h.hd, h.nd, h.sub, h.snd, fun m a hm ha b hb => ?_⟩
  rcases Nat.lt_or_ge m n with hmn | hmn
  · exact h.cl m a hmn ha b hb
  · obtain rfl : m = n := by omega
    rw [List.getElem?_eq_getElem hn] at ha
    cases ha
    exact hc b hb
end Go.Ab
namespace Go.Ab
open Go.Proofs
theorem DrawK.frz {P : Program} {T : Tab} {N : Nat} {ops : Array Oper} {info : Info} {id : Nat} {K : St → Prop} {s : St} (gs : List (List Nat)) (h : frzK gs s fun s' => DrawK P T N info id ops K s') : DrawK P T N info id ops K s := by
  obtain ⟨s', h1, h2⟩ := frzK_spec (N := N) h
  exact DrawK.le h2 h1
/-- A statement's own item, by its number. -/
theorem stAt_own {p : Pg} (h : chkB p = true) {j : Nat} {f : Pr} (hj : p.procs[j]? = some f) {a : Int} (h1 : (offN p.procs j : Int) + 1 ≤ a) (h2 : a ≤ (offN p.procs j + cntL f.body : Nat)) : ∃ t ∈ flL f.body, stAt p a = some t ∧ t.id = a := by
  obtain ⟨it, h3, h4⟩ := sheet_its hj (k := (a - 1).toNat) (by omega) (by omega)
  refine ⟨it.s, its_s h4, by unfold stAt; rw [h3]; rfl, ?_⟩
  obtain ⟨_, _, _, hlen, hsp⟩ := sheet_spec p
  obtain ⟨_, _, hle, hd⟩ := hsp j f hj
  have hids := its_ids (chk_parts h).1 hj
  have h5 : (itsOf p j f)[(a - 1).toNat - offN p.procs j]? = some it := by
    unfold itsOf
    rw [← hd, List.getElem?_drop, List.getElem?_take, if_pos (by omega), show offN p.procs j + ((a - 1).toNat - offN p.procs j) = (a - 1).toNat by omega]
    exact h3
  have h6 : ((itsOf p j f).map fun it => it.s.id)[(a - 1).toNat - offN p.procs j]? = some it.s.id := by rw [List.getElem?_map, h5]; rfl
  rw [hids] at h6
  unfold idsN at h6
  rw [List.getElem?_map, List.getElem?_range' (by omega)] at h6
  simp at h6
  omega
end Go.Ab
namespace Go.Ab
open Go.Proofs
end Go.Ab
namespace Go.Ab
open Go.Proofs
def onPr (b : Bool) (f : Pr) : Pr := ⟨f.name, f.params, f.vars, onL b f.body, if b then f.fin else []⟩
def nmPrs (n : Nat) : List Pr → List Pr
  | [] => []
  | f :: r => ⟨f.name, f.params, f.vars, nmL n f.body, f.fin⟩ :: nmPrs (n + cntL f.body) r
def nmPg (p : Pg) : Pg := ⟨p.globals, nmPrs 0 p.procs⟩
def onlyRaw (b : Bool) (p : Pg) : Pg := ⟨p.globals, (p.procs.filter fun f => f.name == mainS).map (onPr b)⟩
def onlyPg (b : Bool) (p : Pg) : Pg := nmPg (onlyRaw b p)
def gOf (b : Bool) (f : Pr) : Pr := ⟨f.name, f.params, f.vars, nmL 0 (onL b f.body), if b then f.fin else []⟩
/-- Main is there once, without parameters. -/
theorem main_one {p : Pg} (h : chkB p = true) : ∃ (k : Nat) (f : Pr), p.procs[k]? = some f ∧ p.procs.filter (fun f => f.name == mainS) = [f] ∧ f.name = mainS ∧ f.params = [] := by
  obtain ⟨hm, hs, _⟩ := chk_parts h
  obtain ⟨_, hb, _⟩ := scope_ok hs
  unfold mainBad at hb
  simp only [Bool.or_eq_false_iff, Bool.not_eq_false'] at hb
  obtain ⟨_, h2, h3, h4⟩ := hb
  have hnd := twice_no h2
  obtain ⟨k, hk, h5, h6⟩ := main_idx h3
  have h7 := List.find?_some h6
  have hn : p.procs[k].name = mainS := by
    have : mainS = p.procs[k].name := by simpa using h7
    exact this.symm
  rw [h6] at h4
  have hp : p.procs[k].params = [] := List.eq_nil_of_length_eq_zero (by simpa using h4)
  refine ⟨k, p.procs[k], List.getElem?_eq_getElem hk, ?_, hn, hp⟩
  have key : ∀ (l : List Pr), (l.map Pr.name).Nodup → ∀ f ∈ l, f.name = mainS → l.filter (fun f => f.name == mainS) = [f] := fun l => by
    induction l with
    | nil => intro _ f hf; cases hf
    | cons g r ih =>
      intro hnd f hf hfn
      rw [List.map_cons, List.nodup_cons] at hnd
      rcases List.mem_cons.1 hf with rfl | hf
      · rw [List.filter_cons_of_pos (by simp [hfn])]
        congr 1
        rw [List.filter_eq_nil_iff]
        intro g hg he
        exact hnd.1 (by rw [hfn, ← show g.name = mainS by simpa using he]; exact List.mem_map_of_mem hg)
      · rw [List.filter_cons_of_neg (by
          intro he
          exact hnd.1 (by rw [show g.name = mainS by simpa using he, ← hfn]; exact List.mem_map_of_mem hf))]
        exact ih hnd.2 f hf hfn
  exact key p.procs hnd _ (List.getElem_mem hk) hn
theorem only_eq {p : Pg} {b : Bool} {f : Pr} (h : p.procs.filter (fun f => f.name == mainS) = [f]) : onlyPg b p = ⟨p.globals, [gOf b f]⟩ := by
  unfold onlyPg nmPg onlyRaw
  simp only
  rw [h]
  rfl
mutual
theorem cntS_on (b : Bool) : ∀ t : S, cntS (onS b t) = cntS t
  | .mk id kind labels name proc x has args thn els => by
    rw [onS]
    split
    · rw [cntS, cntS, cntL_on b thn, cntL_on b els]
    · rw [cntS, cntS, cntL_on b thn, cntL_on b els]
theorem cntL_on (b : Bool) : ∀ l : List S, cntL (onL b l) = cntL l
  | [] => by rw [onL]
  | t :: r => by rw [onL, cntL, cntL, cntS_on b t, cntL_on b r]
end
/-- What is said of a statement that stands for another one. -/
structure OnR (s t : S) : Prop where
  labels : t.labels = []
  off : s.kind = 4 ∨ 7 ≤ s.kind → t.kind = 3 ∧ t.name = [] ∧ t.x = .mk 1 7 [] [] ∧ t.args = []
  on : ¬ (s.kind = 4 ∨ 7 ≤ s.kind) → t.kind = s.kind ∧ t.name = s.name ∧ t.x = s.x ∧ t.args = s.args
theorem on_own (s : S) (n : Nat) : OnR s (nmS n (onS false s)) := by
  by_cases hk : s.kind = 4 ∨ 7 ≤ s.kind
  · have e := (onS_eq false s).trans (if_pos (hk.imp id fun h => ⟨h, rfl⟩))
    rw [e, nmS_eq]
    exact ⟨rfl, fun _ => ⟨rfl, rfl, rfl, rfl⟩, fun h => absurd hk h⟩
  · have e := (onS_eq false s).trans (if_neg (fun h => hk (h.imp id fun h => h.1)))
    rw [e, nmS_eq]
    exact ⟨rfl, fun h => absurd h hk, fun _ => ⟨rfl, rfl, rfl, rfl⟩⟩
theorem on_thn (s : S) (n : Nat) : (nmS n (onS false s)).thn = nmL (n + 1) (onL false s.thn) ∧ (nmS n (onS false s)).els = nmL (n + 1 + cntL s.thn) (onL false s.els) ∧ (nmS n (onS false s)).id = ((n + 1 : Nat) : Int) := by
  have h : (onS false s).thn = onL false s.thn ∧ (onS false s).els = onL false s.els := by
    rw [onS_eq]
    split <;> exact ⟨rfl, rfl⟩
  rw [nmS_eq, h.1, h.2, cntL_on]
  exact ⟨rfl, rfl, rfl⟩
mutual
theorem onR_S : ∀ (s : S) (n : Nat) (t : S), t ∈ flS (nmS n (onS false s)) → ∃ s' ∈ flS s, OnR s' t
  | .mk id kind labels name proc x has args thn els, n, t, h => by
    obtain ⟨h1, h2, _⟩ := on_thn (.mk id kind labels name proc x has args thn els) n
    rw [flS_eq, h1, h2] at h
    rw [flS]
    rcases List.mem_cons.1 h with rfl | h
    · exact ⟨_, List.mem_cons_self, on_own _ n⟩
    · rcases List.mem_append.1 h with h | h
      · obtain ⟨s', h3, h4⟩ := onR_L thn _ t h
        exact ⟨s', List.mem_cons_of_mem _ (List.mem_append.2 (.inl h3)), h4⟩
      · obtain ⟨s', h3, h4⟩ := onR_L els _ t h
        exact ⟨s', List.mem_cons_of_mem _ (List.mem_append.2 (.inr h3)), h4⟩
theorem onR_L : ∀ (l : List S) (n : Nat) (t : S), t ∈ flL (nmL n (onL false l)) → ∃ s' ∈ flL l, OnR s' t
  | [], n, t, h => by rw [onL, nmL, flL] at h; cases h
  | s :: r, n, t, h => by
    rw [onL, nmL, flL] at h
    rw [flL]
    rcases List.mem_append.1 h with h | h
    · obtain ⟨s', h3, h4⟩ := onR_S s _ t h
      exact ⟨s', List.mem_append.2 (.inl h3), h4⟩
    · obtain ⟨s', h3, h4⟩ := onR_L r _ t h
      exact ⟨s', List.mem_append.2 (.inr h3), h4⟩
end
theorem on_fields {s : S} (h : oneOk s = true) (n : Nat) : fieldsB (nmS n (onS false s)) = true := by
  have hF := one_facts h
  obtain ⟨h1, h2, _⟩ := on_thn s n
  by_cases hk : s.kind = 4 ∨ 7 ≤ s.kind
  · have ht : s.thn = [] := List.eq_nil_of_length_eq_zero (by rcases hF.thn with h | h | h <;> omega)
    have he : s.els = [] := List.eq_nil_of_length_eq_zero (by rcases hF.els with h | h <;> omega)
    have e := (onS_eq false s).trans (if_pos (hk.imp id fun h => ⟨h, rfl⟩))
    rw [e, nmS_eq, ht, he]
    rfl
  · have hf : fieldsB s = true := by
      unfold oneOk at h
      exact (Bool.and_eq_true_iff.1 h).1
    have e := (onS_eq false s).trans (if_neg (fun h => hk (h.imp id fun h => h.1)))
    have hl1 : (nmS n (onS false s)).thn.length = s.thn.length := by rw [h1, nmL_len, onL_map, List.length_map]
    have hl2 : (nmS n (onS false s)).els.length = s.els.length := by rw [h2, nmL_len, onL_map, List.length_map]
    have e2 : fieldsB (nmS n (onS false s)) = fieldsB s := by
      unfold fieldsB
      rw [hl1, hl2]
      rw [e, nmS_eq]
      rfl
    rw [e2, hf]
mutual
theorem rowS_on : ∀ (s : S) {nest seen m : Int} (n : Nat), rowS nest seen s = some m → n + cntS s ≤ 200 → rowS nest n (nmS n (onS false s)) = some ((n + cntS s : Nat) : Int)
  | .mk id kind labels name proc x has args thn els, nest, seen, m, n, h, hn => by
    obtain ⟨h1, _, m1, h3, h4⟩ := rowS_parts h
    obtain ⟨e1, e2, e3⟩ := on_thn (.mk id kind labels name proc x has args thn els) n
    have hc : cntS (.mk id kind labels name proc x has args thn els) = 1 + cntL thn + cntL els := by rw [cntS]
    rw [hc] at hn
    have q1 := rowL_on thn (n + 1) h3 (by omega)
    have q2 := rowL_on els (n + 1 + cntL thn) h4 (by omega)
    rw [rowS_eq, if_neg (by omega), if_neg (by rw [e3]; omega), (on_own _ n).labels, on_fields h1, e1, e2]
    show (bif true then bif true then (match rowL (nest + 1) ((n : Int) + 1) (nmL (n + 1) (onL false thn)) with | some m => rowL (nest + 1) m (nmL (n + 1 + cntL thn) (onL false els)) | none => none) else none else none) = _
    rw [show ((n : Int) + 1) = ((n + 1 : Nat) : Int) by omega, q1]
    show rowL (nest + 1) ((n + 1 + cntL thn : Nat) : Int) _ = _
    rw [q2, hc]
    congr 2
    omega
theorem rowL_on : ∀ (l : List S) {nest seen m : Int} (n : Nat), rowL nest seen l = some m → n + cntL l ≤ 200 → rowL nest n (nmL n (onL false l)) = some ((n + cntL l : Nat) : Int)
  | [], nest, seen, m, n, h, hn => by rw [onL, nmL, rowL, cntL]; rfl
  | s :: r, nest, seen, m, n, h, hn => by
    obtain ⟨h1, m1, h2, h3⟩ := rowL_parts h
    have hc : cntL (s :: r) = cntS s + cntL r := by rw [cntL]
    rw [hc] at hn
    have q1 := rowS_on s n h2 (by omega)
    have q2 := rowL_on r (n + cntS s) h3 (by omega)
    rw [onL, nmL, rowL, if_neg (by omega), q1, cntS_on]
    show rowL nest ((n + cntS s : Nat) : Int) _ = _
    rw [q2, hc]
    congr 2
    omega
end
section
variable {p : Pg} {k : Nat} {f : Pr}
theorem g_flat {t : S} (ht : t ∈ flL (gOf false f).body) : ∃ s ∈ flL f.body, OnR s t := onR_L f.body 0 t ht
theorem OnR.kind {s t : S} (h : OnR s t) : t.kind ≠ 4 ∧ t.kind < 7 := by
  by_cases hk : s.kind = 4 ∨ 7 ≤ s.kind
  · have := (h.off hk).1
    omega
  · have := (h.on hk).1
    omega
theorem g_names {s t : S} (h : OnR s t) {v : Str} (hv : v ∈ namesT t) : v ∈ namesT s := by
  by_cases hk : s.kind = 4 ∨ 7 ≤ s.kind
  · obtain ⟨h1, h2, h3, h4⟩ := h.off hk
    unfold namesT namesH at hv
    rw [h1, h2, h3, h4] at hv
    exact absurd hv (by
      have : namesX (.mk 1 7 [] []) = [] := rfl
      rw [this]
      simp)
  · obtain ⟨h1, h2, h3, h4⟩ := h.on hk
    unfold namesT namesH at hv ⊢
    rwa [h1, h2, h3, h4] at hv
theorem g_may (h : chkB p = true) (hj : p.procs[k]? = some f) : mayB ⟨p.globals, [gOf false f]⟩ = true := by
  obtain ⟨hm, _⟩ := chk_parts h
  obtain ⟨h1, h2, h3, h4⟩ := mayB_parts hm
  obtain ⟨_, _, hcn⟩ := chk_cnt h
  have hmem : f ∈ p.procs := List.mem_of_getElem? hj
  obtain ⟨h5, a, b, h6⟩ := h4 f hmem
  have hc := cntP_mem _ _ hmem
  have q := rowL_on f.body (nest := 1) 0 h6 (by omega)
  obtain ⟨g1, g2, g3, g4, _, g6⟩ := mayPr_iff.1 h5
  have g7 : mayPr (gOf false f) = true := mayPr_iff.2 ⟨g1, g2, g3, g4, rfl, g6⟩
  have e : mayPrs 0 [gOf false f] = some ((0 + cntL f.body : Nat) : Int) := by
    rw [mayPrs, g7, cond_true, show (gOf false f).body = nmL 0 (onL false f.body) from rfl]
    rw [show rowL 1 0 (nmL 0 (onL false f.body)) = some ((0 + cntL f.body : Nat) : Int) from q]
    rfl
  unfold mayB
  simp only
  rw [e, h3]
  simp [h1]
theorem scopeAt_no (h : chkB p = true) (hj : p.procs[k]? = some f) : scopeAt p f = none := by
  obtain ⟨_, hs, _⟩ := chk_parts h
  exact List.findSome?_eq_none_iff.1 (scope_ok hs).2.2 f (List.mem_of_getElem? hj)
theorem g_scope (h : chkB p = true) (hj : p.procs[k]? = some f) (hn : f.name = mainS) (hp : f.params = []) : (scopeB ⟨p.globals, [gOf false f]⟩).1 = 0 := by
  obtain ⟨hm, hs, _⟩ := chk_parts h
  obtain ⟨_, hb, _⟩ := scope_ok hs
  have hgl : twiceB p.globals = false := by
    unfold mainBad at hb
    simp only [Bool.or_eq_false_iff] at hb
    exact hb.1
  have hmb : mainBad ⟨p.globals, [gOf false f]⟩ = false := by
    unfold mainBad procsN
    simp only [List.map_cons, List.map_nil]
    rw [hgl, show (gOf false f).name = mainS from hn]
    rw [show ([gOf false f].find? fun f => mainS == f.name) = some (gOf false f) by
      rw [List.find?_cons, show (mainS == (gOf false f).name) = true by rw [show (gOf false f).name = mainS from hn]; simp]]
    simp only
    rw [show (gOf false f).params = [] from hp]
    rfl
  have hat := scopeAt_no h hj
  have hat2 : scopeAt ⟨p.globals, [gOf false f]⟩ (gOf false f) = none := by
    unfold scopeAt at hat ⊢
    have e : ownL (gOf false f) = ownL f := rfl
    rw [e]
    cases hc : twiceB (ownL f) || (ownL f).any fun n => p.globals.any fun s => n == s with
    | true => rw [hc] at hat; cases hat
    | false =>
      rw [hc, cond_false] at hat
      rw [cond_false]
      rw [Option.map_eq_none_iff, List.find?_eq_none] at hat ⊢
      intro t ht
      obtain ⟨s, hs1, hs2⟩ := g_flat ht
      have h3 := hat s hs1
      simp only [Bool.not_eq_true, Bool.not_eq_false'] at h3 ⊢
      unfold knownB at h3 ⊢
      rw [Bool.and_eq_true] at h3 ⊢
      refine ⟨?_, by rw [decide_eq_true hs2.kind.1]; rfl⟩
      rw [List.all_eq_true]
      intro v hv
      exact List.all_eq_true.1 h3.1 v (g_names hs2 hv)
  unfold scopeB
  rw [g_may h hj, hmb]
  simp only [cond_true, cond_false, List.findSome?_cons, hat2, List.findSome?_nil]
theorem g_nocall {t : S} (ht : t ∈ stmts ⟨p.globals, [gOf false f]⟩) : t.kind ≠ 4 := by
  unfold stmts at ht
  simp only [List.flatMap_cons, List.flatMap_nil, List.append_nil] at ht
  obtain ⟨s, _, hs⟩ := g_flat ht
  exact hs.kind.1
theorem g_arity (h : chkB p = true) (hj : p.procs[k]? = some f) (hn : f.name = mainS) (hp : f.params = []) : (arityB ⟨p.globals, [gOf false f]⟩).1 = 0 := by
  unfold arityB
  rw [if_neg (by rw [g_scope h hj hn hp]; omega)]
  rw [List.find?_eq_none.2 (fun t ht => by rw [decide_eq_false (g_nocall ht)]; simp)]
theorem jumpR_ok {g : Pr} : ∀ (l : List Item), (∀ it ∈ l, it.s.labels = [] ∧ it.s.kind < 7) → jumpR g l [] = .ok []
  | [], _ => rfl
  | it :: r, h => by
    obtain ⟨h1, h2⟩ := h it List.mem_cons_self
    rw [jumpR, h1]
    simp only [joinO]
    have : leadsB g it = true := by
      unfold leadsB
      rw [if_neg (by omega), if_neg (by omega)]
    rw [this, cond_true]
    exact jumpR_ok r fun x hx => h x (List.mem_cons_of_mem _ hx)
theorem g_jump (h : chkB p = true) (hj : p.procs[k]? = some f) (hn : f.name = mainS) (hp : f.params = []) : (jumpB ⟨p.globals, [gOf false f]⟩).1 = 0 := by
  unfold jumpB
  rw [if_neg (by rw [g_scope h hj hn hp]; omega)]
  have e : jumpAt ⟨p.globals, [gOf false f]⟩ 0 = none := by
    unfold jumpAt
    simp only [List.getElem?_cons_zero]
    rw [jumpR_ok _ fun it hi => by
      have hm : it.s ∈ flL (gOf false f).body := by
        rw [← itL_s ((0 : Nat) : Int) 0 (-1) 0 (offN [gOf false f] 0)]
        exact List.mem_map_of_mem hi
      obtain ⟨s, _, hs⟩ := g_flat hm
      exact ⟨hs.labels, hs.kind.2⟩]
    rfl
  rw [show List.range (Pg.procs ⟨p.globals, [gOf false f]⟩).length = [0] from rfl]
  simp only [List.findSome?_cons, e, List.findSome?_nil]
theorem g_chk (h : chkB p = true) (hj : p.procs[k]? = some f) (hn : f.name = mainS) (hp : f.params = []) : chkB ⟨p.globals, [gOf false f]⟩ = true := by
  have ha : (aliasB ⟨p.globals, [gOf false f]⟩).1 = 0 := by
    unfold aliasB
    rw [if_neg (by rw [g_arity h hj hn hp]; omega)]
    rw [List.find?_eq_none.2 (fun t ht => by rw [decide_eq_false (g_nocall ht)]; simp)]
  unfold chkB allB
  rw [if_neg (by rw [g_may h hj]; simp), if_neg (by rw [g_scope h hj hn hp]; omega), if_neg (by rw [g_arity h hj hn hp]; omega), if_neg (by rw [g_jump h hj hn hp]; omega), ha]
  rfl
end
end Go.Ab
namespace Go.Ab
open Go.Proofs
/-- On the way from a black place to one that is not black: the first that is not black. -/
theorem first_out {E : Int → Int → Prop} {B : List Int} {u x : Int} (h : Rch E u x) (hu : u ∈ B) (hx : x ∉ B) : ∃ z y, z ∈ B ∧ E z y ∧ y ∉ B ∧ Rch E u y ∧ Rch E y x := by
  induction h with
  | refl => exact absurd hu hx
  | @tail b c h hr ih =>
    by_cases hb : b ∈ B
    · exact ⟨b, c, hb, hr, hx, .tail h hr, .refl⟩
    · obtain ⟨z, y, h1, h2, h3, h4, h5⟩ := ih hb
      exact ⟨z, y, h1, h2, h3, h4, .tail h5 hr⟩
/-- A row in which each one leads to the one behind it. -/
def chainE (E : Int → Int → Prop) : List Int → Prop
  | [] => True
  | [_] => True
  | a :: b :: r => E a b ∧ chainE E (b :: r)
theorem chainE_last {E : Int → Int → Prop} : ∀ (l : List Int) {a y : Int}, chainE E (l ++ [a]) → y ∈ l ++ [a] → Rch E y a
  | [], a, y, _, hy => by
    simp at hy
    rw [hy]
    exact .refl
  | [b], a, y, h, hy => by
    simp at hy
    rcases hy with rfl | rfl
    · exact .tail .refl h.1
    · exact .refl
  | b :: c :: r, a, y, h, hy => by
    have h1 : chainE E ((c :: r) ++ [a]) := h.2
    rcases List.mem_cons.1 hy with rfl | hy
    · exact .head h.1 (chainE_last (c :: r) h1 (by simp))
    · exact chainE_last (c :: r) h1 hy
theorem chainE_push {E : Int → Int → Prop} : ∀ (l : List Int) {a b : Int}, chainE E (l ++ [a]) → E a b → chainE E (l ++ [a] ++ [b])
  | [], a, b, _, hb => ⟨hb, trivial⟩
  | [c], a, b, h, hb => ⟨h.1, hb, trivial⟩
  | c :: d :: r, a, b, h, hb => ⟨h.1, chainE_push (d :: r) h.2 hb⟩
theorem chainE_pop {E : Int → Int → Prop} : ∀ (l : List Int) {a : Int}, chainE E (l ++ [a]) → chainE E l
  | [], _, _ => trivial
  | [_], _, _ => trivial
  | c :: d :: r, _, h => ⟨h.1, chainE_pop (d :: r) h.2⟩
structure DfsI (n : Nat) (E : Int → Int → Prop) (out stack : List Int) : Prop where
  nd : (out ++ stack).Nodup
  rng : ∀ x ∈ out ++ stack, 0 ≤ x ∧ x < n
  path : chainE E stack
  cl : ∀ u ∈ out, ∀ v, E u v → v ∈ out ∨ v ∈ stack
  J : ∀ u ∈ out, ∀ x, Rch E u x → x ∉ out → ∃ s ∈ stack, Rch E u s ∧ Rch E s u ∧ Rch E s x
  K : ∀ (i : Nat) (r : Int), out[i]? = some r → ∀ u, Rch E u r → Rch E r u ∨ ∃ u', Rch E u u' ∧ Rch E u' u ∧ (u' ∉ out ∨ ∃ j, i < j ∧ out[j]? = some u')
theorem DfsI.start (n : Nat) (E : Int → Int → Prop) : DfsI n E [] [] := ⟨by simp, by simp, trivial, by simp, by simp, by simp⟩
theorem DfsI.push {n : Nat} {E : Int → Int → Prop} {out stack : List Int} (h : DfsI n E out stack) {b : Int} (hb : 0 ≤ b ∧ b < n) (hn : b ∉ out ++ stack) (hp : chainE E (stack ++ [b])) : DfsI n E out (stack ++ [b]) := by
  refine ⟨?_, fun x hx => ?_, hp, fun u hu v hv => ?_, fun u hu x hx hxo => ?_, h.K⟩
  · rw [← List.append_assoc, List.nodup_append]
    refine ⟨h.nd, by simp, fun x hx y hy => ?_⟩
    rw [List.mem_singleton.1 hy]
    exact fun e => hn (e ▸ hx)
  · rw [← List.append_assoc] at hx
    rcases List.mem_append.1 hx with hx | hx
    · exact h.rng x hx
    · rw [List.mem_singleton.1 hx]; exact hb
  · rcases h.cl u hu v hv with h1 | h1
    · exact .inl h1
    · exact .inr (List.mem_append.2 (.inl h1))
  · obtain ⟨s, h1, h2⟩ := h.J u hu x hx hxo
    exact ⟨s, List.mem_append.2 (.inl h1), h2⟩
theorem DfsI.pop {n : Nat} {E : Int → Int → Prop} {out st : List Int} {a : Int} (h : DfsI n E out (st ++ [a])) (ha : ∀ v, E a v → v ∈ out ∨ v ∈ st ++ [a]) : DfsI n E (out ++ [a]) st := by
  have hnd := h.nd
  rw [List.nodup_append] at hnd
  obtain ⟨hn1, hn2, hn3⟩ := hnd
  rw [List.nodup_append] at hn2
  obtain ⟨hn4, _, hn5⟩ := hn2
  have hao : a ∉ out := fun hm => hn3 a hm a (by simp) rfl
  have hast : a ∉ st := fun hm => hn5 a hm a (by simp) rfl
  have hcl : ∀ u ∈ out ++ [a], ∀ v, E u v → v ∈ out ++ [a] ∨ v ∈ st := fun u hu v hv => by
    have : v ∈ out ∨ v ∈ st ++ [a] := by
      rcases List.mem_append.1 hu with hu | hu
      · exact h.cl u hu v hv
      · rw [List.mem_singleton.1 hu] at hv; exact ha v hv
    rcases this with h1 | h1
    · exact .inl (List.mem_append.2 (.inl h1))
    · rcases List.mem_append.1 h1 with h1 | h1
      · exact .inr h1
      · exact .inl (List.mem_append.2 (.inr h1))
  have hfst : ∀ u ∈ out ++ [a], ∀ x, Rch E u x → x ∉ out ++ [a] → ∃ y ∈ st, Rch E u y ∧ Rch E y x := fun u hu x hx hxo => by
    obtain ⟨z, y, h1, h2, h3, h4, h5⟩ := first_out hx hu hxo
    rcases hcl z h1 y h2 with h6 | h6
    · exact absurd h6 h3
    · exact ⟨y, h6, h4, h5⟩
  have hya : ∀ y ∈ st, Rch E y a := fun y hy => chainE_last st h.path (List.mem_append.2 (.inl hy))
  refine ⟨?_, fun x hx => ?_, chainE_pop st h.path, hcl, fun u hu x hx hxo => ?_, fun i r hi u hu => ?_⟩
  · rw [List.append_assoc, List.nodup_append]
    refine ⟨hn1, ?_, fun x hx y hy => hn3 x hx y (by simp at hy ⊢; exact hy.symm)⟩
    rw [List.nodup_append]
    refine ⟨by simp, hn4, fun x hx y hy e => ?_⟩
    rw [List.mem_singleton.1 hx] at e
    exact hast (e ▸ hy)
  · refine h.rng x ?_
    simp only [List.mem_append, List.mem_singleton] at hx ⊢
    rcases hx with (h1 | h1) | h1
    · exact .inl h1
    · exact .inr (.inr h1)
    · exact .inr (.inl h1)
  · obtain ⟨y, h1, h2, h3⟩ := hfst u hu x hx hxo
    rcases List.mem_append.1 hu with hu | hu
    · have hyo : y ∉ out := fun hm => hn3 y hm y (List.mem_append.2 (.inl h1)) rfl
      obtain ⟨s, h4, h5, h6, h7⟩ := h.J u hu y h2 hyo
      rcases List.mem_append.1 h4 with h4 | h4
      · exact ⟨s, h4, h5, h6, h7.trans h3⟩
      · rw [List.mem_singleton.1 h4] at h5 h6
        exact ⟨y, h1, h2, (hya y h1).trans h6, h3⟩
    · rw [List.mem_singleton.1 hu] at h2 ⊢
      exact ⟨y, h1, h2, hya y h1, h3⟩
  · rcases Nat.lt_or_ge i out.length with hil | hil
    · rw [List.getElem?_append_left hil] at hi
      rcases h.K i r hi u hu with h1 | ⟨u', h1, h2, h3⟩
      · exact .inl h1
      · refine .inr ⟨u', h1, h2, ?_⟩
        rcases h3 with h3 | ⟨j, h3, h4⟩
        · by_cases hua : u' = a
          · exact .inr ⟨out.length, hil, by rw [hua]; simp⟩
          · exact .inl fun hm => by
              rcases List.mem_append.1 hm with hm | hm
              · exact h3 hm
              · exact hua (List.mem_singleton.1 hm)
        · exact .inr ⟨j, h3, by rw [List.getElem?_append_left (List.getElem?_eq_some_iff.1 h4).1]; exact h4⟩
    · have hr : r = a := by
        have h1 := (List.getElem?_eq_some_iff.1 hi).1
        simp at h1
        rw [List.getElem?_append_right hil, show i - out.length = 0 by omega] at hi
        simpa using hi.symm
      subst hr
      by_cases hau : Rch E r u
      · exact .inl hau
      · right
        by_cases huo : u ∈ out
        · obtain ⟨s, h4, h5, h6, h7⟩ := h.J u huo r hu hao
          rcases List.mem_append.1 h4 with h4 | h4
          · refine ⟨s, h5, h6, .inl fun hm => ?_⟩
            rcases List.mem_append.1 hm with hm | hm
            · exact hn3 s hm s (List.mem_append.2 (.inl h4)) rfl
            · rw [List.mem_singleton.1 hm] at h4; exact hast h4
          · rw [List.mem_singleton.1 h4] at h6
            exact absurd h6 hau
        · refine ⟨u, .refl, .refl, .inl fun hm => ?_⟩
          rcases List.mem_append.1 hm with hm | hm
          · exact huo hm
          · rw [List.mem_singleton.1 hm] at hau
            exact hau .refl
/-- What a search into the depth leaves behind. -/
structure EndsP (n : Nat) (E : Int → Int → Prop) (es : List Int) : Prop where
  nd : es.Nodup
  mem : ∀ x : Int, x ∈ es ↔ 0 ≤ x ∧ x < n
  K : ∀ (i : Nat) (r : Int), es[i]? = some r → ∀ u : Int, 0 ≤ u ∧ u < n → Rch E u r → Rch E r u ∨ ∃ u', Rch E u u' ∧ Rch E u' u ∧ ∃ j, i < j ∧ es[j]? = some u'
theorem DfsI.fin {n : Nat} {E : Int → Int → Prop} (hE : ∀ x y, E x y → 0 ≤ y ∧ y < n) {out : List Int} (h : DfsI n E out []) (hall : ∀ x : Int, 0 ≤ x ∧ x < n → x ∈ out) : EndsP n E out := by
  refine ⟨by simpa using h.nd, fun x => ⟨fun hx => h.rng x (by simpa using hx), hall x⟩, fun i r hi u hur hu => ?_⟩
  rcases h.K i r hi u hu with h1 | ⟨u', h1, h2, h3⟩
  · exact .inl h1
  · refine .inr ⟨u', h1, h2, ?_⟩
    rcases h3 with h3 | h3
    · exfalso
      apply h3
      apply hall
      cases h1 with
      | refl => exact hur
      | tail _ hr => exact hE _ _ hr
    · exact h3
/-- Of one part: ways there and back. -/
def sccP (E : Int → Int → Prop) (x y : Int) : Prop := Rch E x y ∧ Rch E y x
theorem sccP.refl {E : Int → Int → Prop} (x : Int) : sccP E x x := ⟨.refl, .refl⟩
theorem sccP.symm {E : Int → Int → Prop} {x y : Int} (h : sccP E x y) : sccP E y x := ⟨h.2, h.1⟩
theorem sccP.trans {E : Int → Int → Prop} {x y z : Int} (h : sccP E x y) (h' : sccP E y z) : sccP E x z := ⟨h.1.trans h'.1, h'.2.trans h.2⟩
/-- What is marked: the parts of all from a place on. -/
def SeenP (E : Int → Int → Prop) (es : List Int) (i : Nat) (x : Int) : Prop := ∃ (j : Nat) (y : Int), i ≤ j ∧ es[j]? = some y ∧ sccP E x y
/-- Going back from one over what is not marked gives its part. -/
theorem back_part {n : Nat} {E : Int → Int → Prop} (hE : ∀ x y, E x y → (0 ≤ x ∧ x < n) ∧ 0 ≤ y ∧ y < n) {es : List Int} (h : EndsP n E es) {i : Nat} {r : Int} (hi : es[i]? = some r) (hr : ¬ SeenP E es (i + 1) r) (x : Int) :
    Rch (fun a b => E b a ∧ ¬ SeenP E es (i + 1) b) r x ↔ sccP E r x := by
  have hrr := (h.mem r).1 (List.mem_of_getElem? hi)
  constructor
  · intro hx
    have key : (0 ≤ x ∧ x < n) ∧ ¬ SeenP E es (i + 1) x ∧ Rch E x r := hx.closed (S := fun x : Int => (0 ≤ x ∧ x < n) ∧ ¬ SeenP E es (i + 1) x ∧ Rch E x r) (fun a b ⟨h1, h2, h3⟩ ⟨h4, h5⟩ => ⟨(hE _ _ h4).1, h5, .head h4 h3⟩) ⟨hrr, hr, .refl⟩
    refine ⟨?_, key.2.2⟩
    rcases h.K i r hi x key.1 key.2.2 with h1 | ⟨u', h1, h2, j, h3, h4⟩
    · exact h1
    · exact absurd ⟨j, u', h3, h4, h1, h2⟩ key.2.1
  · rintro ⟨h1, h2⟩
    have hns : ∀ y, sccP E r y → ¬ SeenP E es (i + 1) y := fun y hy ⟨j, z, h3, h4, h5⟩ => hr ⟨j, z, h3, h4, hy.trans h5⟩
    have key : ∀ {a b : Int}, Rch E a b → Rch E r a → Rch E b r → Rch (fun a b => E b a ∧ ¬ SeenP E es (i + 1) b) b a := fun {a b} hab => by
      induction hab with
      | refl => intro _ _; exact .refl
      | @tail b c hab hbc ih =>
        intro h3 h4
        have h5 : Rch E b r := .head hbc h4
        exact .head ⟨hbc, hns b ⟨h3.trans hab, h5⟩⟩ (ih h3 h5)
    exact key h2 h1 .refl
theorem seen_skip {E : Int → Int → Prop} {es : List Int} {i : Nat} {r : Int} (hi : es[i]? = some r) (hr : SeenP E es (i + 1) r) (x : Int) : SeenP E es i x ↔ SeenP E es (i + 1) x := by
  constructor
  · rintro ⟨j, y, h1, h2, h3⟩
    rcases Nat.eq_or_lt_of_le h1 with h4 | h4
    · subst h4
      rw [hi] at h2
      cases h2
      obtain ⟨k, z, h5, h6, h7⟩ := hr
      exact ⟨k, z, h5, h6, h3.trans h7⟩
    · exact ⟨j, y, h4, h2, h3⟩
  · rintro ⟨j, y, h1, h2, h3⟩
    exact ⟨j, y, by omega, h2, h3⟩
theorem seen_next {E : Int → Int → Prop} {es : List Int} {i : Nat} {r : Int} (hi : es[i]? = some r) (x : Int) : SeenP E es i x ↔ SeenP E es (i + 1) x ∨ sccP E r x := by
  constructor
  · rintro ⟨j, y, h1, h2, h3⟩
    rcases Nat.eq_or_lt_of_le h1 with h4 | h4
    · subst h4
      rw [hi] at h2
      cases h2
      exact .inr h3.symm
    · exact .inl ⟨j, y, h4, h2, h3⟩
  · rintro (⟨j, y, h1, h2, h3⟩ | h)
    · exact ⟨j, y, by omega, h2, h3⟩
    · exact ⟨i, r, Nat.le_refl _, hi, h.symm⟩
theorem seen_all {n : Nat} {E : Int → Int → Prop} {es : List Int} (h : EndsP n E es) {x : Int} (hx : 0 ≤ x ∧ x < n) : SeenP E es 0 x := by
  obtain ⟨j, hj⟩ := List.mem_iff_getElem?.1 ((h.mem x).2 hx)
  exact ⟨j, x, Nat.zero_le _, hj, .refl x⟩
end Go.Ab
namespace Go.Ab
open Go.Proofs
/-- One place goes on to another one; both are there. -/
def rowE (rows : List (List Int)) (x y : Int) : Prop := 0 ≤ x ∧ rowR rows x y
/-- The search's own state: what is done, the stack, the marks, how far each one is. -/
structure EndI (n : Nat) (rows : List (List Int)) (out stack : List Int) (seen : List Bool) (at_ : List Int) : Prop where
  dfs : DfsI n (rowE rows) out stack
  sl : seen.length = n
  al : at_.length = n
  seen : ∀ x : Int, 0 ≤ x ∧ x < n → (seen.getD x.toNat false = true ↔ x ∈ out ++ stack)
  arng : ∀ x : Int, 0 ≤ x ∧ x < n → 0 ≤ at_.getD x.toNat 0 ∧ at_.getD x.toNat 0 ≤ (rows.getD x.toNat []).length
  cur : ∀ x : Int, 0 ≤ x ∧ x < n → ∀ (i : Nat) (y : Int), (i : Int) < at_.getD x.toNat 0 → (rows.getD x.toNat [])[i]? = some y → y ∈ out ++ stack
theorem EndI.start (n : Nat) (rows : List (List Int)) : EndI n rows [] [] (List.replicate n false) (List.replicate n 0) := by
  have h0 : ∀ x : Int, (List.replicate n (0 : Int)).getD x.toNat 0 = 0 := fun x => by
    rw [List.getD_eq_getElem?_getD, List.getElem?_replicate]; split <;> rfl
  refine ⟨DfsI.start n _, by simp, by simp, fun x hx => ?_, fun x hx => by rw [h0]; omega, fun x hx i y hi => by rw [h0] at hi; omega⟩
  rw [List.getD_eq_getElem?_getD, List.getElem?_replicate]
  split <;> simp
theorem getD_set {α : Type} {l : List α} {i j : Nat} {a d : α} (hi : i < l.length) : (l.set i a).getD j d = if i = j then a else l.getD j d := by
  simp only [List.getD_eq_getElem?_getD, List.getElem?_set]
  split
  · rename_i h
    first
      | rfl
      | (rw [if_pos hi]; rfl)
  · rfl
/-- A new one on the stack. -/
theorem EndI.push {n : Nat} {rows : List (List Int)} {out stack : List Int} {seen : List Bool} {at_ : List Int} (h : EndI n rows out stack seen at_) {b : Int} (hb : 0 ≤ b ∧ b < n) (hn : seen.getD b.toNat false = false) (hp : chainE (rowE rows) (stack ++ [b])) : EndI n rows out (stack ++ [b]) (seen.set b.toNat true) at_ := by
  have hno : b ∉ out ++ stack := fun hm => by rw [(h.seen b hb).2 hm] at hn; cases hn
  refine ⟨h.dfs.push hb hno hp, by simpa using h.sl, h.al, fun x hx => ?_, h.arng, fun x hx i y hi hy => ?_⟩
  · rw [getD_set (by rw [h.sl]; omega), ← List.append_assoc, List.mem_append, List.mem_singleton]
    split
    · have : x = b := by omega
      simp [this]
    · have : x ≠ b := by omega
      rw [h.seen x hx]
      simp [this]
  · rw [← List.append_assoc]
    exact List.mem_append.2 (.inl (h.cur x hx i y hi hy))
/-- The last one of the stack is done. -/
theorem EndI.pop {n : Nat} {rows : List (List Int)} {out st : List Int} {a : Int} {seen : List Bool} {at_ : List Int} (h : EndI n rows out (st ++ [a]) seen at_) (ha : at_.getD a.toNat 0 = (rows.getD a.toNat []).length) : EndI n rows (out ++ [a]) st seen at_ := by
  have hr := h.dfs.rng a (by simp)
  have hsw : ∀ x : Int, x ∈ out ++ [a] ++ st ↔ x ∈ out ++ (st ++ [a]) := fun x => by
    simp only [List.mem_append, List.mem_singleton]
    constructor
    · rintro ((h1 | h1) | h1)
      · exact .inl h1
      · exact .inr (.inr h1)
      · exact .inr (.inl h1)
    · rintro (h1 | h1 | h1)
      · exact .inl (.inl h1)
      · exact .inr h1
      · exact .inl (.inr h1)
  refine ⟨h.dfs.pop fun v hv => ?_, h.sl, h.al, fun x hx => by rw [h.seen x hx, hsw], h.arng, fun x hx i y hi hy => (hsw y).2 (h.cur x hx i y hi hy)⟩
  obtain ⟨i, hi⟩ := List.mem_iff_getElem?.1 hv.2
  have := h.cur a hr i v (by rw [ha]; have := (List.getElem?_eq_some_iff.1 hi).1; omega) hi
  exact List.mem_append.1 this
/-- One more edge of the last one, to one that is seen. -/
theorem EndI.step {n : Nat} {rows : List (List Int)} {out stack : List Int} {seen : List Bool} {at_ : List Int} (h : EndI n rows out stack seen at_) {a b : Int} (ha : 0 ≤ a ∧ a < n) {k : Nat} (hk : at_.getD a.toNat 0 = k) (hb : (rows.getD a.toNat [])[k]? = some b) (hs : b ∈ out ++ stack) : EndI n rows out stack seen (at_.set a.toNat ((k : Int) + 1)) := by
  have hlt : a.toNat < at_.length := by rw [h.al]; omega
  refine ⟨h.dfs, h.sl, by simpa using h.al, h.seen, fun x hx => ?_, fun x hx i y hi hy => ?_⟩
  · rw [getD_set hlt]
    split
    · rename_i he
      have := (List.getElem?_eq_some_iff.1 hb).1
      rw [← he]
      omega
    · exact h.arng x hx
  · rw [getD_set hlt] at hi
    split at hi
    · rename_i he
      rw [← he] at hy
      rcases Nat.lt_or_ge i k with hik | hik
      · exact h.cur a ha i y (by omega) hy
      · have : i = k := by omega
        subst this
        rw [hb] at hy
        cases hy
        exact hs
    · exact h.cur x hx i y hi hy
def minF (m : Int) (l : List Int) : Int := l.foldl (fun m x => if x < m then x else m) m
def minI : List Int → Int
  | [] => 0
  | a :: r => minF a r
theorem minF_spec : ∀ (l : List Int) (m : Int), minF m l ∈ m :: l ∧ ∀ x ∈ m :: l, minF m l ≤ x
  | [], m => ⟨by simp [minF], by simp [minF]⟩
  | a :: r, m => by
    obtain ⟨h1, h2⟩ := minF_spec r (if a < m then a else m)
    have e : minF m (a :: r) = minF (if a < m then a else m) r := rfl
    have h3 := h2 _ List.mem_cons_self
    rw [e]
    generalize minF (if a < m then a else m) r = z at h1 h2 h3 ⊢
    refine ⟨?_, fun x hx => ?_⟩
    · rcases List.mem_cons.1 h1 with h | h
      · rw [h]
        split <;> simp
      · exact List.mem_cons_of_mem _ (List.mem_cons_of_mem _ h)
    · rcases List.mem_cons.1 hx with rfl | hx
      · split at h3 <;> omega
      · rcases List.mem_cons.1 hx with rfl | hx
        · split at h3 <;> omega
        · exact h2 x (List.mem_cons_of_mem _ hx)
theorem minI_spec {l : List Int} (h : 0 < l.length) : minI l ∈ l ∧ ∀ x ∈ l, minI l ≤ x := by
  cases l with
  | nil => simp at h
  | cons a r => exact minF_spec r a
theorem OpK.min2 {P : Program} {N : Nat} {s : St} {o : Oper} {K : St → Prop} {x y : Operand} {ts : Array TypeId} (hop : o.op = .call { callee := .builtin .min, args := #[x, y], argTypes := ts }) {m n : Int} (hx : evalO s.sl x = .p (.int .i64 m)) (hy : evalO s.sl y = .p (.int .i64 n))
    (h : setD N s.sl o.dst (.p (.int .i64 (if n < m then n else m))) fun sl => K ⟨sl, s.H⟩) : OpK P N s o K := by
  refine ⟨fun σ β a w hr Q => ?_⟩
  have h1 := evalO_rep hr.slots x
  have h2 := evalO_rep hr.slots y
  rw [hx] at h1
  rw [hy] at h2
  have e1 := h1.int
  have e2 := h2.int
  have hrun : (execOp a.eval o).run P w = .ok (.value (.int .i64 (if n < m then n else m))) w := by
    simp [execOp, hop, resolve, invoke, builtin, e1, e2, Builtin.min_, Builtin.min2]
  obtain ⟨sl, hK, hr2⟩ := hr.setD (.p (.int .i64 (if n < m then n else m))) h
  exact wp_value hrun ⟨σ, β, _, hK, hr2, Later.refl _ _ _ _⟩
set_option maxRecDepth 100000 in
theorem slices_Min_int_int_ (l : List Int) (hl : 0 < l.length) : SpecP Tryz.prog 200 [eInts l] (fun r => r = .int .i64 (minI l)) := by
  refine SpecP.body I_slices_Min_int_int_ tabOK Tryz.func200 rfl Tryz.call200 (by show 1 ≤ _; decide) ?_
  conv => whnf
  have hlm : (l.map (AV.int .i64)).length = l.length := List.length_map _
  repeat' (first | (intro (_ : _ ≤ 9223372036854775807); conv => whnf) | (refine Br.dec (fun _ => ?_) (fun _ => ?_) <;> first | (exfalso; omega) | conv => whnf))
  refine IdxK.at (k := 0) (e := .int .i64 l[0]) rfl (by simp [hl]) rfl ?_
  conv => whnf
  skip
  refine LoopK.inv tabOK (fun x : Nat × Int => ⟨[(0, .p (eInts l)), (3, .p (.int .i64 x.2)), (4, .p (.int .i64 x.1))], []⟩) (fun x => 1 ≤ x.1 ∧ x.1 ≤ l.length ∧ minI (x.2 :: l.drop x.1) = minI l) (fun x => l.length - x.1) (1, l[0]) (Le.of_eq rfl) ⟨Nat.le_refl _, hl, by
    cases l with
    | nil => simp at hl
    | cons a r => rfl⟩ ?_
  rintro ⟨j, m⟩ ⟨h1, h2, h3⟩
  simp only at h1 h2 h3 ⊢
  rcases Nat.lt_or_ge j l.length with hj | hj
  · rw [drop_cons hj] at h3
    conv => whnf
    repeat' (first | ((first | (intro (_ : _ ≤ 9223372036854775807)) | (refine IdxK.map (by omega) (fun _ => rfl) ?_) | (refine Wr.i64 (by omega) (by omega) ?_) | (refine OpK.min2 rfl rfl rfl ?_)); conv => whnf) | (refine Br.dec (fun _ => ?_) (fun _ => ?_) <;> first | (exfalso; omega) | conv => whnf))
    exact ⟨(j + 1, if l[j] < m then l[j] else m), ⟨by simp only; omega, hj, h3⟩, by simp only; omega, Le.of_eq rfl⟩
  · rw [List.drop_eq_nil_of_le hj] at h3
    conv => whnf
    repeat' (first | (intro (_ : _ ≤ 9223372036854775807); conv => whnf) | (refine Br.dec (fun _ => ?_) (fun _ => ?_) <;> first | (exfalso; omega) | conv => whnf))
    exact RetK.int h3
/-- Rows made shorter. -/
inductive CutH : Heap → Heap → Prop
  | nil : CutH [] []
  | same {c : Nat × Chunk} {H H' : Heap} (h : CutH H H') : CutH (c :: H) (c :: H')
  | cut {k : Nat} {e : TypeId} {sz : Nat} {es es' : List AV} {H H' : Heap} (hp : es' <+: es) (h : CutH H H') : CutH ((k, .own e sz es) :: H) ((k, .own e sz es') :: H')
theorem CutH.get {H H' : Heap} (h : CutH H H') : H'.map (·.1) = H.map (·.1) ∧ ∀ j c', (j, c') ∈ H' → (j, c') ∈ H ∨ ∃ e sz es es', (j, Chunk.own e sz es) ∈ H ∧ c' = .own e sz es' ∧ es' <+: es := by
  induction h with
  | nil => exact ⟨rfl, by simp⟩
  | same h ih =>
    refine ⟨by simp [ih.1], fun j c' hj => ?_⟩
    rcases List.mem_cons.1 hj with rfl | hj
    · exact .inl List.mem_cons_self
    · rcases ih.2 j c' hj with h1 | ⟨e, sz, es, es', h1, h2⟩
      · exact .inl (List.mem_cons_of_mem _ h1)
      · exact .inr ⟨e, sz, es, es', List.mem_cons_of_mem _ h1, h2⟩
  | @cut k e sz es es' H H' hp h ih =>
    refine ⟨by simp [ih.1], fun j c' hj => ?_⟩
    rcases List.mem_cons.1 hj with hj | hj
    · cases hj
      exact .inr ⟨e, sz, es, es', List.mem_cons_self, rfl, hp⟩
    · rcases ih.2 j c' hj with h1 | ⟨e, sz, es, es', h1, h2⟩
      · exact .inl (List.mem_cons_of_mem _ h1)
      · exact .inr ⟨e, sz, es, es', List.mem_cons_of_mem _ h1, h2⟩
theorem Le.cut {N : Nat} {sl : List (Nat × LV)} {H H' : Heap} (h : CutH H H') : Le N ⟨sl, H⟩ ⟨sl, H'⟩ := fun σ β a w hr => by
  obtain ⟨hk, hc⟩ := h.get
  refine ⟨σ, β, ⟨hr.size, hr.defers, hr.slots, ⟨hr.heap.mem, fun j c' hj => ?_, by show (H'.map (·.1)).Nodup; rw [hk]; exact hr.heap.nodup, fun j hj => hr.heap.apart j (by rw [← hk]; exact hj), fun j hj j' hj' => hr.heap.inj j (by rw [← hk]; exact hj) j' (by rw [← hk]; exact hj')⟩⟩, Mem.le_refl σ, Frm.refl _ w, fun b h0 h1 => absurd h0 h1, fun b ⟨j, hj, r⟩ => .inl ⟨j, by rw [← hk]; exact hj, r⟩, fun _ _ _ => rfl⟩
  rcases hc j c' hj with h1 | ⟨e, sz, es, es', h1, rfl, h2⟩
  · exact hr.heap.chunks j c' h1
  · rcases hr.heap.chunks j _ h1 with ⟨h3, h4⟩ | ⟨i, vs, h3, h4, h5, h6, h7, h8, h9⟩
    · refine .inl ⟨h3, ?_⟩
      rw [h4] at h2
      exact List.prefix_nil.1 h2
    · exact .inr ⟨i, vs, h3, h4, h5, h6, Nat.le_trans h2.length_le h7, h8, fun m x hx => h9 m x (by
        obtain ⟨t, rfl⟩ := h2
        rw [List.getElem?_append_left (List.getElem?_eq_some_iff.1 hx).1]
        exact hx)⟩
theorem sum_lt {α : Type} {f g : α → Nat} : ∀ {l : List α}, (∀ x ∈ l, f x ≤ g x) → (∃ x ∈ l, f x < g x) → (l.map f).sum < (l.map g).sum
  | [], _, h => by obtain ⟨x, hx, _⟩ := h; cases hx
  | a :: r, h1, h2 => by
    have hle : ∀ {l : List α}, (∀ x ∈ l, f x ≤ g x) → (l.map f).sum ≤ (l.map g).sum := fun {l} h => by
      induction l with
      | nil => simp
      | cons b r ih =>
        simp only [List.map_cons, List.sum_cons]
        have := ih fun x hx => h x (List.mem_cons_of_mem _ hx)
        have := h b List.mem_cons_self
        omega
    simp only [List.map_cons, List.sum_cons]
    have h3 := h1 a List.mem_cons_self
    have h4 := hle fun x hx => h1 x (List.mem_cons_of_mem _ hx)
    obtain ⟨x, hx, h5⟩ := h2
    rcases List.mem_cons.1 hx with rfl | hx
    · omega
    · have := sum_lt (fun y hy => h1 y (List.mem_cons_of_mem _ hy)) ⟨x, hx, h5⟩
      omega
/-- How many edges are not gone over yet. -/
def muE (rows : List (List Int)) (at_ : List Int) (n : Nat) : Nat := ((List.range n).map fun i => (rows.getD i []).length - (at_.getD i 0).toNat).sum
theorem muE_step {n : Nat} {rows : List (List Int)} {at_ : List Int} {a : Nat} (ha : a < n) (hl : at_.length = n) {k : Nat} (hk : at_.getD a 0 = k) (hlt : k < (rows.getD a []).length) : muE rows (at_.set a ((k : Int) + 1)) n < muE rows at_ n := by
  unfold muE
  refine sum_lt (fun i _ => ?_) ⟨a, List.mem_range.2 ha, ?_⟩
  · rw [getD_set (by omega)]
    split
    · rename_i h
      rw [← h, hk]
      omega
    · exact Nat.le_refl _
  · rw [getD_set (by omega), if_pos rfl, hk]
    omega
theorem rng_len {n : Nat} {l : List Int} (h : l.Nodup) (hr : ∀ x ∈ l, 0 ≤ x ∧ x < n) : l.length ≤ n := by
  have := nodup_len (m := (List.range n).map fun (k : Nat) => (k : Int)) h fun x hx => List.mem_map.2 ⟨x.toNat, List.mem_range.2 (by have := hr x hx; omega), by have := hr x hx; omega⟩
  simpa using this
theorem bvAt {l : List Bool} {i : Nat} (h : i < l.length) : (l.map bv)[i]? = some (bv (l.getD i false)) := by
  rw [List.getElem?_map, List.getElem?_eq_getElem h, List.getD_eq_getElem?_getD, List.getElem?_eq_getElem h]
  rfl
theorem intAt {l : List Int} {i : Nat} (h : i < l.length) : (l.map (AV.int .i64))[i]? = some (.int .i64 (l.getD i 0)) := by
  rw [List.getElem?_map, List.getElem?_eq_getElem h, List.getD_eq_getElem?_getD, List.getElem?_eq_getElem h]
  rfl
def endsP' (n : Nat) (rows : List (List Int)) (r : AV) : Prop := ∃ es, r = eInts es ∧ EndsP n (rowE rows) es
set_option maxHeartbeats 4000000 in
set_option maxRecDepth 100000 in
theorem graph_Graph_ends (n : Nat) (hn : n ≤ 5000) (g : List (List Int) × List (List Int)) (hg : rowsIn n g.1) : SpecP Tryz.prog 199 [eGraph g] (fun r => endsP' n g.1 r) := by
  refine SpecP.body I_graph_Graph_ends tabOK Tryz.func199 rfl Tryz.call199 (by show 1 ≤ _; decide) ?_
  conv => whnf
  have hl : ((avI g.1).map AV.sl).length = n := by simp [avI, hg.1]
  repeat' ((first | (intro (_ : _ ≤ 9223372036854775807)) | (refine And.intro ⟨rfl, rfl, by decide⟩ ?_) | (refine MkK.mk n (by rw [hl]) (by show 1 * n ≤ 140737488355328; omega) (by unfold maxLen; omega) ?_) | (refine MkK.mk n (by rw [hl]) (by show 8 * n ≤ 140737488355328; omega) (by unfold maxLen; omega) ?_)); conv => whnf)
  refine LoopK.inv tabOK (fun x : Nat × List Int × List Bool × List Int => ⟨[(0, .p (eGraph g)), (3, .hd 2 0 x.2.1.length), (4, .hd 3 0 0), (5, .hd 0 0 n), (6, .hd 1 0 n), (26, .p (.int .i64 n)), (27, .p (.int .i64 x.1))], [(0, .own 4 1 (x.2.2.1.map bv)), (1, .own 3 1 (x.2.2.2.map (.int .i64))), (2, .own 3 1 (x.2.1.map (.int .i64))), (3, .own 3 1 [])]⟩)
    (fun x => x.1 ≤ n ∧ EndI n g.1 x.2.1 [] x.2.2.1 x.2.2.2 ∧ ∀ y : Int, 0 ≤ y ∧ y < x.1 → y ∈ x.2.1) (fun x => n - x.1) (0, [], List.replicate n false, List.replicate n 0)
    (Le.mk [(2, .own 3 1 []), (3, .own 3 1 [])] (by simp [Chunk.new0]; exact ⟨rfl, rfl⟩) (by simp) (by simp) (.cons (.refl _) (.cons (.nil List.mem_cons_self) (.cons (.nil (List.mem_cons_of_mem _ List.mem_cons_self)) (.cons (.refl _) (.cons (.refl _) (.cons (.of_eq (by rw [hl]; rfl)) (.cons (.refl _) .nil)))))))
      (.cons rfl (.of_eq (by rw [List.map_replicate]; rfl)) (.cons rfl (.of_eq (by rw [List.map_replicate]; rfl)) (.new List.mem_cons_self (.new (List.mem_cons_of_mem _ List.mem_cons_self) .nil)))))
    ⟨Nat.zero_le _, EndI.start n g.1, fun y hy => by omega⟩ ?_
  rintro ⟨r, out, seen, at_⟩ ⟨h1, h2, h3⟩
  simp only at h1 h2 h3 ⊢
  have hsl := h2.sl
  have hal := h2.al
  rcases Nat.lt_or_ge r n with hr | hr
  rotate_left 1
  · conv => whnf
    repeat' (refine Br.dec (fun _ => ?_) (fun _ => ?_) <;> first | (exfalso; omega) | conv => whnf)
    have hall : ∀ x : Int, 0 ≤ x ∧ x < n → x ∈ out := fun x hx => h3 x (by omega)
    exact ⟨_, .hd rfl (by simp), out, rfl, h2.dfs.fin (fun x y hxy => row_in hg hxy.2) hall⟩
  have e1 := bvAt (l := seen) (i := r) (by omega)
  have hstart : ∃ st s2, EndI n g.1 out st s2 at_ ∧ (r : Int) ∈ out ++ st ∧ ((seen.getD r false = true ∧ st = [] ∧ s2 = seen) ∨ (seen.getD r false = false ∧ st = [(r : Int)] ∧ s2 = seen.set r true)) := by
    cases hq : seen.getD r false with
    | true => exact ⟨[], seen, h2, (h2.seen r (by omega)).1 (by simpa using hq), .inl ⟨rfl, rfl, rfl⟩⟩
    | false => exact ⟨[(r : Int)], seen.set r true, h2.push (stack := []) (b := r) (by omega) (by simpa using hq) trivial, by simp, .inr ⟨rfl, rfl, rfl⟩⟩
  obtain ⟨st0, seen0, h4, h5, h6⟩ := hstart
  rcases h6 with ⟨hq, hst, hs0⟩ | ⟨hq, hst, hs0⟩
  all_goals
    rw [hq] at e1
    conv => whnf
    repeat' (first | ((first | (refine And.intro rfl ?_) | (refine And.intro ⟨by decide, by decide⟩ ?_) | (refine BsK.pure (fun x hx => by rcases List.mem_singleton.1 hx with rfl; rfl) rfl ?_) | (refine IdxL.mk r rfl (by omega) ?_) | (refine LdOwn.mk r 0 .tt (by omega) e1 ?_) | (refine LdOwn.mk r 0 .ff (by omega) e1 ?_) | (refine StOwn.mk r 0 .ff .tt (by omega) e1 (Nat.le_refl 1) rfl ?_) | (refine AppK.int1 rfl (by simp) ?_)); conv => whnf) | (refine Br.dec (fun _ => ?_) (fun _ => ?_) <;> first | (exfalso; omega) | conv => whnf))
    refine LoopK.inv tabOK (fun x : List Int × List Int × List Bool × List Int => ⟨[(0, .p (eGraph g)), (3, .hd 2 0 x.1.length), (4, .hd 3 0 x.2.1.length), (5, .hd 0 0 n), (6, .hd 1 0 n), (26, .p (.int .i64 n)), (27, .p (.int .i64 r))], [(0, .own 4 1 (x.2.2.1.map bv)), (1, .own 3 1 (x.2.2.2.map (.int .i64))), (2, .own 3 1 (x.1.map (.int .i64))), (3, .own 3 1 (x.2.1.map (.int .i64)))]⟩)
      (fun x => EndI n g.1 x.1 x.2.1 x.2.2.1 x.2.2.2 ∧ (r : Int) ∈ x.1 ++ x.2.1 ∧ ∀ y : Int, 0 ≤ y ∧ y < r → y ∈ x.1) (fun x => muE g.1 x.2.2.2 n + (n - x.1.length)) (out, st0, seen0, at_)
      (Le.mk [] (by simp) (by simp) (by simp) (.cons (.refl _) (.cons (.refl _) (.cons (.of_eq (by first | (rw [hst]; done) | (rw [hst]; rfl))) (.cons (.refl _) (.cons (.refl _) (.cons (.refl _) (.cons (.refl _) .nil)))))))
        (.cons rfl (.of_eq (by rw [hs0]; first | done | rfl | (rw [List.map_set]; rfl))) (.cons rfl (.refl _) (.cons rfl (.refl _) (.cons rfl (.of_eq (by rw [hst]; rfl)) .nil)))))
      ⟨h4, h5, h3⟩ ?_
    clear h4 h5 hst hs0 e1 hq hsl hal h2 h3
    rintro ⟨o, stk, s, t⟩ ⟨h2, h3, h4⟩
    simp only at h2 h3 h4 ⊢
    have hsl := h2.sl
    have hal := h2.al
    have hol : o.length ≤ n := rng_len (by have := h2.dfs.nd; rw [List.nodup_append] at this; exact this.1) fun x hx => h2.dfs.rng x (List.mem_append.2 (.inl hx))
    rcases List.eq_nil_or_concat stk with rfl | ⟨st, a, rfl⟩
    · have hz : (([] : List Int).length) = 0 := rfl
      conv => whnf
      repeat' (first | ((first | (intro (_ : _ ≤ 9223372036854775807)) | (refine Wr.i64 (by omega) (by omega) ?_)); conv => whnf) | (refine Br.dec (fun _ => ?_) (fun _ => ?_) <;> first | (exfalso; omega) | conv => whnf))
      exact ⟨(r + 1, o, s, t), ⟨hr, h2, fun y hy => by
        rcases Int.lt_or_le y r with hyr | hyr
        · exact h4 y ⟨hy.1, hyr⟩
        · have : y = r := by simp only at hy; omega
          rw [this]
          simpa using h3⟩, by simp only; omega, Le.of_eq rfl⟩
    · rw [List.concat_eq_append] at h2 h3 ⊢
      have ha := h2.dfs.rng a (by simp)
      have hstl : (st ++ [a]).length = st.length + 1 := by simp
      obtain ⟨hk0, hk1⟩ := h2.arng a ha
      have e2 := intAt (l := t) (i := a.toNat) (by omega)
      have e3 : ((st ++ [a]).map (AV.int .i64))[st.length]? = some (.int .i64 a) := by simp
      have hrow : ((avI g.1).map AV.sl)[a.toNat]? = some (.sl ((g.1.getD a.toNat []).map (.int .i64))) := by
        have : a.toNat < g.1.length := by rw [hg.1]; omega
        rw [List.getD_eq_getElem?_getD, List.getElem?_eq_getElem this]
        simp [avI, this]
      obtain ⟨k, hk⟩ : ∃ k : Nat, t.getD a.toNat 0 = k := ⟨(t.getD a.toNat 0).toNat, by omega⟩
      rw [hk] at e2 hk1
      have hrl : ((g.1.getD a.toNat []).map (AV.int .i64)).length = (g.1.getD a.toNat []).length := List.length_map _
      have hnd := h2.dfs.nd
      rcases Nat.lt_or_ge k (g.1.getD a.toNat []).length with hkl | hkl
      · obtain ⟨b, hb⟩ : ∃ b, (g.1.getD a.toNat [])[k]? = some b := ⟨_, List.getElem?_eq_getElem hkl⟩
        have hbe : (g.1.getD a.toNat [])[k] = b := by rw [List.getElem?_eq_getElem hkl] at hb; exact Option.some.inj hb
        have hE : rowE g.1 a b := ⟨ha.1, List.mem_iff_getElem?.2 ⟨k, hb⟩⟩
        have hbr := row_in hg hE.2
        have hmu := muE_step (by omega) hal hk hkl
        have e4 := bvAt (l := s) (i := b.toNat) (by omega)
        have hstk : (st ++ [a]).length ≤ n := rng_len (List.nodup_append.1 hnd).2.1 fun x hx => h2.dfs.rng x (List.mem_append.2 (.inr hx))
        have hms : (t.set a.toNat ((k : Int) + 1)).map (AV.int .i64) = (t.map (AV.int .i64)).set a.toNat (.int .i64 ((k : Int) + 1)) := List.map_set
        have hkm := h2.arng a ha
        cases hq : s.getD b.toNat false with
        | true =>
          rw [hq] at e4
          conv => whnf
          repeat' (first | ((first | (intro (_ : _ ≤ 9223372036854775807)) | (refine DrawK.auto tabOK mixed (by kernel_rfl) ?_) | (refine And.intro rfl ?_) | (refine IdxK.map (by omega) (fun _ => rfl) ?_) | (refine Wr.i64 (by omega) (by omega) ?_) | (refine IdxL.mk st.length (by omega) (by omega) ?_) | (refine LdOwn.mk st.length 0 (.int .i64 a) (by omega) e3 ?_) | (refine IdxL.mk a.toNat (by omega) (by omega) ?_) | (refine LdOwn.mk a.toNat 0 (.int .i64 k) (by omega) e2 ?_) | (refine IdxK.at (k := a.toNat) (by omega) hrow rfl ?_) | (refine IdxL.mk b.toNat (by omega) (by omega) ?_) | (refine LdOwn.mk b.toNat 0 .tt (by omega) e4 ?_) | (refine StOwn.mk a.toNat 0 (.int .i64 k) (.int .i64 (k+1)) (by omega) e2 (Nat.le_refl 1) rfl ?_)); conv => whnf) | (refine Br.dec (fun _ => ?_) (fun _ => ?_) <;> first | (exfalso; omega) | conv => whnf))
          exact ⟨(o, st ++ [a], s, t.set a.toNat ((k : Int) + 1)), ⟨h2.step ha hk hb ((h2.seen b hbr).1 hq), h3, h4⟩, by simp only; omega, Le.mk [] (by simp) (by simp) (by simp) (.cons (.refl _) (.cons (.refl _) (.cons (.refl _) (.cons (.refl _) (.cons (.refl _) (.cons (.refl _) (.cons (.refl _) .nil))))))) (.cons rfl (.refl _) (.cons rfl (.of_eq (by rw [hms])) (.cons rfl (.refl _) (.cons rfl (.refl _) .nil))))⟩
        | false =>
          rw [hq] at e4
          conv => whnf
          repeat' (first | ((first | (intro (_ : _ ≤ 9223372036854775807)) | (refine DrawK.auto tabOK mixed (by kernel_rfl) ?_) | (refine And.intro rfl ?_) | (refine And.intro ⟨by decide, by decide⟩ ?_) | (refine BsK.pure (fun x hx => by rcases List.mem_singleton.1 hx with rfl; rfl) rfl ?_) | (refine IdxK.map (by omega) (fun _ => rfl) ?_) | (refine Wr.i64 (by omega) (by omega) ?_) | (refine IdxL.mk st.length (by omega) (by omega) ?_) | (refine LdOwn.mk st.length 0 (.int .i64 a) (by omega) e3 ?_) | (refine IdxL.mk a.toNat (by omega) (by omega) ?_) | (refine LdOwn.mk a.toNat 0 (.int .i64 k) (by omega) e2 ?_) | (refine IdxK.at (k := a.toNat) (by omega) hrow rfl ?_) | (refine IdxL.mk b.toNat (by omega) (by omega) ?_) | (refine LdOwn.mk b.toNat 0 .ff (by omega) e4 ?_) | (refine StOwn.mk a.toNat 0 (.int .i64 k) (.int .i64 (k+1)) (by omega) e2 (Nat.le_refl 1) rfl ?_) | (refine StOwn.mk b.toNat 0 .ff .tt (by omega) e4 (Nat.le_refl 1) rfl ?_) | (refine AppK.int1 (by simp) (by simp; omega) ?_)); conv => whnf) | (refine Br.dec (fun _ => ?_) (fun _ => ?_) <;> first | (exfalso; omega) | conv => whnf))
          have h8 := h2.push hbr hq (chainE_push st h2.dfs.path hE)
          exact ⟨(o, st ++ [a] ++ [b], s.set b.toNat true, t.set a.toNat ((k : Int) + 1)), ⟨h8.step ha hk hb (by simp), by rw [← List.append_assoc]; exact List.mem_append.2 (.inl h3), h4⟩, by simp only; omega, Le.mk [] (by simp) (by simp) (by simp) (.cons (.refl _) (.cons (.refl _) (.cons (.of_eq (by simp; rfl)) (.cons (.refl _) (.cons (.refl _) (.cons (.refl _) (.cons (.refl _) .nil))))))) (.cons rfl (.of_eq (by rw [List.map_set]; rfl)) (.cons rfl (.of_eq (by rw [hms])) (.cons rfl (.refl _) (.cons rfl (.of_eq (by rw [hbe]; simp; rfl)) .nil))))⟩
      · have hkl2 : k = (g.1.getD a.toNat []).length := by omega
        have hp := h2.pop (by rw [hk, hkl2])
        have hol2 : o.length + 1 ≤ n := by
          have h7 := hp.dfs
          have := rng_len (List.nodup_append.1 h7.nd).1 fun x hx => h7.rng x (List.mem_append.2 (.inl hx))
          simpa using this
        conv => whnf
        repeat' (first | ((first | (intro (_ : _ ≤ 9223372036854775807)) | (refine DrawK.auto tabOK mixed (by kernel_rfl) ?_) | (refine And.intro rfl ?_) | (refine And.intro ⟨by decide, by decide⟩ ?_) | (refine BsK.pure (fun x hx => by rcases List.mem_singleton.1 hx with rfl; rfl) rfl ?_) | (refine Wr.i64 (by omega) (by omega) ?_) | (refine IdxL.mk st.length (by omega) (by omega) ?_) | (refine LdOwn.mk st.length 0 (.int .i64 a) (by omega) e3 ?_) | (refine IdxL.mk a.toNat (by omega) (by omega) ?_) | (refine LdOwn.mk a.toNat 0 (.int .i64 k) (by omega) e2 ?_) | (refine IdxK.at (k := a.toNat) (by omega) hrow rfl ?_) | (refine AppK.int1 (by simp) (by simp; omega) ?_) | (refine SlK.mk 0 st.length rfl (by show ((st ++ [a]).length : Int) - 1 = _; omega) (by omega) (by omega) ?_)); conv => whnf) | (refine Br.dec (fun _ => ?_) (fun _ => ?_) <;> first | (exfalso; omega) | conv => whnf))
        have h9 : muE g.1 t n + (n - (o ++ [a]).length) < muE g.1 t n + (n - o.length) := by simp; omega
        exact ⟨(o ++ [a], st, s, t), ⟨hp, by simpa [or_assoc, or_comm, or_left_comm] using h3, fun y hy => List.mem_append.2 (.inl (h4 y hy))⟩, h9, (Le.cut (.same (.same (.same (.cut (es' := st.map (.int .i64)) ⟨[.int .i64 a], by simp⟩ .nil))))).trans (Le.mk [] (by simp) (by simp) (by simp) (.cons (.refl _) (.cons (.of_eq (by simp; rfl)) (.cons (.of_eq (by simp; rfl)) (.cons (.refl _) (.cons (.refl _) (.cons (.refl _) (.cons (.refl _) .nil))))))) (.cons rfl (.refl _) (.cons rfl (.refl _) (.cons rfl (.of_eq (by simp; rfl)) (.cons rfl (.refl _) .nil)))))⟩
end Go.Ab
namespace Go.Ab
open Go.Proofs
/-- Rows without what is marked already. -/
def offR (pre : List Bool) (rows : List (List Int)) : List (List Int) := rows.map fun r => r.filter fun b => !pre.getD b.toNat false
theorem offR_rowR {pre : List Bool} {rows : List (List Int)} {x y : Int} : rowR (offR pre rows) x y ↔ rowR rows x y ∧ pre.getD y.toNat false = false := by
  unfold rowR offR
  simp only [List.getD_eq_getElem?_getD, List.getElem?_map]
  cases rows[x.toNat]? with
  | none => simp
  | some r => simp
theorem offR_in {n : Nat} {pre : List Bool} {rows : List (List Int)} (h : rowsIn n rows) : rowsIn n (offR pre rows) := by
  refine ⟨by simp [offR, h.1], fun r hr b hb => ?_⟩
  obtain ⟨r', hr', rfl⟩ := List.mem_map.1 hr
  exact h.2 r' hr' b (List.mem_filter.1 hb).1
structure SimW (pre : List Bool) (st st' : List Bool × List Int) : Prop where
  todo : st.2 = st'.2
  len : st.1.length = st'.1.length
  mrk : ∀ k, st.1.getD k false = (pre.getD k false || st'.1.getD k false)
theorem SimW.see {pre : List Bool} {st st' : List Bool × List Int} (h : SimW pre st st') {b : Int} (hb : b.toNat < st.1.length) (hp : pre.getD b.toNat false = false) : SimW pre (seeW st b) (seeW st' b) := by
  have hm := h.mrk b.toNat
  rw [hp, Bool.false_or] at hm
  unfold seeW
  rw [hm]
  cases st'.1.getD b.toNat false with
  | true => exact h
  | false =>
    refine ⟨by simp only [cond_false]; rw [h.todo], by simpa using h.len, fun k => ?_⟩
    simp only [cond_false]
    rw [getD_set hb, getD_set (by rw [← h.len]; exact hb)]
    split
    · simp
    · exact h.mrk k
theorem SimW.skip {pre : List Bool} {st st' : List Bool × List Int} (h : SimW pre st st') {b : Int} (hp : pre.getD b.toNat false = true) : seeW st b = st := by
  unfold seeW
  rw [h.mrk, hp]
  rfl
theorem seeW_len (st : List Bool × List Int) (b : Int) : (seeW st b).1.length = st.1.length := by
  unfold seeW
  cases st.1.getD b.toNat false <;> simp
theorem SimW.fold {n : Nat} {pre : List Bool} : ∀ (l : List Int) {st st' : List Bool × List Int}, SimW pre st st' → st.1.length = n → (∀ b ∈ l, 0 ≤ b ∧ b < n) → SimW pre (l.foldl seeW st) ((l.filter fun b => !pre.getD b.toNat false).foldl seeW st') ∧ (l.foldl seeW st).1.length = n
  | [], _, _, h, hn, _ => ⟨h, hn⟩
  | b :: r, st, st', h, hn, hl => by
    have hb := hl b List.mem_cons_self
    have hr : ∀ c ∈ r, 0 ≤ c ∧ c < n := fun c hc => hl c (List.mem_cons_of_mem _ hc)
    rw [List.foldl_cons]
    cases hp : pre.getD b.toNat false with
    | true =>
      rw [h.skip hp, List.filter_cons_of_neg (by rw [hp]; simp)]
      exact SimW.fold r h hn hr
    | false =>
      rw [List.filter_cons_of_pos (by rw [hp]; simp), List.foldl_cons]
      exact SimW.fold r (h.see (by omega) hp) (by rw [seeW_len]; exact hn) hr
theorem SimW.walk {n : Nat} {pre : List Bool} {rows : List (List Int)} (hr : rowsIn n rows) : ∀ (k i : Nat) {st st' : List Bool × List Int}, SimW pre st st' → st.1.length = n → SimW pre (walkF rows k i st) (walkF (offR pre rows) k i st')
  | 0, _, _, _, h, _ => h
  | k + 1, i, st, st', h, hn => by
    rw [walkF, walkF, ← h.todo]
    cases ha : st.2[i]? with
    | none => exact h
    | some a =>
      simp only
      have hrow : ∀ b ∈ rows.getD a.toNat [], 0 ≤ b ∧ b < n := fun b hb => row_in hr hb
      have he : (offR pre rows).getD a.toNat [] = (rows.getD a.toNat []).filter fun b => !pre.getD b.toNat false := by
        unfold offR
        simp only [List.getD_eq_getElem?_getD, List.getElem?_map]
        cases rows[a.toNat]? with
        | none => simp
        | some r => simp
      rw [he]
      obtain ⟨h1, h2⟩ := SimW.fold (n := n) _ h hn hrow
      exact SimW.walk hr k (i + 1) h1 h2
/-- Going on from one that is not marked yet, past what is marked. -/
theorem walk_past {n : Nat} {pre : List Bool} {rows : List (List Int)} (hr : rowsIn n rows) (hp : pre.length = n) {r : Int} (hrr : 0 ≤ r ∧ r < n) (hu : pre.getD r.toNat false = false) :
    (∀ x, x ∈ (walkF rows (n + 1) 0 (pre.set r.toNat true, [r])).2 ↔ Rch (fun a b => rowR rows a b ∧ pre.getD b.toNat false = false) r x) ∧
    (∀ x : Int, 0 ≤ x ∧ x < n → ((walkF rows (n + 1) 0 (pre.set r.toNat true, [r])).1.getD x.toNat false = true ↔ pre.getD x.toNat false = true ∨ x ∈ (walkF rows (n + 1) 0 (pre.set r.toNat true, [r])).2)) := by
  have e0 : seeW (List.replicate n false, []) r = ((List.replicate n false).set r.toNat true, [r]) := by
    unfold seeW
    have : (List.replicate n false).getD r.toNat false = false := by
      rw [List.getD_eq_getElem?_getD, List.getElem?_replicate]; split <;> rfl
    simp only [this, cond_false, List.nil_append]
  obtain ⟨h1, h2, _⟩ := (WkM.start n).see hrr
  rw [e0] at h1 h2
  have hsim : SimW pre (pre.set r.toNat true, [r]) ((List.replicate n false).set r.toNat true, [r]) := ⟨rfl, by simp [hp], fun k => by
    rw [getD_set (by omega), getD_set (by simp; omega)]
    split
    · simp
    · have : (List.replicate n false).getD k false = false := by
        rw [List.getD_eq_getElem?_getD, List.getElem?_replicate]; split <;> rfl
      rw [this, Bool.or_false]⟩
  have hw := SimW.walk hr (n + 1) 0 hsim (by simpa using hp)
  obtain ⟨h3, h4, h5, h6⟩ := walk_spec (offR_in (pre := pre) hr) (n + 1) 0 h1 (Nat.zero_le _) (by omega) (fun m a hm => by omega)
  refine ⟨fun x => ?_, fun x hx => ?_⟩
  · rw [hw.todo]
    constructor
    · intro hx
      exact h6 (fun x => Rch (fun a b => rowR rows a b ∧ pre.getD b.toNat false = false) r x) (fun x hx => by rw [List.mem_singleton.1 hx]; exact .refl) (fun x b h7 h8 => .tail h7 (offR_rowR.1 h8)) x hx
    · intro hx
      exact hx.closed (S := fun x => x ∈ (walkF (offR pre rows) (n + 1) 0 ((List.replicate n false).set r.toNat true, [r])).2) (fun x y h7 h8 => h5 x h7 y (offR_rowR.2 h8)) (h4 r (by simp))
  · rw [hw.mrk, hw.todo, h3.mem, Bool.or_eq_true]
    exact ⟨fun h => h.imp id fun h => ⟨hx, h⟩, fun h => h.imp id fun h => h.2⟩
theorem hasB_of {n : Nat} {a : Int} (h : 0 ≤ a ∧ a < n) : hasB n a = true := by
  unfold hasB
  simpa using h
/-- The least one of a place's part. -/
structure MinP (E : Int → Int → Prop) (x v : Int) : Prop where
  scc : sccP E x v
  le : ∀ y, sccP E x y → v ≤ y
theorem MinP.uniq {E : Int → Int → Prop} {x v w : Int} (h : MinP E x v) (h' : MinP E x w) : v = w := Int.le_antisymm (h.le w h'.scc) (h'.le v h.scc)
def partR (n : Nat) (rows : List (List Int)) : List Int := (List.range n).map fun (a : Nat) => minI ((lstI 0 (reachB rows [(a : Int)])).filter fun b => (lstI 0 (reachB rows [b])).contains (a : Int))
theorem rowE_rch {n : Nat} {rows : List (List Int)} (hr : rowsIn n rows) {x y : Int} (hx : 0 ≤ x) : Rch (rowE rows) x y ↔ Rch (rowR rows) x y := by
  refine ⟨fun h => h.mono fun _ _ h => h.2, fun h => ?_⟩
  exact (h.closed (S := fun y : Int => 0 ≤ y ∧ Rch (rowE rows) x y) (fun a b ⟨h1, h2⟩ h3 => ⟨(row_in hr h3).1, .tail h2 ⟨h1, h3⟩⟩) ⟨hx, .refl⟩).2
theorem rch_in {n : Nat} {rows : List (List Int)} (hr : rowsIn n rows) {x y : Int} (hx : 0 ≤ x ∧ x < n) (h : Rch (rowE rows) x y) : 0 ≤ y ∧ y < n :=
  h.closed (S := fun y : Int => 0 ≤ y ∧ y < n) (fun _ _ _ h => row_in hr h.2) hx
theorem lst_rch {n : Nat} {rows : List (List Int)} (hr : rowsIn n rows) {x : Int} (hx : 0 ≤ x ∧ x < n) (y : Int) : y ∈ lstI 0 (reachB rows [x]) ↔ Rch (rowE rows) x y := by
  rw [reach_iff hr, rowE_rch hr hx.1]
  constructor
  · rintro ⟨a, ha, _, h⟩
    rw [List.mem_singleton.1 ha] at h
    exact h
  · intro h
    exact ⟨x, by simp, hasB_of hx, h⟩
theorem partR_len (n : Nat) (rows : List (List Int)) : (partR n rows).length = n := by simp [partR]
theorem partR_spec {n : Nat} {rows : List (List Int)} (hr : rowsIn n rows) {x : Int} (hx : 0 ≤ x ∧ x < n) : MinP (rowE rows) x ((partR n rows).getD x.toNat 0) := by
  have e : (partR n rows).getD x.toNat 0 = minI ((lstI 0 (reachB rows [x])).filter fun b => (lstI 0 (reachB rows [b])).contains x) := by
    unfold partR
    rw [List.getD_eq_getElem?_getD, List.getElem?_map, List.getElem?_range (by omega)]
    have : ((x.toNat : Nat) : Int) = x := by omega
    simp [this]
  have hm : ∀ y, y ∈ (lstI 0 (reachB rows [x])).filter (fun b => (lstI 0 (reachB rows [b])).contains x) ↔ sccP (rowE rows) x y := fun y => by
    rw [List.mem_filter, lst_rch hr hx, List.contains_iff_mem]
    constructor
    · rintro ⟨h1, h2⟩
      exact ⟨h1, (lst_rch hr (rch_in hr hx h1) x).1 h2⟩
    · rintro ⟨h1, h2⟩
      exact ⟨h1, (lst_rch hr (rch_in hr hx h1) x).2 h2⟩
  rw [e]
  obtain ⟨h1, h2⟩ := minI_spec (l := (lstI 0 (reachB rows [x])).filter fun b => (lstI 0 (reachB rows [b])).contains x) (List.length_pos_of_mem ((hm x).2 (sccP.refl x)))
  exact ⟨(hm _).1 h1, fun y hy => h2 y ((hm y).2 hy)⟩
end Go.Ab
namespace Go.Ab
open Go.Proofs
/-- What is known while the parts are laid: those of all places from one on. -/
structure PartI (n : Nat) (E : Int → Int → Prop) (es : List Int) (m : Nat) (part : List Int) (seen : List Bool) : Prop where
  sl : seen.length = n
  pl : part.length = n
  seen : ∀ x : Int, 0 ≤ x ∧ x < n → (seen.getD x.toNat false = true ↔ SeenP E es m x)
  min : ∀ x : Int, 0 ≤ x ∧ x < n → SeenP E es m x → MinP E x (part.getD x.toNat 0)
theorem PartI.start {n : Nat} {E : Int → Int → Prop} {es : List Int} : PartI n E es es.length (List.replicate n 0) (List.replicate n false) := by
  have hno : ∀ x, ¬ SeenP E es es.length x := fun x ⟨j, y, h1, h2, _⟩ => by
    have := (List.getElem?_eq_some_iff.1 h2).1
    omega
  refine ⟨by simp, by simp, fun x _ => ?_, fun x _ hx => absurd hx (hno x)⟩
  rw [List.getD_eq_getElem?_getD, List.getElem?_replicate]
  have := hno x
  split <;> simp [this]
def setMany (l : List Int) (v : Int) (part : List Int) : List Int := l.foldl (fun p a => p.set a.toNat v) part
theorem setMany_len (v : Int) : ∀ (l part : List Int), (setMany l v part).length = part.length
  | [], _ => rfl
  | a :: r, part => by
    show (setMany r v (part.set a.toNat v)).length = _
    rw [setMany_len v r]
    simp
theorem setMany_get {n : Nat} (v : Int) {x : Int} (hx : 0 ≤ x ∧ x < n) : ∀ (l : List Int) {part : List Int}, part.length = n → (∀ a ∈ l, 0 ≤ a ∧ a < n) → (x ∈ l → (setMany l v part).getD x.toNat 0 = v) ∧ (x ∉ l → (setMany l v part).getD x.toNat 0 = part.getD x.toNat 0)
  | [], _, _, _ => ⟨by simp, fun _ => rfl⟩
  | a :: r, part, hl, ha => by
    have ha0 := ha a List.mem_cons_self
    have e : setMany (a :: r) v part = setMany r v (part.set a.toNat v) := rfl
    obtain ⟨h1, h2⟩ := setMany_get v hx r (part := part.set a.toNat v) (by simpa using hl) fun b hb => ha b (List.mem_cons_of_mem _ hb)
    have hg : (part.set a.toNat v).getD x.toNat 0 = if a.toNat = x.toNat then v else part.getD x.toNat 0 := getD_set (by omega)
    rw [e]
    by_cases hxr : x ∈ r
    · exact ⟨fun _ => h1 hxr, fun h => absurd (List.mem_cons_of_mem _ hxr) h⟩
    · rw [h2 hxr, hg]
      constructor
      · intro h
        rcases List.mem_cons.1 h with rfl | h
        · rw [if_pos rfl]
        · exact absurd h hxr
      · intro h
        have : x ≠ a := fun h' => h (by rw [h']; exact List.mem_cons_self)
        rw [if_neg (by omega)]
/-- One more part. -/
theorem PartI.part {n : Nat} {g : List (List Int) × List (List Int)} (hg : rowsIn n g.1) (hg2 : rowsIn n g.2) (hm : ∀ x y, rowE g.2 x y ↔ rowE g.1 y x) {es : List Int} (he : EndsP n (rowE g.1) es) {m : Nat} {part : List Int} {seen : List Bool} (h : PartI n (rowE g.1) es (m + 1) part seen) {r : Int} (hr : es[m]? = some r) (hu : seen.getD r.toNat false = false) :
    (∀ x ∈ (walkF g.2 (n + 1) 0 (seen.set r.toNat true, [r])).2, 0 ≤ x ∧ x < n) ∧ 0 < (walkF g.2 (n + 1) 0 (seen.set r.toNat true, [r])).2.length ∧ wkInv n (seen.set r.toNat true, [r]) ∧
    PartI n (rowE g.1) es m (setMany (walkF g.2 (n + 1) 0 (seen.set r.toNat true, [r])).2 (minI (walkF g.2 (n + 1) 0 (seen.set r.toNat true, [r])).2) part) (walkF g.2 (n + 1) 0 (seen.set r.toNat true, [r])).1 := by
  have hrr := (he.mem r).1 (List.mem_of_getElem? hr)
  have hsl := h.sl
  have hns : ¬ SeenP (rowE g.1) es (m + 1) r := fun hs => by rw [(h.seen r hrr).2 hs] at hu; cases hu
  obtain ⟨h1, h2⟩ := walk_past hg2 h.sl hrr hu
  have hin : ∀ x y, rowE g.1 x y → (0 ≤ x ∧ x < n) ∧ 0 ≤ y ∧ y < n := fun x y hxy => ⟨row_in hg2 ((hm y x).2 hxy).2, row_in hg hxy.2⟩
  have hback := back_part hin he hr hns
  have hrel : ∀ x, Rch (fun a b => rowR g.2 a b ∧ seen.getD b.toNat false = false) r x ↔ Rch (fun a b => rowE g.1 b a ∧ ¬ SeenP (rowE g.1) es (m + 1) b) r x := fun x => by
    constructor
    · intro hx
      exact (hx.closed (S := fun x : Int => (0 ≤ x ∧ x < n) ∧ Rch (fun a b => rowE g.1 b a ∧ ¬ SeenP (rowE g.1) es (m + 1) b) r x) (fun a b ⟨h3, h4⟩ ⟨h5, h6⟩ => by
        have hb := row_in hg2 h5
        refine ⟨hb, .tail h4 ⟨(hm a b).1 ⟨h3.1, h5⟩, fun hs => ?_⟩⟩
        rw [(h.seen b hb).2 hs] at h6
        cases h6) ⟨hrr, .refl⟩).2
    · intro hx
      refine hx.mono fun a b ⟨h3, h4⟩ => ⟨((hm a b).2 h3).2, ?_⟩
      have hb := (hin b a h3).1
      cases hq : seen.getD b.toNat false with
      | true => exact absurd ((h.seen b hb).1 hq) h4
      | false => rfl
  have hmem : ∀ x, x ∈ (walkF g.2 (n + 1) 0 (seen.set r.toNat true, [r])).2 ↔ sccP (rowE g.1) r x := fun x => by rw [h1, hrel, hback]
  have hrng : ∀ x ∈ (walkF g.2 (n + 1) 0 (seen.set r.toNat true, [r])).2, 0 ≤ x ∧ x < n := fun x hx => rch_in hg hrr ((hmem x).1 hx).1
  have hpos : 0 < (walkF g.2 (n + 1) 0 (seen.set r.toNat true, [r])).2.length := List.length_pos_of_mem ((hmem r).2 (sccP.refl r))
  have hwk : wkInv n (seen.set r.toNat true, [r]) := by
    refine ⟨by simpa using h.sl, ?_, fun x hx => by rw [List.mem_singleton.1 hx]; exact hrr⟩
    have hlt : r.toNat < (seen.set r.toNat true).length := by simp; omega
    show 1 ≤ _
    exact List.count_pos_iff.2 (List.mem_iff_getElem.2 ⟨r.toNat, hlt, by simp⟩)
  have hwl : (walkF g.2 (n + 1) 0 (seen.set r.toNat true, [r])).1.length = n := (walkF_inv hg2 _ _ hwk).1
  generalize walkF g.2 (n + 1) 0 (seen.set r.toNat true, [r]) = w at hmem hrng hpos hwl h2 ⊢
  obtain ⟨h7, h8⟩ := minI_spec hpos
  refine ⟨hrng, hpos, hwk, hwl, by rw [setMany_len]; exact h.pl, fun x hx => ?_, fun x hx hs => ?_⟩
  · rw [h2 x hx, hmem, h.seen x hx, seen_next hr]
  · obtain ⟨h3, h4⟩ := setMany_get (minI w.2) hx w.2 h.pl hrng
    by_cases hxw : x ∈ w.2
    · rw [h3 hxw]
      have hsx := (hmem x).1 hxw
      exact ⟨hsx.symm.trans ((hmem _).1 h7), fun y hy => h8 y ((hmem y).2 (hsx.trans hy))⟩
    · rw [h4 hxw]
      refine h.min x hx ?_
      rcases (seen_next hr x).1 hs with h5 | h5
      · exact h5
      · exact absurd ((hmem x).2 h5) hxw
theorem PartI.fin {n : Nat} {rows : List (List Int)} (hr : rowsIn n rows) {es : List Int} (he : EndsP n (rowE rows) es) {part : List Int} {seen : List Bool} (h : PartI n (rowE rows) es 0 part seen) : part = partR n rows := by
  refine List.ext_getElem? fun i => ?_
  rcases Nat.lt_or_ge i n with hi | hi
  · have hx : 0 ≤ (i : Int) ∧ (i : Int) < n := by omega
    have h1 := h.min i hx (seen_all he hx)
    have h2 := partR_spec hr hx
    have h3 := h1.uniq h2
    have hp1 : i < part.length := by rw [h.pl]; exact hi
    have hp2 : i < (partR n rows).length := by rw [partR_len]; exact hi
    simpa [List.getD_eq_getElem?_getD, hp1, hp2] using h3
  · rw [List.getElem?_eq_none (by rw [h.pl]; exact hi), List.getElem?_eq_none (by rw [partR_len]; exact hi)]
end Go.Ab
