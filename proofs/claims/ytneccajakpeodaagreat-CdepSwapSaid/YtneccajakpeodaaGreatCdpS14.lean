/- The reference's small program goes on where it should. -/
import Derived.Laws.StructEq
import Derived.ChangeKeysEq
import Derived.Test.YtneccajakpeodaaGreatCdpS8
import Derived.Test.YtneccajakpeodaaGreatCdpS9
import Derived.Test.YtneccajakpeodaaGreatCdpS10
import Derived.Test.YtneccajakpeodaaGreatCdpS13
set_option linter.unusedSimpArgs false
set_option linter.unusedVariables false
set_option maxRecDepth 100000
set_option maxHeartbeats 16000000
namespace Go.Ab
open Go.Proofs
theorem some_fit : Fit someP := by unfold Fit; decide
theorem some_chk : chkB someP = true := by kernel_rfl
def f0 : Pr := someP.procs[0]'(by decide)
def f1 : Pr := someP.procs[1]'(by decide)
theorem norm0 : normS (stepsRaw someP 0 f0) = [⟨0, 1, 1⟩, ⟨1, 2, 1⟩, ⟨2, 3, 1⟩, ⟨3, 4, 1⟩, ⟨4, -1, 1⟩] := by
 have h1 : stepsRaw someP 0 f0 = [⟨0, 1, 1⟩, ⟨1, 2, 1⟩, ⟨2, 3, 1⟩, ⟨3, 4, 1⟩, ⟨4, -1, 1⟩] := by kernel_rfl
 unfold normS sortSt
 rw [h1, List.mergeSort_of_pairwise (by decide)]
 rfl
theorem norm1 : normS (stepsRaw someP 1 f1) = [⟨0, 5, 1⟩, ⟨5, 6, 1⟩, ⟨6, 7, 1⟩, ⟨6, 8, 1⟩, ⟨7, -1, 1⟩, ⟨8, -1, 1⟩] := by
 have h1 : stepsRaw someP 1 f1 = [⟨0, 5, 1⟩, ⟨5, 6, 1⟩, ⟨6, 7, 1⟩, ⟨6, 8, 1⟩, ⟨7, -1, 1⟩, ⟨8, -1, 1⟩] := by kernel_rfl
 unfold normS sortSt
 rw [h1, List.mergeSort_of_pairwise (by decide)]
 rfl
theorem some_way : wayO someP [112] = some (newWay someP 1 f1) := by
 unfold wayO
 rw [some_chk]
 rfl
open Go.Proofs
theorem step_rep {σ : Mem} {a : Step} {v : Value} (h : Rep σ (.agg a.cells) v) : v = .agg #[.int .i64 a.src, .int .i64 a.dst, .int .i64 a.kind] := by
 cases h with
 | agg cs vs u hn hc hr =>
   have hs : vs.size = 3 := hn
   have g : ∀ (j : Nat) (n : Int), a.cells[j]? = some (.int .i64 n) → vs[j]? = some (.int .i64 n) := fun j n hj => by
    have h1 := hc j _ hj
    have h2 := hr j _ hj
    cases hu : u j <;> rw [hu] at h2 <;> cases h2
    rw [h1, hu]
   congr 1
   apply Array.ext_getElem?
   intro i
   match i with
   | 0 => exact g 0 _ rfl
   | 1 => exact g 1 _ rfl
   | 2 => exact g 2 _ rfl
   | i + 3 => rw [Array.getElem?_eq_none (by omega), Array.getElem?_eq_none (by simp)]
theorem ValO.steps {hr : Bool} {s : St} {o : Oper} {K : LV → Prop} {x y : Operand} {u : TypeId} (hop : o.op = .binOp .eql 79 x y u) {a b : Step} (hx : evalO s.sl x = .p (.agg a.cells)) (hy : evalO s.sl y = .p (.agg b.cells))
  (hK : K (.p (.bool (decide (a = b))))) : ValO Tryz.prog hr s o K := by
 refine ⟨fun σ β ac w hs _ => ⟨_, .bool (decide (a = b)), hK, .p (.bool _), fun w' _ _ => ?_⟩⟩
 have h1 : ac.eval x = .agg #[.int .i64 a.src, .int .i64 a.dst, .int .i64 a.kind] := by
  have := evalO_rep hs x
  rw [hx] at this
  cases this with
  | p h => exact step_rep h
 have h2 : ac.eval y = .agg #[.int .i64 b.src, .int .i64 b.dst, .int .i64 b.kind] := by
  have := evalO_rep hs y
  rw [hy] at this
  cases this with
  | p h => exact step_rep h
 have hu : Tryz.prog.underlying 79 = some (.struct (Tryz.prog.fieldsOf 79)) := by kernel_rfl
 have hi : Tryz.prog.underlying 3 = some (.int .i64) := by kernel_rfl
 have hf : (Tryz.prog.fieldsOf 79).toList = (match ty79.desc with | .struct fs => fs.toList | _ => []) := by kernel_rfl
 have he : (Op.equalIn 10000 79 (.agg #[.int .i64 a.src, .int .i64 a.dst, .int .i64 a.kind]) (.agg #[.int .i64 b.src, .int .i64 b.dst, .int .i64 b.kind])).run Tryz.prog w' = .ok (decide (a = b)) w' := by
  rw [run_equalIn_struct w' 9999 _ _ _ hu (by kernel_rfl), hf]
  simp only [ty79, Op.eqFields]
  have p0 : ∀ x y z : Int, (part 3 #[.int .i64 x, .int .i64 y, .int .i64 z] 0).run Tryz.prog w' = .ok (.int .i64 x) w' := fun x y z => run_part_plain w' (by kernel_rfl) rfl
  have p1 : ∀ x y z : Int, (part 3 #[.int .i64 x, .int .i64 y, .int .i64 z] 1).run Tryz.prog w' = .ok (.int .i64 y) w' := fun x y z => run_part_plain w' (by kernel_rfl) rfl
  have p2 : ∀ x y z : Int, (part 3 #[.int .i64 x, .int .i64 y, .int .i64 z] 2).run Tryz.prog w' = .ok (.int .i64 z) w' := fun x y z => run_part_plain w' (by kernel_rfl) rfl
  have ei : ∀ x y : Int, (Op.equalIn 9999 3 (.int .i64 x) (.int .i64 y)).run Tryz.prog w' = .ok (x == y) w' := fun a b => run_equalIn_int (P := Tryz.prog) w' 9998 3 .i64 .i64 a b hi
  have e : decide (a = b) = ((a.src == b.src) && ((a.dst == b.dst) && (a.kind == b.kind))) := by
   cases a; cases b
   simp only [Step.mk.injEq, Bool.decide_and]
   rfl
  simp only [ne_eq, show ¬ ("From" = "_") by decide, show ¬ ("To" = "_") by decide, show ¬ ("Kind" = "_") by decide, not_false_eq_true, if_true, Sem.run_bind, p0, p1, p2, Result.andThen_ok, ei, Sem.run_ite, Sem.run_pure, e]
  cases (a.src == b.src) <;> cases (a.dst == b.dst) <;> cases (a.kind == b.kind) <;> simp
 simp only [execOp, hop, h1, h2, Sem.run_bind, run_eqGuard_agg _ _ _ _ _ _ _ (show Tryz.prog.eqGuardType Tryz.prog.depth 79 = false by kernel_rfl), Result.andThen_ok, run_eql_struct, he, Sem.run_pure]
open Go.Proofs
open Go.Proofs
def modI (n k : Int) : Int := if k < 1 then 0 else if n.tmod k < 0 then n.tmod k + k else n.tmod k
theorem modI_rng {n k : Int} (hk : 0 < k) : 0 ≤ modI n k ∧ modI n k < k := by
 unfold modI
 have h1 := Int.tmod_lt_of_pos n hk
 have h2 : -k < n.tmod k := by
  rcases Int.le_total 0 n with h | h
  ·have := Int.tmod_nonneg k h; omega
  ·have h3 := Int.tmod_lt_of_pos (-n) hk
   rw [Int.neg_tmod] at h3
   omega
 rw [if_neg (by omega)]
 split <;> omega
theorem whittlerref3_Mod (n k : Int) (hk : k ≤ 1000000) : SpecP Tryz.prog 81 [.int .i64 n, .int .i64 k] (fun r => r = .int .i64 (modI n k)) := by
 refine SpecP.body I_whittlerref3_Mod tabOK Tryz.func81 rfl Tryz.call81 (by show 2 ≤ _; decide) ?_
 conv => whnf
 have h1 := fun h : 0 < k => modI_rng (n := n) h
 repeat' (first | (refine And.intro (by omega) ?_; conv => whnf) | (refine Br.dec (fun _ => ?_) (fun _ => ?_) <;> first | (exfalso; omega) | conv => whnf))
 all_goals first
  | (refine Wr.i64 (by have := h1 (by omega); unfold modI at this; rw [if_neg (by omega), if_pos (by assumption)] at this; omega) (by have := h1 (by omega); unfold modI at this; rw [if_neg (by omega), if_pos (by assumption)] at this; omega) ?_
     conv => whnf
     exact RetK.int (by unfold modI; rw [if_neg (by assumption), if_pos (by assumption)]))
  | exact RetK.int (by unfold modI; rw [if_pos (by assumption)])
  | exact RetK.int (by unfold modI; rw [if_neg (by assumption), if_neg (by assumption)])
def hasI (l : List Int) (x : Int) : Bool := l.any fun y => decide (x = y)
def procAtR (p : Pg) (n : Int) : Str := match p.procs[(modI n p.procs.length).toNat]? with
 | some f => f.name
 | none => []
theorem whittlerref6_ProcAt (p : Pg) (n : Int) (hp : p.procs.length ≤ 20000) : SpecP Tryz.prog 19 [.agg p.cells, .int .i64 n] (fun r => r = .str (procAtR p n)) := by
 refine SpecP.body I_whittlerref6_ProcAt tabOK Tryz.func19 rfl Tryz.call19 (by show 2 ≤ _; decide) ?_
 conv => whnf
 have hl : (p.procs.map fun f => AV.agg f.cells).length = p.procs.length := List.length_map _
 have hr := fun h : 0 < (p.procs.length : Int) => modI_rng (n := n) h
 repeat' (first | ((first | (intro (_ : _ ≤ 9223372036854775807)) | (refine DrawK.auto tabOK mixed (by kernel_rfl) ?_) | (refine CallK.pure (whittlerref3_Mod n (p.procs.length : Int) (by omega)) (.cons (Sub.refl _) (.cons (Sub.int (by omega)) .nil)) ?_; rintro _ rfl)); conv => whnf) | (refine Br.dec (fun _ => ?_) (fun _ => ?_) <;> first | (exfalso; omega) | conv => whnf))
 ·refine RetK.p ?_
  have h0 : p.procs = [] := List.length_eq_zero_iff.1 (by omega)
  unfold procAtR
  rw [h0]
  rfl
 ·obtain ⟨h1, h2⟩ := hr (by omega)
  have hlt : (modI n p.procs.length).toNat < p.procs.length := by omega
  refine IdxK.at (k := (modI n p.procs.length).toNat) (e := .agg p.procs[(modI n p.procs.length).toNat].cells) (by omega) (by rw [List.getElem?_map, List.getElem?_eq_getElem hlt]; rfl) rfl ?_
  conv => whnf
  skip
  exact RetK.p (by unfold procAtR; rw [List.getElem?_eq_getElem hlt])
open Go.Proofs
theorem nodup_inj {α β : Type} {f : α → β} : ∀ {l : List α}, (l.map f).Nodup → ∀ a ∈ l, ∀ b ∈ l, f a = f b → a = b
 | [], _, a, ha, _, _, _ => by cases ha
 | c :: r, h, a, ha, b, hb, e => by
   rw [List.map_cons, List.nodup_cons] at h
   rcases List.mem_cons.1 ha with ha1 | ha1
   ·rcases List.mem_cons.1 hb with hb1 | hb1
    ·rw [ha1, hb1]
    ·exact (h.1 (List.mem_map.2 ⟨b, hb1, by rw [← e, ha1]⟩)).elim
   ·rcases List.mem_cons.1 hb with hb1 | hb1
    ·exact (h.1 (List.mem_map.2 ⟨a, ha1, by rw [e, hb1]⟩)).elim
    ·exact nodup_inj h.2 a ha1 b hb1 e
theorem nodup_len {α : Type} [DecidableEq α] : ∀ {l m : List α}, l.Nodup → (∀ s ∈ l, s ∈ m) → l.length ≤ m.length
 | [], m, _, _ => Nat.zero_le _
 | a :: r, m, h, hs => by
   rw [List.nodup_cons] at h
   have ha := hs a List.mem_cons_self
   have h1 := nodup_len (m := m.erase a) h.2 fun s hsr => (List.mem_erase_of_ne (fun e => h.1 (by rw [← e]; exact hsr))).2 (hs s (List.mem_cons_of_mem _ hsr))
   rw [List.length_erase_of_mem ha] at h1
   have := List.length_pos_of_mem ha
   simp only [List.length_cons]
   omega
theorem idsN_nodup (n c : Nat) : (idsN n c).Nodup := by
 unfold idsN List.Nodup
 rw [List.pairwise_map]
 exact List.Pairwise.imp (fun h e => h (by omega)) (List.nodup_range' (s := n + 1) (n := c) (step := 1))
theorem its_ids {p : Pg} (hm : mayB p = true) {j : Nat} {f : Pr} (hj : p.procs[j]? = some f) : (itsOf p j f).map (fun it => it.s.id) = idsN (offN p.procs j) (cntL f.body) := by
 rw [← may_ids hm hj, ← itL_s (j : Nat) 0 (-1) 0 (offN p.procs j) f.body, List.map_map]
 rfl
theorem it_inj {p : Pg} (hm : mayB p = true) {j : Nat} {f : Pr} (hj : p.procs[j]? = some f) {a b : Item} (ha : a ∈ itsOf p j f) (hb : b ∈ itsOf p j f) (h : a.s.id = b.s.id) : a = b :=
 nodup_inj (f := fun it : Item => it.s.id) (by rw [its_ids hm hj]; exact idsN_nodup _ _) a ha b hb h
theorem it_of {p : Pg} {j : Nat} {f : Pr} {t : S} (h : t ∈ flL f.body) : ∃ it ∈ itsOf p j f, it.s = t := by
 rw [← itL_s (j : Nat) 0 (-1) 0 (offN p.procs j) f.body] at h
 obtain ⟨it, h1, h2⟩ := List.mem_map.1 h
 exact ⟨it, h1, h2⟩
theorem lt_nodup {l : List Step} (h : l.Pairwise ltSt) : l.Nodup := h.imp fun h e => by subst e; exact ltSt_irrefl h
theorem hasI_iff {l : List Int} {x : Int} : hasI l x = true ↔ x ∈ l := by
 unfold hasI
 rw [List.any_eq_true]
 refine ⟨fun ⟨y, h1, h2⟩ => by simp at h2; exact h2 ▸ h1, fun h => ⟨x, h, by simp⟩⟩
theorem idsN_has {n c : Nat} {a : Int} (h1 : (n : Int) + 1 ≤ a) (h2 : a ≤ (n + c : Nat)) : a ∈ idsN n c := by
 unfold idsN
 refine List.mem_map.2 ⟨a.toNat, List.mem_range'.2 ⟨a.toNat - (n + 1), by omega, by omega⟩, by omega⟩
open Go.Proofs
theorem fit_procs {p : Pg} (h : chkB p = true) : p.procs.length ≤ 20000 := by have := (chk_cnt h).2.1; omega
open Go.Proofs
inductive Rch {α : Type} (R : α → α → Prop) (a : α) : α → Prop
 | refl : Rch R a a
 | tail {b c : α} (h : Rch R a b) (hr : R b c) : Rch R a c
theorem Rch.trans {α : Type} {R : α → α → Prop} {a b c : α} (h : Rch R a b) (h' : Rch R b c) : Rch R a c := by
 induction h' with
 | refl => exact h
 | tail _ hr ih => exact .tail ih hr
theorem Rch.head {α : Type} {R : α → α → Prop} {a b c : α} (hr : R a b) (h : Rch R b c) : Rch R a c := Rch.trans (.tail .refl hr) h
theorem Rch.mono {α : Type} {R R' : α → α → Prop} (h : ∀ x y, R x y → R' x y) {a b : α} (hr : Rch R a b) : Rch R' a b := by
 induction hr with
 | refl => exact .refl
 | tail _ hr ih => exact .tail ih (h _ _ hr)
theorem Rch.closed {α : Type} {R : α → α → Prop} {S : α → Prop} (hS : ∀ x y, S x → R x y → S y) {a b : α} (ha : S a) (h : Rch R a b) : S b := by
 induction h with
 | refl => exact ha
 | tail _ hr ih => exact hS _ _ ih hr
structure WkM (n : Nat) (st : List Bool × List Int) : Prop where
 inv : wkInv n st
 mem : ∀ x, x ∈ st.2 ↔ (0 ≤ x ∧ x < n) ∧ st.1.getD x.toNat false = true
theorem WkM.start (n : Nat) : WkM n (List.replicate n false, []) := ⟨wkInv_start n, fun x => by
 simp only [List.not_mem_nil, false_iff, not_and]
 intro _
 rw [List.getD_eq_getElem?_getD, List.getElem?_replicate]
 split <;> simp⟩
theorem WkM.see {n : Nat} {st : List Bool × List Int} (h : WkM n st) {b : Int} (hb : 0 ≤ b ∧ b < n) : WkM n (seeW st b) ∧ (∀ x, x ∈ (seeW st b).2 ↔ x ∈ st.2 ∨ x = b) ∧ st.2 <+: (seeW st b).2 := by
 have hi := seeW_inv h.inv hb
 cases hs : st.1.getD b.toNat false with
 | true =>
   have e : seeW st b = st := by unfold seeW; rw [hs]; rfl
   rw [e]
   refine ⟨h, fun x => ⟨.inl, fun hx => ?_⟩, List.prefix_refl _⟩
   rcases hx with hx | rfl
   ·exact hx
   ·exact (h.mem _).2 ⟨hb, hs⟩
 | false =>
   have e : seeW st b = (st.1.set b.toNat true, st.2 ++ [b]) := by unfold seeW; rw [hs]; rfl
   rw [e] at hi ⊢
   have hlen := h.inv.1
   refine ⟨⟨hi, fun x => ?_⟩, fun x => by simp, List.prefix_append _ _⟩
   rw [List.mem_append, List.mem_singleton, h.mem]
   simp only [List.getD_eq_getElem?_getD, List.getElem?_set]
   by_cases hx : x = b
   ·subst hx
    rw [if_pos rfl, if_pos (by omega)]
    simp [hb]
   ·constructor
    ·rintro (⟨h1, h2⟩ | h2)
     ·refine ⟨h1, ?_⟩
      rw [if_neg (by omega)]
      exact h2
     ·exact absurd h2 hx
    ·rintro ⟨h1, h2⟩
     rw [if_neg (by omega)] at h2
     exact .inl ⟨h1, h2⟩
theorem WkM.fold {n : Nat} : ∀ (l : List Int) {st : List Bool × List Int}, WkM n st → (∀ b ∈ l, 0 ≤ b ∧ b < n) → WkM n (l.foldl seeW st) ∧ (∀ x, x ∈ (l.foldl seeW st).2 ↔ x ∈ st.2 ∨ x ∈ l) ∧ st.2 <+: (l.foldl seeW st).2
 | [], st, h, _ => ⟨h, fun x => by simp, List.prefix_refl _⟩
 | b :: r, st, h, hl => by
   obtain ⟨h1, h2, h3⟩ := h.see (hl b List.mem_cons_self)
   obtain ⟨h4, h5, h6⟩ := WkM.fold r h1 fun c hc => hl c (List.mem_cons_of_mem _ hc)
   refine ⟨h4, fun x => ?_, h3.trans h6⟩
   rw [List.foldl_cons, h5, h2, List.mem_cons, or_assoc]
def rowR (rows : List (List Int)) (x y : Int) : Prop := y ∈ rows.getD x.toNat []
theorem row_in {n : Nat} {rows : List (List Int)} (hr : rowsIn n rows) {x y : Int} (h : rowR rows x y) : 0 ≤ y ∧ y < n := by
 unfold rowR at h
 rw [List.getD_eq_getElem?_getD] at h
 cases hq : rows[x.toNat]? with
 | none => rw [hq] at h; simp at h
 | some r => rw [hq] at h; exact hr.2 r (List.mem_of_getElem? hq) y h
theorem prefix_get {α : Type} {l m : List α} (h : l <+: m) {i : Nat} {a : α} (ha : l[i]? = some a) : m[i]? = some a := by
 obtain ⟨t, rfl⟩ := h
 rw [List.getElem?_append_left (List.getElem?_eq_some_iff.1 ha).1]
 exact ha
theorem walk_spec {n : Nat} {rows : List (List Int)} (hr : rowsIn n rows) : ∀ (k i : Nat) {st : List Bool × List Int}, WkM n st → i ≤ st.2.length → n + 1 ≤ k + i → (∀ (m : Nat) (a : Int), m < i → st.2[m]? = some a → ∀ b, rowR rows a b → b ∈ st.2) →
  WkM n (walkF rows k i st) ∧ (∀ x ∈ st.2, x ∈ (walkF rows k i st).2) ∧ (∀ x ∈ (walkF rows k i st).2, ∀ b, rowR rows x b → b ∈ (walkF rows k i st).2) ∧ (∀ S : Int → Prop, (∀ x ∈ st.2, S x) → (∀ x b, S x → rowR rows x b → S b) → ∀ x ∈ (walkF rows k i st).2, S x)
 | 0, i, st, h, hi, hk, _ => by
   have := wkInv_len h.inv
   omega
 | k + 1, i, st, h, hi, hk, hc => by
   rw [walkF]
   split
   ·rename_i a ha
    have hlt := (List.getElem?_eq_some_iff.1 ha).1
    have hrow : ∀ b ∈ rows.getD a.toNat [], 0 ≤ b ∧ b < n := fun b hb => row_in hr hb
    obtain ⟨h1, h2, h3⟩ := h.fold (rows.getD a.toNat []) hrow
    obtain ⟨h4, h5, h6, h7⟩ := walk_spec hr k (i + 1) h1 (Nat.le_trans hlt h3.length_le) (by omega) fun m c hm hmc b hb => by
     rw [h2]
     rcases Nat.lt_or_ge m i with hmi | hmi
     ·have hml : m < st.2.length := by omega
      have hmc' : st.2[m]? = some c := by
       have := prefix_get h3 (List.getElem?_eq_getElem hml)
       rw [List.getElem?_eq_getElem hml, ← this, hmc]
      exact .inl (hc m c hmi hmc' b hb)
     ·obtain rfl : m = i := by omega
      have := prefix_get h3 ha
      rw [this] at hmc
      cases hmc
      exact .inr hb
    refine ⟨h4, fun x hx => h5 x ((h2 x).2 (.inl hx)), h6, fun S hS hcl => h7 S (fun x hx => ?_) hcl⟩
    rcases (h2 x).1 hx with hx | hx
    ·exact hS x hx
    ·exact hcl a x (hS a (List.mem_of_getElem? ha)) hx
   ·rename_i ha
    have hlen : st.2.length ≤ i := List.getElem?_eq_none_iff.1 ha
    refine ⟨h, fun x hx => hx, fun x hx b hb => ?_, fun S hS _ => hS⟩
    obtain ⟨m, hm⟩ := List.mem_iff_getElem?.1 hx
    exact hc m x (by have := (List.getElem?_eq_some_iff.1 hm).1; omega) hm b hb
theorem start_spec {n : Nat} : ∀ (l : List Int) {st : List Bool × List Int}, WkM n st → WkM n (l.foldl (fun st a => bif hasB n a then seeW st a else st) st) ∧ ∀ x, x ∈ (l.foldl (fun st a => bif hasB n a then seeW st a else st) st).2 ↔ x ∈ st.2 ∨ (x ∈ l ∧ hasB n x = true)
 | [], st, h => ⟨h, fun x => by simp⟩
 | a :: r, st, h => by
   rw [List.foldl_cons]
   cases hb : hasB n a with
   | true =>
     obtain ⟨h1, h2, _⟩ := h.see (hasB_iff hb)
     obtain ⟨h3, h4⟩ := start_spec r h1
     rw [cond_true]
     refine ⟨h3, fun x => ?_⟩
     rw [h4, h2, List.mem_cons]
     constructor
     ·rintro ((h5 | rfl) | ⟨h5, h6⟩)
      ·exact .inl h5
      ·exact .inr ⟨.inl rfl, hb⟩
      ·exact .inr ⟨.inr h5, h6⟩
     ·rintro (h5 | ⟨rfl | h5, h6⟩)
      ·exact .inl (.inl h5)
      ·exact .inl (.inr rfl)
      ·exact .inr ⟨h5, h6⟩
   | false =>
     obtain ⟨h3, h4⟩ := start_spec r h
     rw [cond_false]
     refine ⟨h3, fun x => ?_⟩
     rw [h4, List.mem_cons]
     constructor
     ·rintro (h5 | ⟨h5, h6⟩)
      ·exact .inl h5
      ·exact .inr ⟨.inr h5, h6⟩
     ·rintro (h5 | ⟨rfl | h5, h6⟩)
      ·exact .inl h5
      ·rw [hb] at h6; cases h6
      ·exact .inr ⟨h5, h6⟩
theorem lstI_iff : ∀ (l : List Bool) (i : Nat) (y : Int), y ∈ lstI i l ↔ ∃ k : Nat, l[k]? = some true ∧ y = ((i + k : Nat) : Int)
 | [], i, y => by simp [lstI]
 | b :: r, i, y => by
   have ih := lstI_iff r (i + 1) y
   have key : (∃ k : Nat, (b :: r)[k]? = some true ∧ y = ((i + k : Nat) : Int)) ↔ (b = true ∧ y = (i : Int)) ∨ ∃ k : Nat, r[k]? = some true ∧ y = ((i + 1 + k : Nat) : Int) := by
    constructor
    ·rintro ⟨k, h1, h2⟩
     cases k with
     | zero => simp at h1; exact .inl ⟨h1, by simpa using h2⟩
     | succ k => exact .inr ⟨k, by simpa using h1, by rw [h2]; omega⟩
    ·rintro (⟨h1, h2⟩ | ⟨k, h1, h2⟩)
     ·exact ⟨0, by simp [h1], by simpa using h2⟩
     ·exact ⟨k + 1, by simpa using h1, by rw [h2]; omega⟩
   rw [key, ← ih, lstI]
   cases b <;> simp
theorem reach_iff {n : Nat} {rows : List (List Int)} (hr : rowsIn n rows) (l : List Int) (y : Int) : y ∈ lstI 0 (reachB rows l) ↔ ∃ a ∈ l, hasB n a = true ∧ Rch (rowR rows) a y := by
 obtain ⟨h1, h2⟩ := start_spec (n := n) l (WkM.start n)
 obtain ⟨h3, h4, h5, h6⟩ := walk_spec hr (rows.length + 1) 0 (st := startW rows.length l) (by rw [hr.1]; exact h1) (Nat.zero_le _) (by rw [hr.1]; omega) (fun m a hm => by omega)
 have hst : ∀ x, x ∈ (startW rows.length l).2 ↔ x ∈ l ∧ hasB n x = true := fun x => by
  rw [hr.1]
  unfold startW
  rw [h2]
  simp
 have hmem : ∀ y, y ∈ lstI 0 (reachB rows l) ↔ y ∈ (walkF rows (rows.length + 1) 0 (startW rows.length l)).2 := fun y => by
  rw [lstI_iff, h3.mem]
  show (∃ k : Nat, (walkF rows (rows.length + 1) 0 (startW rows.length l)).1[k]? = some true ∧ _) ↔ _
  constructor
  ·rintro ⟨k, h7, h8⟩
   have hlt := (List.getElem?_eq_some_iff.1 h7).1
   rw [h3.inv.1] at hlt
   refine ⟨by omega, ?_⟩
   rw [h8, List.getD_eq_getElem?_getD]
   simp [h7]
  ·rintro ⟨h7, h8⟩
   have hlt : y.toNat < (walkF rows (rows.length + 1) 0 (startW rows.length l)).1.length := by rw [h3.inv.1]; omega
   refine ⟨y.toNat, ?_, by omega⟩
   rw [List.getD_eq_getElem?_getD, List.getElem?_eq_getElem hlt] at h8
   rw [List.getElem?_eq_getElem hlt]
   simpa using h8
 rw [hmem]
 constructor
 ·intro hy
  refine h6 (fun y => ∃ a ∈ l, hasB n a = true ∧ Rch (rowR rows) a y) (fun x hx => ?_) (fun x b ⟨a, h7, h8, h9⟩ hb => ⟨a, h7, h8, .tail h9 hb⟩) y hy
  obtain ⟨h7, h8⟩ := (hst x).1 hx
  exact ⟨x, h7, h8, .refl⟩
 ·rintro ⟨a, h7, h8, h9⟩
  exact h9.closed (S := fun y => y ∈ (walkF rows (rows.length + 1) 0 (startW rows.length l)).2) (fun x b hx hb => h5 x hx b hb) (h4 a ((hst a).2 ⟨h7, h8⟩))
open Go.Proofs
theorem insI_mem {l : List Int} {k : Nat} {b x : Int} : x ∈ insI l k b ↔ x ∈ l ∨ x = b := by
 unfold insI
 rw [List.mem_append, List.mem_cons]
 have : x ∈ l ↔ x ∈ l.take k ∨ x ∈ l.drop k := by rw [← List.mem_append, List.take_append_drop]
 rw [this]
 constructor
 ·rintro (h | h | h)
  ·exact .inl (.inl h)
  ·exact .inr h
  ·exact .inl (.inr h)
 ·rintro ((h | h) | h)
  ·exact .inl h
  ·exact .inr (.inr h)
  ·exact .inr (.inl h)
theorem addE_row {n : Nat} {g : List (List Int) × List (List Int)} (hl : g.1.length = n) (e : Int × Int) {x y : Int} (hx : 0 ≤ x ∧ x < n) : y ∈ (addE n g e).1.getD x.toNat [] ↔ y ∈ g.1.getD x.toNat [] ∨ ((x, y) = e ∧ hasB n y = true) := by
 rw [addE_1]
 cases hc : (hasB n e.1 && hasB n e.2 && !(g.1.getD e.1.toNat []).contains e.2) with
 | true =>
   simp only [Bool.and_eq_true, Bool.not_eq_true'] at hc
   obtain ⟨⟨h1, h2⟩, _⟩ := hc
   have h3 := hasB_iff h1
   rw [cond_true]
   unfold putR
   rw [List.getD_eq_getElem?_getD, List.getElem?_set]
   by_cases he : e.1.toNat = x.toNat
   ·rw [if_pos he, if_pos (by omega)]
    simp only [Option.getD_some]
    rw [insI_mem, ← he]
    have : x = e.1 := by omega
    constructor
    ·rintro (h | h)
     ·exact .inl h
     ·exact .inr ⟨by rw [this, h], by rw [h]; exact h2⟩
    ·rintro (h | ⟨h, _⟩)
     ·exact .inl h
     ·exact .inr (by rw [← h])
   ·rw [if_neg he, ← List.getD_eq_getElem?_getD]
    constructor
    ·exact .inl
    ·rintro (h | ⟨h, _⟩)
     ·exact h
     ·exact absurd (by rw [← h]) he
 | false =>
   rw [cond_false]
   constructor
   ·exact .inl
   ·rintro (h | ⟨rfl, h⟩)
    ·exact h
    ·have h1 : hasB n x = true := by unfold hasB; simp [hx]
     simp only [h1, h, Bool.true_and, Bool.not_eq_false'] at hc
     simpa using hc
theorem addE_len {n : Nat} {g : List (List Int) × List (List Int)} (hl : g.1.length = n) (e : Int × Int) : (addE n g e).1.length = n := by
 rw [addE_1]
 cases (hasB n e.1 && hasB n e.2 && !(g.1.getD e.1.toNat []).contains e.2) with
 | true => rw [cond_true]; unfold putR; rw [List.length_set]; exact hl
 | false => exact hl
theorem graph_row {n : Nat} {x y : Int} (hx : 0 ≤ x ∧ x < n) : ∀ (l : List (Int × Int)) {g : List (List Int) × List (List Int)}, g.1.length = n → (y ∈ (l.foldl (addE n) g).1.getD x.toNat [] ↔ y ∈ g.1.getD x.toNat [] ∨ ((x, y) ∈ l ∧ hasB n y = true))
 | [], g, _ => by simp
 | e :: r, g, h => by
   rw [List.foldl_cons, graph_row hx r (addE_len h e), addE_row h e hx, List.mem_cons]
   constructor
   ·rintro ((h1 | ⟨h1, h2⟩) | ⟨h1, h2⟩)
    ·exact .inl h1
    ·exact .inr ⟨.inl h1, h2⟩
    ·exact .inr ⟨.inr h1, h2⟩
   ·rintro (h1 | ⟨h1 | h1, h2⟩)
    ·exact .inl (.inl h1)
    ·exact .inl (.inr ⟨h1, h2⟩)
    ·exact .inr ⟨h1, h2⟩
theorem graph_rowR {n : Nat} {l : List (Int × Int)} {x y : Int} (hx : 0 ≤ x ∧ x < n) : rowR (graphE n l).1 x y ↔ (x, y) ∈ l ∧ hasB n y = true := by
 unfold rowR graphE
 rw [graph_row hx l (by simp)]
 have : (List.replicate n ([] : List Int)).getD x.toNat [] = [] := by
  rw [List.getD_eq_getElem?_getD, List.getElem?_replicate]
  split <;> rfl
 rw [this]
 simp
def stR (F : List Step) (a b : Int) : Prop := ∃ s ∈ F, s.src = a ∧ s.dst = b
def plP (p : Pg) (j : Nat) (f : Pr) (x : Int) : Prop := x = 0 ∨ x = -1 ∨ ((offN p.procs j : Int) + 1 ≤ x ∧ x ≤ (offN p.procs j + cntL f.body : Nat))
def ixI (p : Pg) (j : Nat) (f : Pr) (x : Int) : Int := indexI (loI p j) (hiI p j f) (cntL f.body + 2 : Nat) x
theorem ix_rng {p : Pg} {j : Nat} {f : Pr} {x : Int} (h : plP p j f x) : 0 ≤ ixI p j f x ∧ ixI p j f x < (cntL f.body + 2 : Nat) := by
 unfold ixI indexI loI hiI
 unfold plP at h
 (repeat' split) <;> omega
theorem ix_inj {p : Pg} {j : Nat} {f : Pr} {x y : Int} (hx : plP p j f x) (hy : plP p j f y) (h : ixI p j f x = ixI p j f y) : x = y := by
 unfold ixI indexI loI hiI at h
 unfold plP at hx hy
 (repeat' split at h) <;> omega
theorem real_places {p : Pg} (h : chkB p = true) {j : Nat} {f : Pr} (hj : p.procs[j]? = some f) : ∀ s ∈ (newWay p j f).real, plP p j f s.src ∧ plP p j f s.dst := fun s hs => by
 obtain ⟨_, h2⟩ := real_spec h hj
 obtain ⟨_, h3, _⟩ := chk_way h hj
 obtain ⟨h4, h5⟩ := h3 s ((h2 s).1 hs)
 unfold okI at h5
 unfold plP
 omega
open Go.Proofs
theorem tree_count : ∀ (k : Nat) (l : List S) (_ : cntL l < k) (_ : cntL l ≤ 1000000), SpecP Tryz.prog 80 [eSs l] (fun r => r = .int .i64 (cntL l)) := by
 intro k
 induction k with
 | zero => intro l h; omega
 | succ k ih =>
   intro l hk hl
   have hll := S.avs_len l
   have hlc : l.length ≤ cntL l := by
    clear hk hl hll
    induction l with
    | nil => simp
    | cons t r ihr => rw [cntL, cntS_eq, List.length_cons]; omega
   refine SpecP.body I_tree_count tabOK Tryz.func80 rfl Tryz.call80 (by show 1 ≤ _; decide) ?_
   conv => whnf
   repeat' (intro (_ : _ ≤ 9223372036854775807); conv => whnf)
   refine LoopK.inv tabOK (fun y : Nat × Nat => ⟨[(0, .p (eSs l)), (3, .p (.int .i64 y.2)), (8, .p (.int .i64 (S.avs l).length)), (9, .p (.int .i64 y.1))], []⟩) (fun y => y.1 ≤ l.length ∧ y.2 + cntL (l.drop y.1) = cntL l + (l.length - y.1)) (fun y => l.length - y.1) (0, l.length) (Le.of_eq (by simp only [S.avs_len]; rfl)) ⟨Nat.zero_le _, by simp; omega⟩ ?_
   rintro ⟨j, n⟩ ⟨h2, h3⟩
   simp only at h2 h3 ⊢
   rcases Nat.lt_or_ge j l.length with hj | hj
   ·have hst := cntL_step hj
    have hcs := cntS_eq l[j]
    have h4 : cntL (l.drop j) ≤ cntL l := by
     have : ∀ (l : List S) (j : Nat), cntL (l.drop j) ≤ cntL l := fun l => by
      induction l with
      | nil => intro j; simp
      | cons t r ihr =>
        intro j
        cases j with
        | zero => simp
        | succ j => rw [List.drop_succ_cons, cntL]; have := ihr j; omega
     exact this l j
    conv => whnf
    repeat' (first | ((first | (refine DrawK.auto tabOK mixed (by kernel_rfl) ?_) | (refine IdxK.ss (by omega) ?_) | (refine Wr.i64 (by omega) (by omega) ?_) | (refine CallK.pure (ih l[j].thn (by omega) (by omega)) (.cons (Sub.refl _) .nil) ?_; rintro _ rfl) | (refine CallK.pure (ih l[j].els (by omega) (by omega)) (.cons (Sub.refl _) .nil) ?_; rintro _ rfl)); conv => whnf) | (refine Br.dec (fun _ => ?_) (fun _ => ?_) <;> first | (exfalso; omega) | conv => whnf))
    all_goals exact ⟨(j + 1, n + (cntL l[j].thn + cntL l[j].els)), ⟨by simp only; omega, by simp only; omega⟩, by simp only; omega, Le.of_eq rfl⟩
   ·conv => whnf
    rw [List.drop_eq_nil_of_le hj, cntL] at h3
    repeat' (refine Br.dec (fun _ => ?_) (fun _ => ?_) <;> first | (exfalso; omega) | conv => whnf)
    exact RetK.int (by omega)
theorem tree_Count (p : Pg) (hc : cntP p.procs ≤ 1000) : SpecP Tryz.prog 18 [.agg p.cells] (fun r => r = .int .i64 (cntP p.procs)) := by
 refine SpecP.body I_tree_Count tabOK Tryz.func18 rfl Tryz.call18 (by show 1 ≤ _; decide) ?_
 conv => whnf
 have hl2 : (p.procs.map fun f => AV.agg f.cells).length = p.procs.length := List.length_map _
 repeat' (intro (_ : _ ≤ 9223372036854775807); conv => whnf)
 refine LoopK.inv tabOK (fun y : Nat × Nat => ⟨[(3, .p (.int .i64 y.2)), (7, .p (.sl (p.procs.map fun f => .agg f.cells))), (8, .p (.int .i64 (p.procs.map fun f => AV.agg f.cells).length)), (9, .p (.int .i64 y.1))], []⟩) (fun y => y.1 ≤ p.procs.length ∧ y.2 + cntP (p.procs.drop y.1) = cntP p.procs) (fun y => p.procs.length - y.1) (0, 0) (Le.of_eq rfl) ⟨Nat.zero_le _, by simp⟩ ?_
 rintro ⟨j, n⟩ ⟨h2, h3⟩
 simp only at h2 h3 ⊢
 rcases Nat.lt_or_ge j p.procs.length with hj | hj
 ·have hst := cntP_step hj
  have hcm := cntP_mem _ _ (List.getElem_mem hj)
  conv => whnf
  repeat' (first | ((first | (refine And.intro rfl ?_) | (refine IdxK.map (by omega) (fun _ => rfl) ?_) | (refine Wr.i64 (by omega) (by omega) ?_) | (refine CallK.pure (tree_count (cntL p.procs[j].body+1) p.procs[j].body (by omega) (by omega)) (.cons (Sub.refl _) .nil) ?_; rintro _ rfl)); conv => whnf) | (refine Br.dec (fun _ => ?_) (fun _ => ?_) <;> first | (exfalso; omega) | conv => whnf))
  exact ⟨(j + 1, n + cntL p.procs[j].body), ⟨by simp only; omega, by simp only; omega⟩, by simp only; omega, Le.of_eq rfl⟩
 ·conv => whnf
  rw [List.drop_eq_nil_of_le hj, cntP] at h3
  repeat' (refine Br.dec (fun _ => ?_) (fun _ => ?_) <;> first | (exfalso; omega) | conv => whnf)
  exact RetK.int (by omega)
def smallB (p : Pg) (most : Int) : Bool := chkB p && decide ((cntP p.procs : Int) ≤ most)
open Go.Proofs
def frR (steps : List Step) (at_ : Int) (but : List Int) (a b : Int) : Prop := (a = at_ ∨ hasI but a = false) ∧ ∃ s ∈ steps, s.src = a ∧ s.dst = b
structure FrI (steps : List Step) (at_ : Int) (but : List Int) (n : Nat) (l : List Int) : Prop where
 le : n ≤ l.length
 hd : l[0]? = some at_
 nd : l.Nodup
 sub : ∀ x ∈ l, x ∈ at_ :: steps.map Step.dst
 snd : ∀ x ∈ l, Rch (frR steps at_ but) at_ x
 cl : ∀ (m : Nat) (a : Int), m < n → l[m]? = some a → ∀ b, frR steps at_ but a b → b ∈ l
theorem FrI.len {steps : List Step} {at_ : Int} {but : List Int} {n : Nat} {l : List Int} (h : FrI steps at_ but n l) : l.length ≤ steps.length + 1 := by
 have := nodup_len h.nd h.sub
 simpa using this
theorem FrI.start (steps : List Step) (at_ : Int) (but : List Int) : FrI steps at_ but 0 [at_] := ⟨Nat.zero_le _, rfl, by simp, by simp, fun x hx => by rw [List.mem_singleton.1 hx]; exact .refl, fun m a hm => by omega⟩
theorem FrI.add {steps : List Step} {at_ : Int} {but : List Int} {n : Nat} {l : List Int} (h : FrI steps at_ but n l) {a b : Int} (ha : a ∈ l) (hb : frR steps at_ but a b) (hn : hasI l b = false) : FrI steps at_ but n (l ++ [b]) := by
 have hnm : b ∉ l := fun hm => by rw [hasI_iff.2 hm] at hn; cases hn
 have h0 : 0 < l.length := (List.getElem?_eq_some_iff.1 h.hd).1
 refine ⟨by rw [List.length_append]; have := h.le; omega, by rw [List.getElem?_append_left h0]; exact h.hd, ?_, fun x hx => ?_, fun x hx => ?_, fun m c hm hc d hd => ?_⟩
 ·rw [List.nodup_append]
  refine ⟨h.nd, by simp, fun x hx y hy => ?_⟩
  rw [List.mem_singleton.1 hy]
  exact fun e => hnm (e ▸ hx)
 ·rcases List.mem_append.1 hx with hx | hx
  ·exact h.sub x hx
  ·rw [List.mem_singleton.1 hx]
   obtain ⟨_, s, hs, _, h2⟩ := hb
   exact List.mem_cons_of_mem _ (List.mem_map.2 ⟨s, hs, h2⟩)
 ·rcases List.mem_append.1 hx with hx | hx
  ·exact h.snd x hx
  ·rw [List.mem_singleton.1 hx]
   exact .tail (h.snd a ha) hb
 ·rcases Nat.lt_or_ge m l.length with hml | hml
  ·rw [List.getElem?_append_left hml] at hc
   exact List.mem_append.2 (.inl (h.cl m c hm hc d hd))
  ·have := h.le
   omega
theorem FrI.fin {steps : List Step} {at_ : Int} {but : List Int} {l : List Int} (h : FrI steps at_ but l.length l) (x : Int) : x ∈ l ↔ Rch (frR steps at_ but) at_ x := by
 refine ⟨h.snd x, fun hr => hr.closed (S := fun x => x ∈ l) (fun a b ha hb => ?_) (List.mem_of_getElem? h.hd)⟩
 obtain ⟨m, hm⟩ := List.mem_iff_getElem?.1 ha
 exact h.cl m a (List.getElem?_eq_some_iff.1 hm).1 hm b hb
theorem FrI.next {steps : List Step} {at_ : Int} {but : List Int} {n : Nat} {l : List Int} (h : FrI steps at_ but n l) (hn : n < l.length) (hc : ∀ b, frR steps at_ but l[n] b → b ∈ l) : FrI steps at_ but (n + 1) l := by
 refine ⟨hn, h.hd, h.nd, h.sub, h.snd, fun m a hm ha b hb => ?_⟩
 rcases Nat.lt_or_ge m n with hmn | hmn
 ·exact h.cl m a hmn ha b hb
 ·obtain rfl : m = n := by omega
  rw [List.getElem?_eq_getElem hn] at ha
  cases ha
  exact hc b hb
open Go.Proofs
theorem DrawK.frz {P : Program} {T : Tab} {N : Nat} {ops : Array Oper} {info : Info} {id : Nat} {K : St → Prop} {s : St} (gs : List (List Nat)) (h : frzK gs s fun s' => DrawK P T N info id ops K s') : DrawK P T N info id ops K s := by
 obtain ⟨s', h1, h2⟩ := frzK_spec (N := N) h
 exact DrawK.le h2 h1
theorem stAt_own {p : Pg} (h : chkB p = true) {j : Nat} {f : Pr} (hj : p.procs[j]? = some f) {a : Int} (h1 : (offN p.procs j : Int) + 1 ≤ a) (h2 : a ≤ (offN p.procs j + cntL f.body : Nat)) : ∃ t ∈ flL f.body, stAt p a = some t ∧ t.id = a := by
 obtain ⟨it, h3, h4⟩ := sheet_its hj (k := (a - 1).toNat) (by omega) (by omega)
 refine ⟨it.s, its_s h4, by unfold stAt; rw [h3]; rfl, ?_⟩
 obtain ⟨_, _, _, hlen, hsp⟩ := sheet_spec p
 obtain ⟨_, _, hle, hd⟩ := hsp j f hj
 have hids := its_ids (chk_parts h).1 hj
 have h5 : (itsOf p j f)[(a - 1).toNat - offN p.procs j]? = some it := by
  unfold itsOf
  rw [← hd, List.getElem?_drop, List.getElem?_take, if_pos (by omega), show offN p.procs j + ((a - 1).toNat - offN p.procs j) = (a - 1).toNat by omega]
  exact h3
 have h6 : ((itsOf p j f).map fun it => it.s.id)[(a - 1).toNat - offN p.procs j]? = some it.s.id := by rw [List.getElem?_map, h5]; rfl
 rw [hids] at h6
 unfold idsN at h6
 rw [List.getElem?_map, List.getElem?_range' (by omega)] at h6
 simp at h6
 omega
open Go.Proofs
theorem mem_compact {l : List Str} {s : Str} (h : s ∈ l) : s ∈ Go.Lib.compact l := by
 have key : ∀ (j : Nat) (hj : j < l.length), l[j] ∈ Go.Lib.compact l := fun j => by
  induction j with
  | zero =>
    intro hj
    refine List.mem_map.2 ⟨0, List.mem_filter.2 ⟨by simpa using hj, by simp [Go.Lib.keeps]⟩, ?_⟩
    simp [hj]
  | succ j ih =>
    intro hj
    cases hk : Go.Lib.keeps l.toArray (j + 1) with
    | true =>
      refine List.mem_map.2 ⟨j + 1, List.mem_filter.2 ⟨by simpa using hj, hk⟩, ?_⟩
      simp [hj]
    | false =>
      have hj' : j < l.length := by omega
      have : l[j + 1] = l[j] := by
       unfold Go.Lib.keeps at hk
       simp [hj, hj'] at hk
       exact hk
      rw [this]
      exact ih hj'
 obtain ⟨j, hj, rfl⟩ := List.mem_iff_getElem.1 h
 exact key j hj
theorem mem_compact_iff {l : List Str} {s : Str} : s ∈ Go.Lib.compact l ↔ s ∈ l := ⟨compact_mem, mem_compact⟩
theorem callsL_mem {f : Pr} {s : Str} : s ∈ callsL f ↔ ∃ t ∈ flL f.body, t.kind = 4 ∧ t.proc = s := by
 unfold callsL callsRaw
 rw [mem_compact_iff, sortS_mem, List.mem_map]
 simp only [List.mem_filter, decide_eq_true_eq, and_assoc]
theorem addAll_mem {s : Str} : ∀ (l out : List Str), s ∈ addAll out l ↔ s ∈ out ∨ s ∈ l
 | [], out => by rw [addAll]; simp
 | n :: r, out => by
   rw [addAll, addAll_mem r]
   split
   ·rename_i h
    obtain ⟨m, hm, he⟩ := List.any_eq_true.1 h
    have : n = m := by simpa using he
    subst this
    constructor
    ·rintro (h | h)
     ·exact .inl h
     ·exact .inr (List.mem_cons_of_mem _ h)
    ·rintro (h | h)
     ·exact .inl h
     ·rcases List.mem_cons.1 h with rfl | h
      ·exact .inl hm
      ·exact .inr h
   ·simp only [List.mem_append, List.mem_cons, List.not_mem_nil, or_assoc, false_or]
theorem addAll_pre : ∀ (l out : List Str), ∃ r, addAll out l = out ++ r
 | [], out => ⟨[], by rw [addAll]; simp⟩
 | n :: r, out => by
   rw [addAll]
   split
   ·exact addAll_pre r out
   ·obtain ⟨r', h⟩ := addAll_pre r (out ++ [n])
    exact ⟨n :: r', by rw [h]; simp⟩
theorem reachN_spec {p : Pg} (hs : (scopeB p).1 = 0) (n : Str) : ∀ (fuel i : Nat) (out : List Str), out.Nodup → (∀ s ∈ out, s ∈ procsN p) → (∀ s ∈ out, Rch (fun x y => y ∈ callsN p x) n s) → n ∈ out → i ≤ out.length → (∀ (j : Nat) (m : Str), j < i → out[j]? = some m → ∀ y ∈ callsN p m, y ∈ out) → p.procs.length + 1 ≤ fuel + i →
  (∀ s ∈ reachN p fuel i out, Rch (fun x y => y ∈ callsN p x) n s) ∧ n ∈ reachN p fuel i out ∧ ∀ m ∈ reachN p fuel i out, ∀ y ∈ callsN p m, y ∈ reachN p fuel i out
 | 0, i, out, h1, h2, h3, h4, h5, h6, h7 => by
   have := sub_len h1 h2
   have hl : (procsN p).length = p.procs.length := List.length_map _
   omega
 | fuel + 1, i, out, h1, h2, h3, h4, h5, h6, h7 => by
   rw [reachN]
   cases ho : out[i]? with
   | none =>
     have hi : out.length ≤ i := List.getElem?_eq_none_iff.1 ho
     refine ⟨h3, h4, fun m hm y hy => ?_⟩
     have hm : m ∈ out := hm
     show y ∈ out
     obtain ⟨j, hj, rfl⟩ := List.mem_iff_getElem.1 hm
     exact h6 j _ (by omega) (List.getElem?_eq_getElem hj) y hy
   | some m =>
     have hi := (List.getElem?_eq_some_iff.1 ho).1
     have hm : m ∈ out := List.mem_of_getElem? ho
     obtain ⟨g1, g2, _⟩ := addAll_inv (callsN p m) h1 h2 fun s h => callsN_known hs h
     obtain ⟨r, hr⟩ := addAll_pre (callsN p m) out
     refine reachN_spec hs n fuel (i + 1) (addAll out (callsN p m)) g1 g2 (fun s h => ?_) ((addAll_mem _ _).2 (.inl h4)) (by rw [hr, List.length_append]; omega) (fun j m' hj hm' y hy => ?_) (by omega)
     ·rcases (addAll_mem _ _).1 h with h | h
      ·exact h3 s h
      ·exact .tail (h3 m hm) h
     ·rw [hr, List.getElem?_append_left (by omega)] at hm'
      rcases Nat.lt_or_ge j i with h | h
      ·exact (addAll_mem _ _).2 (.inl (h6 j m' h hm' y hy))
      ·have : j = i := by omega
       subst this
       rw [ho] at hm'
       cases hm'
       exact (addAll_mem _ _).2 (.inr hy)
theorem allN_mem {p : Pg} (hs : (scopeB p).1 = 0) {n s : Str} (hn : n ∈ procsN p) : s ∈ allN p n ↔ Rch (fun x y => y ∈ callsN p x) n s := by
 obtain ⟨h1, h2, h3⟩ := reachN_spec hs n (p.procs.length + 1) 0 [n] (by simp) (by simpa using hn) (fun s h => by rcases List.mem_singleton.1 h with rfl; exact .refl) (by simp) (Nat.zero_le _) (fun j m h => absurd h (by omega)) (by omega)
 unfold allN
 rw [sortS_mem]
 exact ⟨h1 s, fun h => Rch.closed (fun x y hx hy => h3 x hx y hy) h2 h⟩
theorem globL_mem {p : Pg} (hs : (scopeB p).1 = 0) {n v : Str} (hn : n ∈ procsN p) : v ∈ globL p n ↔ ∃ m, Rch (fun x y => y ∈ callsN p x) n m ∧ v ∈ globN p m := by
 unfold globL globRaw
 rw [mem_compact_iff, sortS_mem, List.mem_flatMap]
 simp only [allN_mem hs hn]
theorem callsN_sw (a b : Str) (p : Pg) (x z : Str) : z ∈ callsN (swPg a b p) (otherS a b x) ↔ ∃ y ∈ callsN p x, z = otherS a b y := by
 unfold callsN
 rw [find_proc_sw]
 cases p.procs.find? fun f => f.name == x with
 | none => simp
 | some f =>
   simp only [Option.map_some, callsL_mem, show (swPr a b f).body = swL a b f.body from rfl, flL_sw, List.mem_map]
   constructor
   ·rintro ⟨_, ⟨t, h1, rfl⟩, h2, rfl⟩
    exact ⟨t.proc, ⟨t, h1, by rw [← h2, swS_kind], rfl⟩, swS_proc a b t⟩
   ·rintro ⟨_, ⟨t, h1, h2, rfl⟩, rfl⟩
    exact ⟨_, ⟨t, h1, rfl⟩, by rw [swS_kind, h2], swS_proc a b t⟩
theorem rchC_sw (a b : Str) (p : Pg) (n z : Str) : Rch (fun x y => y ∈ callsN (swPg a b p) x) (otherS a b n) z ↔ ∃ y, Rch (fun x y => y ∈ callsN p x) n y ∧ z = otherS a b y := by
 constructor
 ·intro h
  induction h with
  | refl => exact ⟨n, .refl, rfl⟩
  | tail _ hr ih =>
    obtain ⟨y, h1, rfl⟩ := ih
    obtain ⟨w, h2, rfl⟩ := (callsN_sw a b p y _).1 hr
    exact ⟨w, .tail h1 h2, rfl⟩
 ·rintro ⟨y, h, rfl⟩
  induction h with
  | refl => exact .refl
  | tail _ hr ih => exact .tail ih ((callsN_sw a b p _ _).2 ⟨_, hr, rfl⟩)
theorem globN_sw {a b : Str} (h : Ren a b) (p : Pg) (m : Str) : globN (swPg a b p) (otherS a b m) = (globN p m).map (otherS a b) := by
 unfold globN
 rw [find_proc_sw]
 cases p.procs.find? fun f => f.name == m with
 | none => rfl
 | some f =>
   simp only [Option.map_some, show (swPr a b f).body = swL a b f.body from rfl, flL_sw, List.flatMap_map, List.map_flatMap]
   congr 1
   funext t
   unfold globT
   rw [namesT_sw h, List.filter_map]
   congr 1
   apply List.filter_congr
   intro v _
   exact any_sw a b v p.globals
theorem mem_any {l : List Str} {v : Str} : (l.any fun s => v == s) = true ↔ v ∈ l := by
 rw [List.any_eq_true]
 constructor
 ·rintro ⟨s, h1, h2⟩
  rwa [show v = s by simpa using h2]
 ·exact fun h => ⟨v, h, by simp⟩
theorem known_sw {a b : Str} {p : Pg} {n : Str} (hn : n ∈ procsN p) : otherS a b n ∈ procsN (swPg a b p) := by
 rw [procsN_sw]
 exact List.mem_map_of_mem hn
theorem globL_sw {a b : Str} (h : Ren a b) {p : Pg} (hs : (scopeB p).1 = 0) {n : Str} (hn : n ∈ procsN p) (v : Str) : ((globL (swPg a b p) (otherS a b n)).any fun s => otherS a b v == s) = (globL p n).any fun s => v == s := by
 rw [Bool.eq_iff_iff, mem_any, mem_any, globL_mem (by rw [scopeB_sw h]; exact hs) (known_sw hn), globL_mem hs hn]
 constructor
 ·rintro ⟨m, h1, h2⟩
  obtain ⟨y, h3, rfl⟩ := (rchC_sw a b p n m).1 h1
  rw [globN_sw h] at h2
  obtain ⟨w, h4, h5⟩ := List.mem_map.1 h2
  exact ⟨y, h3, by rwa [← other_inj h5]⟩
 ·rintro ⟨m, h1, h2⟩
  exact ⟨_, (rchC_sw a b p n _).2 ⟨m, h1, rfl⟩, by rw [globN_sw h]; exact List.mem_map_of_mem h2⟩
theorem singleR_sw (a b nm : Str) {T T' : List Str} (hT : ∀ v, (T'.any fun s => otherS a b v == s) = T.any fun s => v == s) : ∀ (l : List Arg) (seen : List Str), singleR (otherS a b nm) T' (l.map (swA a b)) (seen.map (otherS a b)) = singleR nm T l seen
 | [], seen => rfl
 | x :: r, seen => by
   rw [List.map_cons, singleR, singleR, show (swA a b x).ref = x.ref from rfl, show (swA a b x).name = otherS a b x.name from rfl, any_sw, other_beq, hT, singleR_sw a b nm hT r]
   have := singleR_sw a b nm hT r (seen ++ [x.name])
   rw [List.map_append] at this
   rw [show [otherS a b x.name] = [x.name].map (otherS a b) from rfl, this]
theorem find_congr' {α : Type} {p q : α → Bool} : ∀ {l : List α}, (∀ x ∈ l, p x = q x) → l.find? p = l.find? q
 | [], _ => rfl
 | x :: r, h => by
   rw [List.find?_cons, List.find?_cons, h x List.mem_cons_self, find_congr' fun y hy => h y (List.mem_cons_of_mem _ hy)]
theorem aliasB_sw {a b : Str} (h : Ren a b) (p : Pg) : aliasB (swPg a b p) = aliasB p := by
 unfold aliasB
 rw [arityB_sw h]
 by_cases ha : (arityB p).1 = 0
 ·rw [if_neg (by omega), if_neg (by omega)]
  have hs := (arity_ok ha).1
  rw [stmts_sw, List.find?_map]
  have e : (stmts p).find? ((fun t : S => decide (t.kind = 4) && !singleR t.name (globL (swPg a b p) t.proc) t.args []) ∘ swS a b) = (stmts p).find? fun t => decide (t.kind = 4) && !singleR t.name (globL p t.proc) t.args [] := by
   refine find_congr' fun t ht => ?_
   show (decide ((swS a b t).kind = 4) && !singleR (swS a b t).name (globL (swPg a b p) (swS a b t).proc) (swS a b t).args []) = _
   rw [swS_kind, swS_name, swS_proc, swS_args]
   by_cases hk : t.kind = 4
   ·obtain ⟨f, hf, htf⟩ := List.mem_flatMap.1 ht
    have := singleR_sw a b t.name (globL_sw h hs (scope_call hs hf htf hk).1) t.args []
    rw [← this]
    rfl
   ·rw [decide_eq_false hk]
    rfl
  rw [e]
  cases (stmts p).find? fun t => decide (t.kind = 4) && !singleR t.name (globL p t.proc) t.args [] with
  | none => rfl
  | some t =>
    show ((8 : Int), (swS a b t).id) = _
    rw [swS_id]
 ·rw [if_pos ha, if_pos ha]
theorem chkB_sw {a b : Str} (h : Ren a b) (p : Pg) : chkB (swPg a b p) = chkB p := by
 unfold chkB allB
 rw [mayB_sw h, scopeB_sw h, arityB_sw h, jumpB_sw h, aliasB_sw h]
theorem newL_sw (a b : Str) : ∀ (l : List Pr) (i : Nat) (acc : List Item) (lo hi : List Int), (newL i (acc.map (swI a b)) lo hi (l.map (swPr a b))).1 = (newL i acc lo hi l).1.map (swI a b)
 | [], i, acc, lo, hi => rfl
 | f :: r, i, acc, lo, hi => by
   have e : rowsF i 0 (-1) 0 (acc.map (swI a b)) (swPr a b f).body = (rowsF i 0 (-1) 0 acc f.body).map (swI a b) := by
    rw [rowsF_it, rowsF_it, show (swPr a b f).body = swL a b f.body from rfl, itL_sw, List.map_append, List.length_map]
   rw [List.map_cons, newL, newL, e, newL_sw a b r, List.length_map, List.length_map]
theorem sheet_sw (a b : Str) (p : Pg) : (sheetOf (swPg a b p)).l = (sheetOf p).l.map (swI a b) := newL_sw a b p.procs 0 [] [] []
theorem headI_sw (a b : Str) (l : List S) (o : Int) : headI (swL a b l) o = headI l o := by
 cases l with
 | nil => rw [swL]
 | cons t r => rw [swL]; exact swS_id a b t
theorem goesI_sw (a b : Str) (p : Pg) (f : Pr) (it : Item) : goesI (sheetOf (swPg a b p)) (swPr a b f) (swI a b it) = goesI (sheetOf p) f it := by
 unfold goesI
 have e : ((sheetOf (swPg a b p)).l[((swI a b it).loop - 1).toNat]?).map Item.next = ((sheetOf p).l[(it.loop - 1).toNat]?).map Item.next := by
  rw [sheet_sw, List.getElem?_map, Option.map_map]
  rfl
 rw [e]
 unfold swI
 simp only [swS_kind, swS_thn, swS_els, swS_id, swS_name, headI_sw, atB_sw]
theorem stepsRaw_sw (a b : Str) (p : Pg) (j : Nat) (f : Pr) : stepsRaw (swPg a b p) j (swPr a b f) = stepsRaw p j f := by
 unfold stepsRaw
 rw [show (swPg a b p).procs = p.procs.map (swPr a b) from rfl, offN_sw, show (swPr a b f).body = swL a b f.body from rfl, cntL_sw, itL_sw, List.flatMap_map]
 congr 2
 funext it
 rw [goesI_sw, show (swI a b it).s.id = it.s.id from swS_id a b it.s]
theorem loI_sw (a b : Str) (p : Pg) (j : Nat) : loI (swPg a b p) j = loI p j := by
 unfold loI
 rw [show (swPg a b p).procs = p.procs.map (swPr a b) from rfl, offN_sw]
theorem hiI_sw (a b : Str) (p : Pg) (j : Nat) (f : Pr) : hiI (swPg a b p) j (swPr a b f) = hiI p j f := by
 unfold hiI
 rw [show (swPg a b p).procs = p.procs.map (swPr a b) from rfl, offN_sw, show (swPr a b f).body = swL a b f.body from rfl, cntL_sw]
theorem ixP_sw (a b : Str) (p : Pg) (j : Nat) (f : Pr) (n : Int) : ixP (swPg a b p) j (swPr a b f) n = ixP p j f n := by
 funext s
 unfold ixP
 rw [loI_sw, hiI_sw]
def swW (a b : Str) (w : Way) : Way := ⟨swPg a b w.p, w.j, w.n, w.real, w.live⟩
theorem newWay_sw (a b : Str) (p : Pg) (j : Nat) (f : Pr) : newWay (swPg a b p) j (swPr a b f) = swW a b (newWay p j f) := by
 unfold newWay swW
 simp only
 rw [stepsRaw_sw, ixP_sw, show (swPr a b f).body = swL a b f.body from rfl, cntL_sw]
theorem wayO_sw {a b : Str} (h : Ren a b) (p : Pg) (n : Str) : wayO (swPg a b p) (otherS a b n) = (wayO p n).map (swW a b) := by
 unfold wayO
 rw [chkB_sw h, find_proc_sw]
 have e : (swPg a b p).procs.findIdx (fun f => f.name == otherS a b n) = p.procs.findIdx fun f => f.name == n := by
  show (p.procs.map (swPr a b)).findIdx _ = _
  rw [List.findIdx_map]
  congr 1
  funext f
  exact other_beq a b f.name n
 rw [e]
 cases chkB p with
 | false => rfl
 | true =>
   cases p.procs.find? fun f => f.name == n with
   | none => rfl
   | some f =>
     show some (newWay (swPg a b p) _ (swPr a b f)) = _
     rw [newWay_sw]
     rfl
theorem ofR_sw {a b : Str} (h : Ren a b) (p : Pg) (n : Str) : ofR (swPg a b p) (otherS a b n) = ofR p n := by
 unfold ofR
 rw [wayO_sw h]
 cases wayO p n <;> rfl
theorem stAt_sw (a b : Str) (p : Pg) (id : Int) : stAt (swPg a b p) id = (stAt p id).map (swS a b) := by
 unfold stAt
 rw [sheet_sw, List.getElem?_map, Option.map_map, Option.map_map]
 rfl
theorem procAt_sw {a b : Str} (h : Ren a b) (p : Pg) (n : Int) : procAtR (swPg a b p) n = otherS a b (procAtR p n) := by
 unfold procAtR
 rw [show (swPg a b p).procs = p.procs.map (swPr a b) from rfl, List.length_map, List.getElem?_map]
 cases p.procs[(modI n p.procs.length).toNat]? with
 | none => exact h.nil.symm
 | some f => rfl
theorem wTxs_sw (a b : Str) : ∀ l : List Str, wTxs (l.map (otherS a b)) = wTxs l
 | [] => rfl
 | s :: r => by rw [List.map_cons, wTxs, wTxs, wTxs_sw a b r]
mutual
theorem wX_sw (a b : Str) : ∀ x : X, wX (swX a b x) = wX x
 | .mk _ _ name kids => by rw [swX, wX, wX, wXs_sw a b kids]
theorem wXs_sw (a b : Str) : ∀ l : List X, wXs (swXs a b l) = wXs l
 | [] => by rw [swXs]
 | x :: r => by rw [swXs, wXs, wXs, wX_sw a b x, wXs_sw a b r]
end
theorem wArgs_sw (a b : Str) : ∀ l : List Arg, wArgs (l.map (swA a b)) = wArgs l
 | [] => rfl
 | x :: r => by rw [List.map_cons, wArgs, wArgs, wArgs_sw a b r, show (swA a b x).x = swX a b x.x from rfl, wX_sw]
mutual
theorem wS_sw (a b : Str) : ∀ s : S, wS (swS a b s) = wS s
 | .mk id kind labels name proc x has args thn els => by rw [swS, wS, wS, wX_sw, wTxs_sw, wArgs_sw, wL_sw a b thn, wL_sw a b els]
theorem wL_sw (a b : Str) : ∀ l : List S, wL (swL a b l) = wL l
 | [] => by rw [swL]
 | t :: r => by rw [swL, wL, wL, wS_sw a b t, wL_sw a b r]
end
theorem wPms_sw (a b : Str) : ∀ l : List Param, wPms (l.map (swPm a b)) = wPms l
 | [] => rfl
 | x :: r => by rw [List.map_cons, wPms, wPms, wPms_sw a b r]
theorem wPrs_sw (a b : Str) : ∀ l : List Pr, wPrs (l.map (swPr a b)) = wPrs l
 | [] => rfl
 | f :: r => by
   rw [List.map_cons, wPrs, wPrs, wPrs_sw a b r]
   unfold wPr swPr
   simp only
   rw [wTxs_sw, wTxs_sw, wPms_sw, wL_sw]
theorem fit_sw {a b : Str} {p : Pg} (h : Fit p) : Fit (swPg a b p) := by
 unfold Fit wPg swPg at *
 simp only
 rw [wTxs_sw, wPrs_sw]
 exact h
open Go.Proofs
def aggSK (k t : Nat) (cs : List AV) : List (Nat × LV) → (List (Nat × LV) → Prop) → Prop
 | [], K => K []
 | (j, l) :: r, K => bif Nat.beq j t then aggSK k t cs r fun r => K ((j, .p (.agg cs)) :: r) else forceLV (l.kill k) fun l => aggSK k t cs r fun r => K ((j, l) :: r)
theorem aggSK_spec {k t : Nat} {cs : List AV} : ∀ {sl : List (Nat × LV)} {K : List (Nat × LV) → Prop}, aggSK k t cs sl K → ∃ sl', K sl' ∧ ∀ i, getS sl' i = (getS sl i).kill k ∨ (i = t ∧ getS sl' i = .p (.agg cs))
 | [], _, h => ⟨[], h, fun _ => .inl rfl⟩
 | (j, l) :: r, K, h => by
   unfold aggSK at h
   cases hb : Nat.beq j t with
   | true =>
     rw [hb, cond_true] at h
     have hj : j = t := Nat.eq_of_beq_eq_true hb
     obtain ⟨sl', hK, hs⟩ := aggSK_spec h
     refine ⟨_, hK, fun i => ?_⟩
     simp only [getS]
     cases hi : j == i with
     | true => exact .inr ⟨by rw [← hj]; exact (by simpa using hi : j = i).symm, rfl⟩
     | false => exact hs i
   | false =>
     rw [hb, cond_false, forceLV_eq] at h
     obtain ⟨sl', hK, hs⟩ := aggSK_spec h
     refine ⟨_, hK, fun i => ?_⟩
     simp only [getS]
     cases hi : j == i with
     | true => exact .inl rfl
     | false => exact hs i
theorem Le.rowAgg {N : Nat} {s : St} {k : Nat} {e : TypeId} {sz : Nat} {es : List AV} {t : Nat} {ls : List LV} {cs : List AV} (hg : getH s.H k = some (.own e sz es)) (ht : getS s.sl t = .agg ls) (hln : ls.length = cs.length)
  (hcs : ∀ (j : Nat) (l : LV) (c : AV), ls[j]? = some l → cs[j]? = some c → (∃ a, l = .p a ∧ Sub a c) ∨ (∃ n, l = .hd k 0 n ∧ n = es.length ∧ c = .sl es)) {K : St → Prop} (h : aggSK k t cs s.sl fun sl => rowHK k s.H fun H => K ⟨sl, H⟩) : ∃ s', K s' ∧ Le N s s' := by
 obtain ⟨sl, h, hsl⟩ := aggSK_spec h
 obtain ⟨H, h, hsub, hH⟩ := rowHK_spec h
 have agg : ∀ {σ τ : Mem} {β : Lab} {v : Value}, σ.le τ → RepL σ β (.agg ls) v → (∀ v, RepL σ β (.hd k 0 es.length) v → Rep τ (.sl es) v) → Rep τ (.agg cs) v := fun {σ τ β v} hle hv hrow => by
  cases hv with
  | agg _ vs u hn hc hrr =>
    refine Rep.agg cs vs u (by rw [hn, hln]) (fun j c hj => ?_) fun j c hj => ?_
    ·have hlt : j < ls.length := by rw [hln]; exact (List.getElem?_eq_some_iff.1 hj).1
     exact hc j _ (List.getElem?_eq_getElem hlt)
    ·have hlt : j < ls.length := by rw [hln]; exact (List.getElem?_eq_some_iff.1 hj).1
     have h1 := hrr j _ (List.getElem?_eq_getElem hlt)
     rcases hcs j _ c (List.getElem?_eq_getElem hlt) hj with ⟨a, h2, h3⟩ | ⟨n, h2, rfl, rfl⟩
     ·rw [h2] at h1
      cases h1 with
      | p hp => exact h3 _ _ (hp.mono hle)
     ·rw [h2] at h1
      exact hrow _ h1
 refine ⟨_, h, fun σ β a w hr => ?_⟩
 rcases own_holds.1 (hr.heap.chunks k _ (getH_mem hg)) with ⟨hb0, rfl⟩ | ⟨i, vs, hi, hisz, hh, hn, hle', hmax, hE⟩
 ·refine ⟨σ, β, ⟨hr.size, hr.defers, fun j => ?_, ⟨hr.heap.mem, fun j c' hj => ?_, hsub.nodup hr.heap.nodup, fun j hj => hr.heap.apart j (hsub.subset hj), fun j hj j' hj' => hr.heap.inj j (hsub.subset hj) j' (hsub.subset hj')⟩⟩, Mem.le_refl σ, Frm.refl _ _, fun _ h0 h1 => absurd h0 h1, fun b ⟨j, hj, r⟩ => .inl ⟨j, hsub.subset hj, r⟩, fun _ _ _ => rfl⟩
  ·show RepL σ β (getS sl j) _
   have hv := hr.slots j
   rcases hsl j with he | ⟨rfl, h2⟩
   ·rw [he]; exact hv.kill k
   ·rw [h2]
    rw [ht] at hv
    refine .p (agg (Mem.le_refl σ) hv fun v hv => ?_)
    rcases hv.hdI with ⟨_, _, _, he⟩ | ⟨i, _, hk, _⟩
    ·rw [he]; exact .nilsl
    ·rw [hb0] at hk; cases hk
  ·obtain ⟨_, c, h2, rfl⟩ := hH j c' hj
   exact (hr.heap.chunks j c h2).kill k
 ·refine hr.lay hi (getH_label hg) hh (fun τ hle hτ j v hv => ?_) (fun τ hle hτ j c' hj => ?_) (hsub.nodup hr.heap.nodup)
  ·show RepL τ β (getS sl j) v
   rcases hsl j with he | ⟨rfl, h2⟩
   ·rw [he]; exact (hv.kill k).mono hle
   ·rw [h2]
    rw [ht] at hv
    refine .p (agg hle hv fun v hv => ?_)
    rcases hv.hdI with ⟨hk, _⟩ | ⟨i', oo, hk, hl, ho, rfl⟩
    ·rw [hi] at hk; cases hk
    ·rw [hi] at hk; cases hk
     have hoo : oo = 0 := by
      rcases ho with ho | ho
      ·simpa using ho
      ·omega
     subst hoo
     obtain ⟨u, hu⟩ : ∃ u : Nat → Nat → Value, ∀ (m : Nat) (x : AV) (j : Nat) (c : AV), es[m]? = some x → x.cells[j]? = some c → vs[m * sz + j]? = some (u m j) ∧ Rep σ c (u m j) := by
      refine ⟨fun m j => (vs[m * sz + j]?).getD undef, fun m x j c hx hj => ?_⟩
      obtain ⟨v, h1, h2⟩ := hE.rep m x j c hx hj
      rw [List.getElem?_take] at h1
      split at h1
      ·have h1' : vs[m * sz + j]? = some v := by simpa using h1
       exact ⟨by simp [h1'], by simpa [h1'] using h2⟩
      ·cases h1
     exact .sl es i.blk 0 _ sz vs u hτ (by omega) (by omega) hE.size (fun m x j c hx hj => by simpa using (hu m x j c hx hj).1) fun m x j c hx hj => (hu m x j c hx hj).2.mono hle
  ·obtain ⟨h1, c, h2, rfl⟩ := hH j c' hj
   exact ⟨h1, c, h2, fun hold => (hold.kill k).mono hle fun _ _ _ _ => rfl⟩
theorem OpK.layAgg {P : Program} {T : Tab} {N : Nat} {o : Oper} {K : St → Prop} {s : St} (hT : TabOK P T) {k : Nat} {e : TypeId} {sz : Nat} {es : List AV} (t : Nat) {ls : List LV} (cs : List AV) (hg : getH s.H k = some (.own e sz es)) (ht : getS s.sl t = .agg ls) (hln : ls.length = cs.length)
  (hcs : ∀ (j : Nat) (l : LV) (c : AV), ls[j]? = some l → cs[j]? = some c → (∃ a, l = .p a ∧ Sub a c) ∨ (∃ n, l = .hd k 0 n ∧ n = es.length ∧ c = .sl es)) (h : aggSK k t cs s.sl fun sl => rowHK k s.H fun H => opW P T N ⟨sl, H⟩ o K) : OpK P N s o K := ⟨fun σ β a w hr Q => by
 obtain ⟨s1, h1, hle⟩ := Le.rowAgg (N := N) hg ht hln hcs (K := fun s' => opW P T N s' o K) h
 obtain ⟨σ1, β1, hr1, hl1⟩ := hle σ β a w hr
 exact Oper.wp_mono (fun a' w' ⟨σ', β', s2, hK, hr', hl⟩ => ⟨σ', β', s2, hK, hr', hl1.trans hl⟩) (opW_sound hT h1 hr1 Q)⟩
open Go.Proofs
theorem heap_setB {σ : Mem} {β : Lab} {H : Heap} {w : World} (h : HRel σ β H w) {k b0 : Nat} {i : BInfo} (hk : k ∈ H.map (·.1)) (hi : β k = some i) (hb0 : i.has b0) {vs : Array Value} {H' : Heap} (hH : H'.map (·.1) = H.map (·.1))
  (hold : ∀ j c, (j, c) ∈ H' → j ≠ k → (j, c) ∈ H) (hnew : ∀ c, (k, c) ∈ H' → c.holds σ β (w.setRow b0 vs) k) :
  HRel σ β H' (w.setRow b0 vs) ∧ Later σ β H w σ β H' (w.setRow b0 vs) := by
 have hap := h.apart k hk i hi b0 hb0
 have hot : ∀ b, b ≠ b0 → (w.setRow b0 vs).heap[b]? = w.heap[b]? := fun b hb => setRow_other w b0 b vs hb
 refine ⟨⟨fun b c hb => ?_, fun j c hj => ?_, by rw [hH]; exact h.nodup, fun j hj i' hi' b hb => ?_, fun j hj j' hj' => h.inj j (hH ▸ hj) j' (hH ▸ hj')⟩, Mem.le_refl σ, ⟨rfl, rfl, rfl, Nat.le_refl _, by simp, fun b _ hn => hot b fun e => hn ⟨k, hk, i, hi, e.symm ▸ hb0⟩⟩, fun b h0 h1 => absurd h0 h1, fun b hb => ?_, fun _ _ _ => rfl⟩
 ·have hne : b ≠ b0 := fun e => by rw [e, hap.1] at hb; cases hb
  obtain ⟨e, fr, hh⟩ := h.mem b c hb
  exact ⟨e, fr, (hot b hne).trans hh⟩
 ·by_cases hjk : j = k
  ·subst hjk; exact hnew c hj
  ·have hm := hold j c hj hjk
   refine (h.chunks j c hm).mono (Mem.le_refl σ) fun i' hi' b hb => hot _ fun e => hjk ?_
   exact h.inj j (List.mem_map.2 ⟨_, hm, rfl⟩) k hk i' i hi' hi b hb (e.symm ▸ hb0)
 ·have := h.apart j (hH ▸ hj) i' hi' b hb
  exact ⟨this.1, by simpa using this.2⟩
 ·obtain ⟨j, hj, i', hi', hb'⟩ := hb
  exact .inl ⟨j, hH ▸ hj, i', hi', hb'⟩
theorem OpK.stEl {P : Program} {T : Tab} {N : Nat} (hT : TabOK P T) {s : St} {o : Oper} {K : St → Prop} {t : TypeId} {x v : Operand} (hop : o.op = .store t x v) (hd : o.dst = none) {k a off : Nat} (hx : evalO s.sl x = .ext k (.rptr a off)) {u : AV} (hv : evalO s.sl v = .p u) (hone : u.one = true) (huc : u.cells = [u])
  {e e2 : TypeId} {rows : List (List AV)} {hole : List Nat} (hg : getH s.H k = some (.ext (.mat e e2 1 rows hole))) {it : TyI} (ht : T.get t = some it) (hsz : it.size = 1) {row : List AV} (hrow : rows[a]? = some row) (hnh : a ∉ hole) (hoff : off < row.length)
  (h : setHK s.H k (.ext (.mat e e2 1 (rows.set a (row.set off u)) hole)) fun H => K ⟨s.sl, H⟩) : OpK P N s o K := by
 refine ⟨fun σ β ac w hr Q => ?_⟩
 obtain ⟨H', hK, h1, h2, h3⟩ := setHK_spec hr.heap.nodup h
 have hx' := evalO_rep hr.slots x
 have hv' := evalO_rep hr.slots v
 rw [hx] at hx'
 rw [hv] at hv'
 have hk1 := getH_label hg
 generalize hxe : ac.eval x = xv at hx'
 generalize hve : ac.eval v = vv at hv'
 cases hv' with
 | p hvr =>
 cases hx' with
 | ext _ _ i _ hi hdx =>
 obtain ⟨b, c, hsub, rfl⟩ := hdx
 rcases hr.heap.chunks k _ (getH_mem hg) with ⟨h0, _⟩ | ⟨i', vs, hi', hisz, hh, hvs, hle, hmax, hsl', hdis, hrows⟩
 ·rw [hi] at h0; cases h0
 rw [hi] at hi'; cases hi'
 have hb : i.has b := .inr ⟨c, List.mem_of_getElem? hsub⟩
 rcases (hrows a row hrow).2 hnh with ⟨h4, _⟩ | ⟨b', c', ws, h4, h5, h6, h7, h8, h9, h10⟩
 ·rw [hsub] at h4; cases h4
 rw [hsub] at h4; cases h4
 have hone' : vv.oneCell' = true := hvr.oneCell hone
 have hcells : vv.cells = #[vv] := by cases vv <;> first | rfl | simp [Value.oneCell'] at hone'
 have hoffw : off < ws.size := by omega
 let ws' : Array Value := (ws.toList.take off ++ [vv] ++ ws.toList.drop (off + 1)).toArray
 have hrun : (execOp ac.eval o).run P w = .ok .skip (w.setRow b ws') := by
  have hst := run_storeCells_at P b off e2 [vv] 0 ws w h6 (by simp; omega) (by simpa using hone')
  simp only [Nat.add_zero, List.length_singleton] at hst
  have hsize := (hT _ _ ht).sizeOf
  simp [execOp, hop, Instr.storeAt, Instr.sureAddr, hxe, hve, storeVar, hsize, hsz, hcells, hst, ws']
 have hcell : ∀ p, ws'[p]? = if p = off then some vv else ws[p]? := fun p => by
  simp only [ws', List.getElem?_toArray]
  by_cases g1 : p < off
  ·rw [if_neg (by omega), List.append_assoc, List.getElem?_append_left (by simp; omega), List.getElem?_take, if_pos g1]; simp
  ·by_cases g2 : p = off
   ·subst g2
    rw [if_pos rfl, List.append_assoc, List.getElem?_append_right (by simp; omega)]
    simp only [List.length_take, Array.length_toList]
    rw [show p - min p ws.size = 0 by omega]
    rfl
   ·rw [if_neg g2, List.getElem?_append_right (by simp; omega)]
    simp only [List.length_append, List.length_take, Array.length_toList, List.length_singleton, List.getElem?_drop, Array.getElem?_toList]
    congr 1
    omega
 have hother : ∀ b', b' ≠ b → (w.setRow b ws').heap[b']? = w.heap[b']? := fun b' hb' => setRow_other w b b' ws' hb'
 have hal : a < rows.length := (List.getElem?_eq_some_iff.1 hrow).1
 obtain ⟨h11, h12⟩ := heap_setB hr.heap hk1 hi hb (vs := ws') h1 h2 (fun d hd => h3 d hd ▸ by
  refine .inr ⟨i, vs, hi, hisz, (hother _ (hdis a b c hsub).1).trans hh, hvs, by simpa using hle, hmax, by simpa using hsl', hdis, fun a' row' hra => ⟨fun hin => ?_, fun hnin => ?_⟩⟩
  ·by_cases g : a' = a
   ·subst g; exact absurd hin hnh
   ·rw [List.getElem?_set_ne (Ne.symm g)] at hra
    exact (hrows a' row' hra).1 hin
  ·by_cases g : a' = a
   ·subst g
    rw [List.getElem?_set_self hal] at hra
    cases hra
    refine .inr ⟨b, c, ws', hsub, by simpa using h5, setRow_heap w b ws _ e2 _ h6, ?_, by simpa using h8, h9, fun m y hy => ?_⟩
    ·simp only [ws', List.size_toArray, List.length_append, List.length_take, List.length_drop, Array.length_toList, List.length_singleton]
     omega
    ·by_cases gm : m = off
     ·subst gm
      rw [List.getElem?_set_self hoff] at hy
      cases hy
      refine ⟨by rw [huc]; rfl, fun j c' hj => ?_⟩
      rw [huc] at hj
      match j, hj with
      | 0, hj => cases hj; exact ⟨vv, by rw [Nat.mul_one, Nat.add_zero, hcell, if_pos rfl], hvr⟩
      | j + 1, hj => simp at hj
     ·rw [List.getElem?_set_ne (Ne.symm gm)] at hy
      obtain ⟨g1, g2⟩ := h10 m y hy
      refine ⟨g1, fun j c' hj => ?_⟩
      obtain ⟨u', g3, g4⟩ := g2 j c' hj
      have hj0 : j = 0 := by
       have := (List.getElem?_eq_some_iff.1 hj).1
       omega
      subst hj0
      exact ⟨u', by rw [hcell, if_neg (by omega)]; exact g3, g4⟩
   ·rw [List.getElem?_set_ne (Ne.symm g)] at hra
    rcases (hrows a' row' hra).2 hnin with g1 | ⟨b1, c1, ws1, g1, g2, g3, g4⟩
    ·exact .inl g1
    ·refine .inr ⟨b1, c1, ws1, g1, g2, (hother b1 fun he => ?_).trans g3, g4⟩
     subst he
     exact g ((hdis a b1 c hsub).2 a' c1 g1))
 refine wp_skip' hrun ⟨σ, β, ⟨s.sl, H'⟩, hK, ⟨?_, ?_, ?_, h11⟩, h12⟩
 ·rw [hd]; exact hr.size
 ·rw [hd]; exact hr.defers
 ·rw [hd]; exact hr.slots
theorem focBack_eq {s : St} {k k2 : Nat} {c c2 : Chunk} {K : St → Prop} (h : focBack s k k2 c c2 K) : ∃ s2, K s2 ∧ focBack s k k2 c c2 fun s3 => s3 = s2 := by
 unfold focBack at h ⊢
 obtain ⟨sl, h1, _⟩ := mapSK_spec (by rfl) h
 have key : ∀ {f : LV → LV} {l : List (Nat × LV)} {K : List (Nat × LV) → Prop}, mapSK f l K ↔ K (l.map fun x => (x.1, f x.2)) := fun {f} l => by
  induction l with
  | nil => intro K; rfl
  | cons x r ih => intro K; simp only [mapSK, forceLV_eq, ih, List.map_cons]
 have key2 : ∀ {f : LV → LV} {c : Chunk} {H : Heap}, ∃ H', ∀ K : Heap → Prop, matHK k k2 f c H K ↔ K H' := fun {f c} H => by
  induction H with
  | nil => exact ⟨[], fun K => Iff.rfl⟩
  | cons x r ih =>
    obtain ⟨H', hH'⟩ := ih
    obtain ⟨j, d⟩ := x
    simp only [matHK, mapCK_eq]
    cases j == k2 with
    | true => exact ⟨H', fun K => by simp only [cond_true]; exact hH' _⟩
    | false =>
      cases j == k with
      | true => exact ⟨(j, c) :: H', fun K => by simp only [cond_true, cond_false]; exact hH' _⟩
      | false => exact ⟨(j, d.mapL f) :: H', fun K => by simp only [cond_false]; exact hH' _⟩
 rw [key] at h
 simp only [key]
 obtain ⟨H', hH'⟩ := key2 (f := LV.xkill k) (c := c) (H := s.H)
 rw [hH'] at h
 exact ⟨_, h, (hH' _).2 rfl⟩
theorem OpK.focus {P : Program} {T : Tab} {N : Nat} (hT : TabOK P T) {s : St} {o : Oper} {K : St → Prop} (t k a k2 : Nat) {e e2 sz : Nat} {rows : List (List AV)} {hole : List Nat} {row : List AV} (hu : usable k2 s = true) (hg : getH s.H k = some (.ext (.mat e e2 sz rows hole)))
  (hrow : rows[a]? = some row) (hnh : a ∉ hole) (hpin : pinned k = false) (ht : getS s.sl t = .ext k (.row a row.length))
  (h : focBack s k k2 (.ext (.mat e e2 sz rows (a :: hole))) (.own e2 sz row) fun s2 => opW P T N ⟨(t, .hd k2 0 row.length) :: s2.sl, s2.H⟩ o K) : OpK P N s o K := by
 obtain ⟨s2, h, he⟩ := focBack_eq h
 refine ⟨fun σ β ac w hr Q => ?_⟩
 obtain ⟨β', hr', hl, hrep, hrow'⟩ := foc_step hr hu hg hrow hnh hpin he
 have hr2 : Rel N σ β' ⟨(t, .hd k2 0 row.length) :: s2.sl, s2.H⟩ ac w := ⟨hr'.size, hr'.defers, fun i => by
  show RepL σ β' (getS ((t, .hd k2 0 row.length) :: s2.sl) i) _
  simp only [getS]
  cases hi : t == i with
  | true =>
    have : t = i := by simpa using hi
    subst this
    have h1 := hr.slots t
    rw [ht] at h1
    exact hrow' _ h1
  | false => exact hr'.slots i, hr'.heap⟩
 exact Oper.wp_mono (fun a' w' ⟨σ', β'', s3, hK, hr3, hl3⟩ => ⟨σ', β'', s3, hK, hr3, hl.trans hl3⟩) (opW_sound hT h hr2 Q)
open Go.Proofs
theorem take_same {α : Type} {l m : List α} {j : Nat} (h : l.take j = m.take j) (hl : j < l.length) (hm : j < m.length) (he : l[j] = m[j]) : l.take (j + 1) = m.take (j + 1) := by
 rw [List.take_succ_eq_append_getElem hl, List.take_succ_eq_append_getElem hm, h, he]
theorem all_same {α : Type} {l m : List α} {j : Nat} (h : l.take j = m.take j) (hl : l.length ≤ j) (hm : m.length ≤ j) : l = m := by
 rwa [List.take_of_length_le hl, List.take_of_length_le hm] at h
open Go.Proofs
def eBs (l : List Bool) : AV := .sl (l.map bv)
theorem bv_cells (b : Bool) : (bv b).cells = [bv b] := by cases b <;> rfl
theorem slices_Equal_bool_bool_ (l m : List Bool) : SpecP Tryz.prog 184 [eBs l, eBs m] (fun r => r = .bool (decide (l = m))) := by
 refine SpecP.body I_slices_Equal_bool_bool_ tabOK Tryz.func184 rfl Tryz.call184 (by show 2 ≤ _; decide) ?_
 conv => whnf
 have h1 : (l.map bv).length = l.length := List.length_map _
 have h2 : (m.map bv).length = m.length := List.length_map _
 repeat' (first | (intro (_ : _ ≤ 9223372036854775807); conv => whnf) | (refine Br.dec2 (fun _ => ?_) (fun _ => ?_) <;> first | (exfalso; omega) | conv => whnf))
 all_goals first
  | exact RetK.ff (decide_eq_false fun h => by subst h; omega)
  | skip
 have hlen : l.length = m.length := by omega
 refine LoopK.inv tabOK (fun j : Nat => ⟨[(0, .p (eBs l)), (1, .p (eBs m)), (12, .p (.int .i64 (l.map bv).length)), (13, .p (.int .i64 j))], []⟩) (fun j => j ≤ l.length ∧ l.take j = m.take j) (fun j => l.length - j) 0 (Le.of_eq rfl) ⟨Nat.zero_le _, rfl⟩ ?_
 rintro j ⟨h3, h4⟩
 rcases Nat.lt_or_ge j l.length with hj | hj
 ·have e1 : (l.map bv)[j]? = some (bv l[j]) := by rw [List.getElem?_map, List.getElem?_eq_getElem hj]; rfl
  have e2 : (m.map bv)[j]? = some (bv (m[j]'(by omega))) := by rw [List.getElem?_map, List.getElem?_eq_getElem (by omega)]; rfl
  have hst : l[j] = m[j]'(by omega) → l.take (j + 1) = m.take (j + 1) := fun h => take_same h4 hj (by omega) h
  have hno : l[j] ≠ m[j]'(by omega) → ¬ l = m := fun h he => h (by subst he; rfl)
  generalize l[j] = x at e1 hst hno
  generalize m[j]'(by omega) = y at e2 hst hno
  cases x <;> cases y <;>
  conv => whnf
  repeat' (first | ((first | (refine DrawK.auto tabOK mixed (by kernel_rfl) ?_) | (refine Wr.i64 (by omega) (by omega) ?_) | (refine IdxK.at (k := j) rfl e1 rfl ?_) | (refine IdxK.at (k := j) rfl e2 rfl ?_) | (refine ValO.boolNeq tabOK rfl rfl rfl rfl rfl ?_)); conv => whnf) | (refine Br.dec (fun _ => ?_) (fun _ => ?_) <;> first | (exfalso; omega) | conv => whnf) | (refine Br.dec2 (fun _ => ?_) (fun _ => ?_) <;> first | (exfalso; omega) | conv => whnf))
  all_goals first
   | exact RetK.ff (decide_eq_false (hno (by decide)))
   | exact ⟨j + 1, ⟨by omega, hst rfl⟩, by omega, Le.of_eq rfl⟩
   | (exfalso; simp_all; done)
 ·conv => whnf
  repeat' (refine Br.dec (fun _ => ?_) (fun _ => ?_) <;> first | (exfalso; omega) | conv => whnf)
  exact RetK.tt (decide_eq_true (all_same h4 hj (by omega)))
def bmI (fm : List (List Bool)) : List (List AV) := fm.map fun r => r.map bv
def shH (fm : List (List Bool)) : Heap := [(1000, .ext (.mat 112 4 1 (bmI fm) []))]
def sharedB (fm : List (List Bool)) (l : List Int) (b : Nat) : Bool := l.all fun a => (fm.getD a.toNat []).getD b false
def sharedR (fm : List (List Bool)) (l : List Int) (n : Nat) : List Bool := (List.range n).map (sharedB fm l)
def shRow (fm : List (List Bool)) (l : List Int) (n j : Nat) (c : Bool) : List Bool := (sharedR fm l n).take j ++ c :: List.replicate (n - j - 1) false
theorem shRow_get {fm : List (List Bool)} {l : List Int} {n j : Nat} (hj : j < n) (c : Bool) : ((shRow fm l n j c).map bv)[j]? = some (bv c) := by
 have h1 : ((sharedR fm l n).take j).length = j := by unfold sharedR; simp; omega
 have h2 : (shRow fm l n j c)[j]? = some c := by
  unfold shRow
  rw [List.getElem?_append_right (by omega), h1, Nat.sub_self]
  rfl
 rw [List.getElem?_map, h2]
 rfl
theorem shRow_set {fm : List (List Bool)} {l : List Int} {n j : Nat} (hj : j < n) (c c' : Bool) : ((shRow fm l n j c).map bv).set j (bv c') = (shRow fm l n j c').map bv := by
 rw [← List.map_set]
 congr 1
 unfold shRow
 rw [List.set_append_right _ _ (by unfold sharedR; simp; omega)]
 have : j - ((sharedR fm l n).take j).length = 0 := by unfold sharedR; simp; omega
 rw [this]
 rfl
theorem shRow_succ {fm : List (List Bool)} {l : List Int} {n j : Nat} (hj : j < n) : shRow fm l n j (sharedB fm l j) = (sharedR fm l n).take (j + 1) ++ List.replicate (n - (j + 1)) false := by
 unfold shRow
 have : (sharedR fm l n)[j]? = some (sharedB fm l j) := by unfold sharedR; simp [hj]
 rw [List.take_add_one, this, List.append_assoc]
 rfl
theorem shRow_open {fm : List (List Bool)} {l : List Int} {n j : Nat} (hj : j < n) : (sharedR fm l n).take j ++ List.replicate (n - j) false = shRow fm l n j false := by
 unfold shRow
 rw [show n - j = (n - j - 1) + 1 by omega, List.replicate_succ]
 congr 2
theorem all_take_succ {α : Type} {f : α → Bool} {l : List α} {i : Nat} (hi : i < l.length) : (l.take (i + 1)).all f = ((l.take i).all f && f l[i]) := by
 rw [List.take_succ_eq_append_getElem hi, List.all_append]
 simp
theorem way_shared (fm : List (List Bool)) (l : List Int) (n : Nat) (hn : fm.length = n) (hn5 : n ≤ 5000) (hr : ∀ r ∈ fm, r.length = n) (hl : l.length ≤ 1000000) (hs : ∀ x ∈ l, 0 ≤ x ∧ x < n) : SpecH Tryz.prog 183 [.hd 1000 0 n, .p (eInts l)] (shH fm) (fun r H => r = .hd 0 0 n ∧ H = (0, .own 4 1 ((sharedR fm l n).map bv)) :: shH fm) := by
 refine SpecH.body I_way_shared tabOK Tryz.func183 rfl Tryz.call183 (by show 2 ≤ _; decide) ?_
 conv => whnf
 have hll : (l.map (AV.int .i64)).length = l.length := List.length_map _
 repeat' ((first | (intro (_ : _ ≤ 9223372036854775807)) | (refine And.intro ⟨rfl, rfl, by decide⟩ ?_) | (refine MkK.mk n rfl (by show 1 * _ ≤ 140737488355328; omega) (by unfold maxLen; omega) ?_)); conv => whnf)
 refine LoopK.inv tabOK (fun j : Nat => ⟨[(0, .hd 1000 0 n), (1, .p (eInts l)), (5, .hd 0 0 n), (13, .p (.int .i64 n)), (14, .p (.int .i64 j))], (0, .own 4 1 (((sharedR fm l n).take j ++ List.replicate (n - j) false).map bv)) :: shH fm⟩) (fun j => j ≤ n) (fun j => n - j) 0
  (Le.of_eq (by rw [show ((sharedR fm l n).take 0 ++ List.replicate (n - 0) false).map bv = List.replicate n .ff by simp [bv]]; rfl)) (Nat.zero_le _) ?_
 intro j h2
 rcases Nat.lt_or_ge j n with hj | hj
 rotate_left 1
 ·have hje : j = n := by omega
  subst hje
  have he : ((sharedR fm l j).take j ++ List.replicate (j - j) false) = sharedR fm l j := by
   rw [Nat.sub_self, List.take_of_length_le (by unfold sharedR; simp)]
   simp
  rw [he]
  conv => whnf
  repeat' (refine Br.dec (fun _ => ?_) (fun _ => ?_) <;> first | (exfalso; omega) | conv => whnf)
  exact ⟨_, LSub.refl _, rfl, rfl⟩
 rw [shRow_open hj]
 have hg0 := shRow_get (fm := fm) (l := l) hj false
 have hs0 := shRow_set (fm := fm) (l := l) hj false true
 generalize (shRow fm l n j false).map bv = row0 at hg0 hs0 ⊢
 unfold shH
 conv => whnf
 repeat' (first | ((first | (intro (_ : _ ≤ 9223372036854775807)) | (refine And.intro rfl ?_) | (refine IdxL.mk j rfl hj ?_) | (refine StOwn.mk j 0 _ (bv true) (by show (0+j)*1 = j*1+0; omega) hg0 (Nat.le_refl _) rfl ?_)); conv => whnf) | (refine Br.dec (fun _ => ?_) (fun _ => ?_) <;> first | (exfalso; omega) | conv => whnf))
 rw [hs0]
 refine LoopK.inv tabOK (fun i : Nat => ⟨[(0, .hd 1000 0 n), (1, .p (eInts l)), (5, .hd 0 0 n), (6, .p (.int .i64 j)), (13, .p (.int .i64 n)), (14, .p (.int .i64 j)), (20, .p (eInts l)), (21, .p (.int .i64 (l.map (AV.int .i64)).length)), (22, .p (.int .i64 i))], (0, .own 4 1 ((shRow fm l n j ((l.take i).all fun a => (fm.getD a.toNat []).getD j false)).map bv)) :: shH fm⟩) (fun i => i ≤ l.length) (fun i => l.length - i) 0
  (Le.of_eq rfl) (Nat.zero_le _) ?_
 intro i h3
 rcases Nat.lt_or_ge i l.length with hi | hi
 rotate_left 1
 ·have hje : i = l.length := by omega
  subst hje
  rw [List.take_of_length_le (Nat.le_refl _), show (l.all fun a => (fm.getD a.toNat []).getD j false) = sharedB fm l j from rfl, shRow_succ hj]
  conv => whnf
  repeat' (first | (refine Wr.i64 (by omega) (by omega) ?_; conv => whnf) | (refine Br.dec (fun _ => ?_) (fun _ => ?_) <;> first | (exfalso; omega) | conv => whnf))
  exact ⟨j + 1, hj, by omega, Le.of_eq rfl⟩
 have hsa := hs _ (List.getElem_mem hi)
 have hal : l[i].toNat < fm.length := by omega
 have hrl := hr _ (List.getElem_mem hal)
 have hli : (l.map (AV.int .i64))[i]? = some (.int .i64 l[i]) := by rw [List.getElem?_map, List.getElem?_eq_getElem hi]; rfl
 have hfr : (bmI fm)[l[i].toNat]? = some (fm[l[i].toNat].map bv) := by unfold bmI; rw [List.getElem?_map, List.getElem?_eq_getElem hal]; rfl
 have hfv : (fm[l[i].toNat].map bv)[j]? = some (bv (fm[l[i].toNat][j]'(by omega))) := by rw [List.getElem?_map, List.getElem?_eq_getElem (by omega)]; rfl
 have hnx : ((l.take (i + 1)).all fun a => (fm.getD a.toNat []).getD j false) = (((l.take i).all fun a => (fm.getD a.toNat []).getD j false) && fm[l[i].toNat][j]'(by omega)) := by
  rw [all_take_succ hi]
  congr 1
  simp only [List.getD_eq_getElem?_getD]
  rw [List.getElem?_eq_getElem hal, Option.getD_some, List.getElem?_eq_getElem (by omega), Option.getD_some]
 have hrn : (fm[l[i].toNat].map bv).length = n := by rw [List.length_map, hrl]
 generalize fm[l[i].toNat][j]'(by omega) = v at hfv hnx
 generalize ((l.take i).all fun a => (fm.getD a.toNat []).getD j false) = c at hnx ⊢
 have hgc := shRow_get (fm := fm) (l := l) hj c
 have hsc := shRow_set (fm := fm) (l := l) hj c (c && v)
 generalize (shRow fm l n j c).map bv = row at hgc hsc ⊢
 cases c <;> cases v <;> unfold shH <;>
 conv => whnf
 repeat' (first | ((first | (refine And.intro rfl ?_) | (refine IdxK.map (by omega) (fun _ => rfl) ?_) | (refine Wr.i64 (by omega) (by omega) ?_) | (refine IdxL.mk j rfl hj ?_) | (refine IdxL.mk l[i].toNat (by omega) (by omega) ?_) | (refine IdxL.mk j rfl (by rw [hrn]; exact hj) ?_) | (refine LdOwn.mk j 0 _ (by show (0+j)*1 = j*1+0; omega) hgc ?_) | (refine RowK.mk l[i].toNat _ (by omega) hfr (by simp) ?_) | (refine RLd.mk _ j 0 _ hfr (by simp) (by omega) hfv ?_) | (refine StOwn.mk j 0 _ (bv false) (by show (0+j)*1 = j*1+0; omega) hgc (Nat.le_refl _) rfl ?_) | (refine StOwn.mk j 0 _ (bv true) (by show (0+j)*1 = j*1+0; omega) hgc (Nat.le_refl _) rfl ?_)); conv => whnf) | (refine Br.dec (fun _ => ?_) (fun _ => ?_) <;> first | (exfalso; omega) | conv => whnf))
 all_goals first
  | exact ⟨i + 1, hi, by omega, Le.of_eq (by rw [hnx, ← hsc]; rfl)⟩
  | (exfalso; simp_all; done)
open Go.Proofs
def filRow (n a : Nat) : List Bool := (List.range n).map fun b => decide (a < n - 1) || decide (a = b)
theorem filRow_len (n a : Nat) : (filRow n a).length = n := by unfold filRow; simp
inductive Avd (nx : List (List Int)) (n b : Nat) : Nat → Prop
 | exit (h : b ≠ n - 1) : Avd nx n b (n - 1)
 | step {a t : Nat} (hab : a ≠ b) (ht : (t : Int) ∈ nx.getD a []) (h : Avd nx n b t) : Avd nx n b a
def rowF (n : Nat) (nx : List (List Int)) (fm : List (List Bool)) (a : Nat) : List Bool := (sharedR fm (nx.getD a []) n).set a true
def bitF (fm : List (List Bool)) (a b : Nat) : Bool := (fm.getD a []).getD b false
theorem rowF_len (n : Nat) (nx : List (List Int)) (fm : List (List Bool)) (a : Nat) : (rowF n nx fm a).length = n := by unfold rowF sharedR; simp
theorem rowF_get {n : Nat} {nx : List (List Int)} {fm : List (List Bool)} {a b : Nat} (hb : b < n) : (rowF n nx fm a).getD b false = (decide (a = b) || sharedB fm (nx.getD a []) b) := by
 unfold rowF
 have hs : (sharedR fm (nx.getD a []) n)[b]? = some (sharedB fm (nx.getD a []) b) := by unfold sharedR; simp [hb]
 have hl : (sharedR fm (nx.getD a []) n).length = n := by unfold sharedR; simp
 rw [List.getD_eq_getElem?_getD]
 by_cases hab : a = b
 ·subst hab
  rw [List.getElem?_set_self (by omega), decide_eq_true rfl]
  rfl
 ·rw [List.getElem?_set_ne hab, hs, decide_eq_false hab]
  rfl
theorem shared_iff {fm : List (List Bool)} {l : List Int} {b : Nat} : sharedB fm l b = true ↔ ∀ t ∈ l, bitF fm t.toNat b = true := by
 unfold sharedB bitF
 rw [List.all_eq_true]
structure FolI (n : Nat) (nx : List (List Int)) (fm : List (List Bool)) : Prop where
 len : fm.length = n
 rows : ∀ r ∈ fm, r.length = n
 last : fm.getD (n - 1) [] = filRow n (n - 1)
 post : ∀ a b, a < n - 1 → b < n → (rowF n nx fm a).getD b false = true → bitF fm a b = true
 min : ∀ a b, a < n → b < n → bitF fm a b = false → Avd nx n b a
structure FollowP (n : Nat) (nx : List (List Int)) (fm : List (List Bool)) : Prop where
 inv : FolI n nx fm
 fix : ∀ a, a < n - 1 → fm.getD a [] = rowF n nx fm a
theorem filRow_get {n a b : Nat} (hb : b < n) : (filRow n a).getD b false = (decide (a < n - 1) || decide (a = b)) := by
 unfold filRow
 rw [List.getD_eq_getElem?_getD, List.getElem?_map, List.getElem?_range hb]
 rfl
theorem fil_bit {n a b : Nat} (ha : a < n) (hb : b < n) : bitF ((List.range n).map (filRow n)) a b = (decide (a < n - 1) || decide (a = b)) := by
 have hg : ((List.range n).map (filRow n)).getD a [] = filRow n a := by
  rw [List.getD_eq_getElem?_getD, List.getElem?_map, List.getElem?_range ha]
  rfl
 unfold bitF
 rw [hg, filRow_get hb]
theorem FolI.start {n : Nat} (hn : 2 ≤ n) (nx : List (List Int)) : FolI n nx ((List.range n).map (filRow n)) := by
 refine ⟨by simp, fun r hr => ?_, ?_, fun a b ha hb _ => ?_, fun a b ha hb h => ?_⟩
 ·obtain ⟨a, _, rfl⟩ := List.mem_map.1 hr
  exact filRow_len n a
 ·rw [List.getD_eq_getElem?_getD, List.getElem?_map, List.getElem?_range (by omega)]
  rfl
 ·rw [fil_bit (by omega) hb, decide_eq_true ha]
  rfl
 ·rw [fil_bit ha hb, Bool.or_eq_false_iff, decide_eq_false_iff_not, decide_eq_false_iff_not] at h
  have : a = n - 1 := by omega
  subst this
  exact .exit fun e => h.2 e.symm
theorem bit_set {fm : List (List Bool)} {a : Nat} (ha : a < fm.length) (l : List Bool) (x b : Nat) : bitF (fm.set a l) x b = if x = a then l.getD b false else bitF fm x b := by
 unfold bitF
 by_cases h : x = a
 ·subst h
  rw [if_pos rfl, List.getD_eq_getElem?_getD (l := fm.set x l), List.getElem?_set_self ha]
  rfl
 ·rw [if_neg h, List.getD_eq_getElem?_getD (l := fm.set a l), List.getElem?_set_ne (Ne.symm h), ← List.getD_eq_getElem?_getD]
theorem FolI.step {n : Nat} {nx : List (List Int)} {fm : List (List Bool)} (h : FolI n nx fm) (hnx : ∀ a, ∀ x ∈ nx.getD a [], 0 ≤ x ∧ x < (n : Int)) {a : Nat} (ha : a < n - 1) : FolI n nx (fm.set a (rowF n nx fm a)) := by
 have hal : a < fm.length := by have := h.len; omega
 have mono : ∀ x b, b < n → bitF (fm.set a (rowF n nx fm a)) x b = true → bitF fm x b = true := fun x b hb hx => by
  rw [bit_set hal] at hx
  split at hx
  ·rename_i he
   subst he
   exact h.post _ b ha hb hx
  ·exact hx
 have rmono : ∀ x b, b < n → (rowF n nx (fm.set a (rowF n nx fm a)) x).getD b false = true → (rowF n nx fm x).getD b false = true := fun x b hb hx => by
  rw [rowF_get hb, Bool.or_eq_true] at hx ⊢
  rcases hx with hx | hx
  ·exact .inl hx
  ·exact .inr (shared_iff.2 fun t ht => mono _ b hb (shared_iff.1 hx t ht))
 refine ⟨by rw [List.length_set]; exact h.len, fun r hr => ?_, ?_, fun x b hx hb hr => ?_, fun x b hx hb hf => ?_⟩
 ·rcases List.mem_or_eq_of_mem_set hr with hr | rfl
  ·exact h.rows r hr
  ·exact rowF_len _ _ _ _
 ·rw [List.getD_eq_getElem?_getD, List.getElem?_set_ne (by omega), ← List.getD_eq_getElem?_getD]
  exact h.last
 ·have h1 := rmono x b hb hr
  rw [bit_set hal]
  split
  ·rename_i he
   subst he
   exact h1
  ·exact h.post x b hx hb h1
 ·rw [bit_set hal] at hf
  split at hf
  ·rename_i he
   subst he
   rw [rowF_get hb, Bool.or_eq_false_iff, decide_eq_false_iff_not] at hf
   have hno : ¬ ∀ t ∈ nx.getD x [], bitF fm t.toNat b = true := fun hall => by
    rw [shared_iff.2 hall] at hf
    cases hf.2
   obtain ⟨t, ht⟩ := Classical.not_forall.1 hno
   obtain ⟨ht1, ht2⟩ := Classical.not_imp.1 ht
   have hr := hnx x t ht1
   have hbf : bitF fm t.toNat b = false := by cases hq : bitF fm t.toNat b with | true => exact absurd hq ht2 | false => rfl
   exact .step hf.1 (by rw [Int.toNat_of_nonneg hr.1]; exact ht1) (h.min t.toNat b (by omega) hb hbf)
  ·exact h.min x b hx hb hf
def cntB (fm : List (List Bool)) : Nat := (fm.map fun r => r.count true).sum
theorem cnt_set {fm : List (List Bool)} {a : Nat} (ha : a < fm.length) (l : List Bool) : cntB (fm.set a l) + (fm.getD a []).count true = cntB fm + l.count true := by
 unfold cntB
 induction fm generalizing a with
 | nil => simp at ha
 | cons r fm ih =>
   cases a with
   | zero => simp; omega
   | succ a =>
     have := ih (a := a) (by simpa using ha)
     simp only [List.set_cons_succ, List.map_cons, List.sum_cons, List.getD_cons_succ]
     omega
theorem count_lt : ∀ {r s : List Bool}, r.length = s.length → (∀ b : Nat, r.getD b false = true → s.getD b false = true) → r ≠ s → r.count true < s.count true
 | [], [], _, _, h => absurd rfl h
 | x :: r, y :: s, hl, hle, hne => by
   have h0 := hle 0
   have hr : ∀ b : Nat, r.getD b false = true → s.getD b false = true := fun b hb => hle (b + 1) hb
   have hle2 : r.count true ≤ s.count true := by
    by_cases he : r = s
    ·subst he; exact Nat.le_refl _
    ·exact Nat.le_of_lt (count_lt (by simpa using hl) hr he)
   simp only [List.getD_cons_zero] at h0
   by_cases he : r = s
   ·subst he
    cases x <;> cases y
    ·exact absurd rfl hne
    ·simp
    ·cases h0 rfl
    ·exact absurd rfl hne
   ·have := count_lt (by simpa using hl) hr he
    cases x <;> cases y <;> simp_all <;> omega
theorem FolI.less {n : Nat} {nx : List (List Int)} {fm : List (List Bool)} (h : FolI n nx fm) {a : Nat} (ha : a < n - 1) (hne : rowF n nx fm a ≠ fm.getD a []) : cntB (fm.set a (rowF n nx fm a)) < cntB fm := by
 have hal : a < fm.length := by have := h.len; omega
 have h1 := cnt_set hal (rowF n nx fm a)
 have hrl : (fm.getD a []).length = n := by
  rw [List.getD_eq_getElem?_getD, List.getElem?_eq_getElem hal]
  exact h.rows _ (List.getElem_mem hal)
 have h2 := count_lt (r := rowF n nx fm a) (s := fm.getD a []) (by rw [rowF_len, hrl]) (fun b hb => by
  rcases Nat.lt_or_ge b n with hbn | hbn
  ·exact h.post a b ha hbn hb
  ·rw [List.getD_eq_getElem?_getD, List.getElem?_eq_none (by rw [rowF_len]; exact hbn)] at hb
   cases hb) hne
 omega
end Go.Ab
