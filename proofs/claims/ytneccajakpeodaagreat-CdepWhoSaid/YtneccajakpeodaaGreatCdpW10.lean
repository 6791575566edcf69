/- Matrices of the call's own: an element stored into a row; a row looked at by an operation. -/
import Derived.Laws.StructEq
import Derived.ChangeKeysEq
import Derived.Test.YtneccajakpeodaaGreatCdpW8
import Derived.Test.YtneccajakpeodaaGreatCdpW9
set_option linter.unusedSimpArgs false
set_option linter.unusedVariables false
set_option maxRecDepth 100000
set_option maxHeartbeats 16000000
namespace Go.Ab
open Go.Proofs
theorem heap_setB {σ : Mem} {β : Lab} {H : Heap} {w : World} (h : HRel σ β H w) {k b0 : Nat} {i : BInfo} (hk : k ∈ H.map (·.1)) (hi : β k = some i) (hb0 : i.has b0) {vs : Array Value} {H' : Heap} (hH : H'.map (·.1) = H.map (·.1))
  (hold : ∀ j c, (j, c) ∈ H' → j ≠ k → (j, c) ∈ H) (hnew : ∀ c, (k, c) ∈ H' → c.holds σ β (w.setRow b0 vs) k) :
  HRel σ β H' (w.setRow b0 vs) ∧ Later σ β H w σ β H' (w.setRow b0 vs) := by
 have hap := h.apart k hk i hi b0 hb0
 have hot : ∀ b, b ≠ b0 → (w.setRow b0 vs).heap[b]? = w.heap[b]? := fun b hb => setRow_other w b0 b vs hb
 refine ⟨⟨fun b c hb => ?_, fun j c hj => ?_, by rw [hH]; exact h.nodup, fun j hj i' hi' b hb => ?_, fun j hj j' hj' => h.inj j (hH ▸ hj) j' (hH ▸ hj')⟩, Mem.le_refl σ, ⟨rfl, rfl, rfl, Nat.le_refl _, by simp, fun b _ hn => hot b fun e => hn ⟨k, hk, i, hi, e.symm ▸ hb0⟩⟩, fun b h0 h1 => absurd h0 h1, fun b hb => ?_, fun _ _ _ => rfl⟩
 ·have hne : b ≠ b0 := fun e => by rw [e, hap.1] at hb; cases hb
  obtain ⟨e, fr, hh⟩ := h.mem b c hb
  exact ⟨e, fr, (hot b hne).trans hh⟩
 ·by_cases hjk : j = k
  ·subst hjk; exact hnew c hj
  ·have hm := hold j c hj hjk
   refine (h.chunks j c hm).mono (Mem.le_refl σ) fun i' hi' b hb => hot _ fun e => hjk ?_
   exact h.inj j (List.mem_map.2 ⟨_, hm, rfl⟩) k hk i' i hi' hi b hb (e.symm ▸ hb0)
 ·have := h.apart j (hH ▸ hj) i' hi' b hb
  exact ⟨this.1, by simpa using this.2⟩
 ·obtain ⟨j, hj, i', hi', hb'⟩ := hb
  exact .inl ⟨j, hH ▸ hj, i', hi', hb'⟩
theorem OpK.stEl {P : Program} {T : Tab} {N : Nat} (hT : TabOK P T) {s : St} {o : Oper} {K : St → Prop} {t : TypeId} {x v : Operand} (hop : o.op = .store t x v) (hd : o.dst = none) {k a off : Nat} (hx : evalO s.sl x = .ext k (.rptr a off)) {u : AV} (hv : evalO s.sl v = .p u) (hone : u.one = true) (huc : u.cells = [u])
  {e e2 : TypeId} {rows : List (List AV)} {hole : List Nat} (hg : getH s.H k = some (.ext (.mat e e2 1 rows hole))) {it : TyI} (ht : T.get t = some it) (hsz : it.size = 1) {row : List AV} (hrow : rows[a]? = some row) (hnh : a ∉ hole) (hoff : off < row.length)
  (h : setHK s.H k (.ext (.mat e e2 1 (rows.set a (row.set off u)) hole)) fun H => K ⟨s.sl, H⟩) : OpK P N s o K := by
 refine ⟨fun σ β ac w hr Q => ?_⟩
 obtain ⟨H', hK, h1, h2, h3⟩ := setHK_spec hr.heap.nodup h
 have hx' := evalO_rep hr.slots x
 have hv' := evalO_rep hr.slots v
 rw [hx] at hx'
 rw [hv] at hv'
 have hk1 := getH_label hg
 generalize hxe : ac.eval x = xv at hx'
 generalize hve : ac.eval v = vv at hv'
 cases hv' with
 | p hvr =>
 cases hx' with
 | ext _ _ i _ hi hdx =>
 obtain ⟨b, c, hsub, rfl⟩ := hdx
 rcases hr.heap.chunks k _ (getH_mem hg) with ⟨h0, _⟩ | ⟨i', vs, hi', hisz, hh, hvs, hle, hmax, hsl', hdis, hrows⟩
 ·rw [hi] at h0; cases h0
 rw [hi] at hi'; cases hi'
 have hb : i.has b := .inr ⟨c, List.mem_of_getElem? hsub⟩
 rcases (hrows a row hrow).2 hnh with ⟨h4, _⟩ | ⟨b', c', ws, h4, h5, h6, h7, h8, h9, h10⟩
 ·rw [hsub] at h4; cases h4
 rw [hsub] at h4; cases h4
 have hone' : vv.oneCell' = true := hvr.oneCell hone
 have hcells : vv.cells = #[vv] := by cases vv <;> first | rfl | simp [Value.oneCell'] at hone'
 have hoffw : off < ws.size := by omega
 let ws' : Array Value := (ws.toList.take off ++ [vv] ++ ws.toList.drop (off + 1)).toArray
 have hrun : (execOp ac.eval o).run P w = .ok .skip (w.setRow b ws') := by
  have hst := run_storeCells_at P b off e2 [vv] 0 ws w h6 (by simp; omega) (by simpa using hone')
  simp only [Nat.add_zero, List.length_singleton] at hst
  have hsize := (hT _ _ ht).sizeOf
  simp [execOp, hop, Instr.storeAt, Instr.sureAddr, hxe, hve, storeVar, hsize, hsz, hcells, hst, ws']
 have hcell : ∀ p, ws'[p]? = if p = off then some vv else ws[p]? := fun p => by
  simp only [ws', List.getElem?_toArray]
  by_cases g1 : p < off
  ·rw [if_neg (by omega), List.append_assoc, List.getElem?_append_left (by simp; omega), List.getElem?_take, if_pos g1]; simp
  ·by_cases g2 : p = off
   ·subst g2
    rw [if_pos rfl, List.append_assoc, List.getElem?_append_right (by simp; omega)]
    simp only [List.length_take, Array.length_toList]
    rw [show p - min p ws.size = 0 by omega]
    rfl
   ·rw [if_neg g2, List.getElem?_append_right (by simp; omega)]
    simp only [List.length_append, List.length_take, Array.length_toList, List.length_singleton, List.getElem?_drop, Array.getElem?_toList]
    congr 1
    omega
 have hother : ∀ b', b' ≠ b → (w.setRow b ws').heap[b']? = w.heap[b']? := fun b' hb' => setRow_other w b b' ws' hb'
 have hal : a < rows.length := (List.getElem?_eq_some_iff.1 hrow).1
 obtain ⟨h11, h12⟩ := heap_setB hr.heap hk1 hi hb (vs := ws') h1 h2 (fun d hd => h3 d hd ▸ by
  refine .inr ⟨i, vs, hi, hisz, (hother _ (hdis a b c hsub).1).trans hh, hvs, by simpa using hle, hmax, by simpa using hsl', hdis, fun a' row' hra => ⟨fun hin => ?_, fun hnin => ?_⟩⟩
  ·by_cases g : a' = a
   ·subst g; exact absurd hin hnh
   ·rw [List.getElem?_set_ne (Ne.symm g)] at hra
    exact (hrows a' row' hra).1 hin
  ·by_cases g : a' = a
   ·subst g
    rw [List.getElem?_set_self hal] at hra
    cases hra
    refine .inr ⟨b, c, ws', hsub, by simpa using h5, setRow_heap w b ws _ e2 _ h6, ?_, by simpa using h8, h9, fun m y hy => ?_⟩
    ·simp only [ws', List.size_toArray, List.length_append, List.length_take, List.length_drop, Array.length_toList, List.length_singleton]
     omega
    ·by_cases gm : m = off
     ·subst gm
      rw [List.getElem?_set_self hoff] at hy
      cases hy
      refine ⟨by rw [huc]; rfl, fun j c' hj => ?_⟩
      rw [huc] at hj
      match j, hj with
      | 0, hj => cases hj; exact ⟨vv, by rw [Nat.mul_one, Nat.add_zero, hcell, if_pos rfl], hvr⟩
      | j + 1, hj => simp at hj
     ·rw [List.getElem?_set_ne (Ne.symm gm)] at hy
      obtain ⟨g1, g2⟩ := h10 m y hy
      refine ⟨g1, fun j c' hj => ?_⟩
      obtain ⟨u', g3, g4⟩ := g2 j c' hj
      have hj0 : j = 0 := by
       have := (List.getElem?_eq_some_iff.1 hj).1
       omega
      subst hj0
      exact ⟨u', by rw [hcell, if_neg (by omega)]; exact g3, g4⟩
   ·rw [List.getElem?_set_ne (Ne.symm g)] at hra
    rcases (hrows a' row' hra).2 hnin with g1 | ⟨b1, c1, ws1, g1, g2, g3, g4⟩
    ·exact .inl g1
    ·refine .inr ⟨b1, c1, ws1, g1, g2, (hother b1 fun he => ?_).trans g3, g4⟩
     subst he
     exact g ((hdis a b1 c hsub).2 a' c1 g1))
 refine wp_skip' hrun ⟨σ, β, ⟨s.sl, H'⟩, hK, ⟨?_, ?_, ?_, h11⟩, h12⟩
 ·rw [hd]; exact hr.size
 ·rw [hd]; exact hr.defers
 ·rw [hd]; exact hr.slots
theorem focBack_eq {s : St} {k k2 : Nat} {c c2 : Chunk} {K : St → Prop} (h : focBack s k k2 c c2 K) : ∃ s2, K s2 ∧ focBack s k k2 c c2 fun s3 => s3 = s2 := by
 unfold focBack at h ⊢
 obtain ⟨sl, h1, _⟩ := mapSK_spec (by rfl) h
 have key : ∀ {f : LV → LV} {l : List (Nat × LV)} {K : List (Nat × LV) → Prop}, mapSK f l K ↔ K (l.map fun x => (x.1, f x.2)) := fun {f} l => by
  induction l with
  | nil => intro K; rfl
  | cons x r ih => intro K; simp only [mapSK, forceLV_eq, ih, List.map_cons]
 have key2 : ∀ {f : LV → LV} {c : Chunk} {H : Heap}, ∃ H', ∀ K : Heap → Prop, matHK k k2 f c H K ↔ K H' := fun {f c} H => by
  induction H with
  | nil => exact ⟨[], fun K => Iff.rfl⟩
  | cons x r ih =>
    obtain ⟨H', hH'⟩ := ih
    obtain ⟨j, d⟩ := x
    simp only [matHK, mapCK_eq]
    cases j == k2 with
    | true => exact ⟨H', fun K => by simp only [cond_true]; exact hH' _⟩
    | false =>
      cases j == k with
      | true => exact ⟨(j, c) :: H', fun K => by simp only [cond_true, cond_false]; exact hH' _⟩
      | false => exact ⟨(j, d.mapL f) :: H', fun K => by simp only [cond_false]; exact hH' _⟩
 rw [key] at h
 simp only [key]
 obtain ⟨H', hH'⟩ := key2 (f := LV.xkill k) (c := c) (H := s.H)
 rw [hH'] at h
 exact ⟨_, h, (hH' _).2 rfl⟩
theorem OpK.focus {P : Program} {T : Tab} {N : Nat} (hT : TabOK P T) {s : St} {o : Oper} {K : St → Prop} (t k a k2 : Nat) {e e2 sz : Nat} {rows : List (List AV)} {hole : List Nat} {row : List AV} (hu : usable k2 s = true) (hg : getH s.H k = some (.ext (.mat e e2 sz rows hole)))
  (hrow : rows[a]? = some row) (hnh : a ∉ hole) (hpin : pinned k = false) (ht : getS s.sl t = .ext k (.row a row.length))
  (h : focBack s k k2 (.ext (.mat e e2 sz rows (a :: hole))) (.own e2 sz row) fun s2 => opW P T N ⟨(t, .hd k2 0 row.length) :: s2.sl, s2.H⟩ o K) : OpK P N s o K := by
 obtain ⟨s2, h, he⟩ := focBack_eq h
 refine ⟨fun σ β ac w hr Q => ?_⟩
 obtain ⟨β', hr', hl, hrep, hrow'⟩ := foc_step hr hu hg hrow hnh hpin he
 have hr2 : Rel N σ β' ⟨(t, .hd k2 0 row.length) :: s2.sl, s2.H⟩ ac w := ⟨hr'.size, hr'.defers, fun i => by
  show RepL σ β' (getS ((t, .hd k2 0 row.length) :: s2.sl) i) _
  simp only [getS]
  cases hi : t == i with
  | true =>
    have : t = i := by simpa using hi
    subst this
    have h1 := hr.slots t
    rw [ht] at h1
    exact hrow' _ h1
  | false => exact hr'.slots i, hr'.heap⟩
 exact Oper.wp_mono (fun a' w' ⟨σ', β'', s3, hK, hr3, hl3⟩ => ⟨σ', β'', s3, hK, hr3, hl.trans hl3⟩) (opW_sound hT h hr2 Q)
open Go.Proofs
theorem step_rep {σ : Mem} {a : Step} {v : Value} (h : Rep σ (.agg a.cells) v) : v = .agg #[.int .i64 a.src, .int .i64 a.dst, .int .i64 a.kind] := by
 cases h with
 | agg cs vs u hn hc hr =>
   have hs : vs.size = 3 := hn
   have g : ∀ (j : Nat) (n : Int), a.cells[j]? = some (.int .i64 n) → vs[j]? = some (.int .i64 n) := fun j n hj => by
    have h1 := hc j _ hj
    have h2 := hr j _ hj
    cases hu : u j <;> rw [hu] at h2 <;> cases h2
    rw [h1, hu]
   congr 1
   apply Array.ext_getElem?
   intro i
   match i with
   | 0 => exact g 0 _ rfl
   | 1 => exact g 1 _ rfl
   | 2 => exact g 2 _ rfl
   | i + 3 => rw [Array.getElem?_eq_none (by omega), Array.getElem?_eq_none (by simp)]
theorem ValO.steps {hr : Bool} {s : St} {o : Oper} {K : LV → Prop} {x y : Operand} {u : TypeId} (hop : o.op = .binOp .eql 79 x y u) {a b : Step} (hx : evalO s.sl x = .p (.agg a.cells)) (hy : evalO s.sl y = .p (.agg b.cells))
  (hK : K (.p (.bool (decide (a = b))))) : ValO Tryz.prog hr s o K := by
 refine ⟨fun σ β ac w hs _ => ⟨_, .bool (decide (a = b)), hK, .p (.bool _), fun w' _ _ => ?_⟩⟩
 have h1 : ac.eval x = .agg #[.int .i64 a.src, .int .i64 a.dst, .int .i64 a.kind] := by
  have := evalO_rep hs x
  rw [hx] at this
  cases this with
  | p h => exact step_rep h
 have h2 : ac.eval y = .agg #[.int .i64 b.src, .int .i64 b.dst, .int .i64 b.kind] := by
  have := evalO_rep hs y
  rw [hy] at this
  cases this with
  | p h => exact step_rep h
 have hu : Tryz.prog.underlying 79 = some (.struct (Tryz.prog.fieldsOf 79)) := by kernel_rfl
 have hi : Tryz.prog.underlying 3 = some (.int .i64) := by kernel_rfl
 have hf : (Tryz.prog.fieldsOf 79).toList = (match ty79.desc with | .struct fs => fs.toList | _ => []) := by kernel_rfl
 have he : (Op.equalIn 10000 79 (.agg #[.int .i64 a.src, .int .i64 a.dst, .int .i64 a.kind]) (.agg #[.int .i64 b.src, .int .i64 b.dst, .int .i64 b.kind])).run Tryz.prog w' = .ok (decide (a = b)) w' := by
  rw [run_equalIn_struct w' 9999 _ _ _ hu (by kernel_rfl), hf]
  simp only [ty79, Op.eqFields]
  have p0 : ∀ x y z : Int, (part 3 #[.int .i64 x, .int .i64 y, .int .i64 z] 0).run Tryz.prog w' = .ok (.int .i64 x) w' := fun x y z => run_part_plain w' (by kernel_rfl) rfl
  have p1 : ∀ x y z : Int, (part 3 #[.int .i64 x, .int .i64 y, .int .i64 z] 1).run Tryz.prog w' = .ok (.int .i64 y) w' := fun x y z => run_part_plain w' (by kernel_rfl) rfl
  have p2 : ∀ x y z : Int, (part 3 #[.int .i64 x, .int .i64 y, .int .i64 z] 2).run Tryz.prog w' = .ok (.int .i64 z) w' := fun x y z => run_part_plain w' (by kernel_rfl) rfl
  have ei : ∀ x y : Int, (Op.equalIn 9999 3 (.int .i64 x) (.int .i64 y)).run Tryz.prog w' = .ok (x == y) w' := fun a b => run_equalIn_int (P := Tryz.prog) w' 9998 3 .i64 .i64 a b hi
  have e : decide (a = b) = ((a.src == b.src) && ((a.dst == b.dst) && (a.kind == b.kind))) := by
   cases a; cases b
   simp only [Step.mk.injEq, Bool.decide_and]
   rfl
  simp only [ne_eq, show ¬ ("From" = "_") by decide, show ¬ ("To" = "_") by decide, show ¬ ("Kind" = "_") by decide, not_false_eq_true, if_true, Sem.run_bind, p0, p1, p2, Result.andThen_ok, ei, Sem.run_ite, Sem.run_pure, e]
  cases (a.src == b.src) <;> cases (a.dst == b.dst) <;> cases (a.kind == b.kind) <;> simp
 simp only [execOp, hop, h1, h2, Sem.run_bind, run_eqGuard_agg _ _ _ _ _ _ _ (show Tryz.prog.eqGuardType Tryz.prog.depth 79 = false by kernel_rfl), Result.andThen_ok, run_eql_struct, he, Sem.run_pure]
open Go.Proofs
theorem take_same {α : Type} {l m : List α} {j : Nat} (h : l.take j = m.take j) (hl : j < l.length) (hm : j < m.length) (he : l[j] = m[j]) : l.take (j + 1) = m.take (j + 1) := by
 rw [List.take_succ_eq_append_getElem hl, List.take_succ_eq_append_getElem hm, h, he]
theorem all_same {α : Type} {l m : List α} {j : Nat} (h : l.take j = m.take j) (hl : l.length ≤ j) (hm : m.length ≤ j) : l = m := by
 rwa [List.take_of_length_le hl, List.take_of_length_le hm] at h
end Go.Ab
