/- Two steps held against each other. Conditions: none. -/
import Derived.Laws.StructEq
import Derived.ChangeKeysEq
import Derived.Test.YtngohbblmlokoaaGreatCdpI7
import Derived.Test.YtngohbblmlokoaaGreatCdpI9
set_option linter.unusedSimpArgs false
set_option linter.unusedVariables false
namespace Go.Ab
open Go.Proofs
theorem step_rep {σ : Mem} {a : Step} {v : Value} (h : Rep σ (.agg a.cells) v) : v = .agg #[.int .i64 a.src, .int .i64 a.dst, .int .i64 a.kind] := by
  cases h with
  | agg cs vs u hn hc hr =>
    have hs : vs.size = 3 := hn
    have g : ∀ (j : Nat) (n : Int), a.cells[j]? = some (.int .i64 n) → vs[j]? = some (.int .i64 n) := fun j n hj => by
      have h1 := hc j _ hj
      have h2 := hr j _ hj
      cases hu : u j <;> rw [hu] at h2 <;> cases h2
      rw [h1, hu]
    congr 1
    apply Array.ext_getElem?
    intro i
    match i with
    | 0 => exact g 0 _ rfl
    | 1 => exact g 1 _ rfl
    | 2 => exact g 2 _ rfl
    | i + 3 => rw [Array.getElem?_eq_none (by omega), Array.getElem?_eq_none (by simp)]
theorem ValO.steps {hr : Bool} {s : St} {o : Oper} {K : LV → Prop} {x y : Operand} {u : TypeId} (hop : o.op = .binOp .eql 49 x y u) {a b : Step} (hx : evalO s.sl x = .p (.agg a.cells)) (hy : evalO s.sl y = .p (.agg b.cells))
    (hK : K (.p (.bool (decide (a = b))))) : ValO Tryz.prog hr s o K := by
  refine ⟨fun σ β ac w hs _ => ⟨_, .bool (decide (a = b)), hK, .p (.bool _), fun w' _ _ => ?_⟩⟩
  have h1 : ac.eval x = .agg #[.int .i64 a.src, .int .i64 a.dst, .int .i64 a.kind] := by
    have := evalO_rep hs x
    rw [hx] at this
    cases this with
    | p h => exact step_rep h
  have h2 : ac.eval y = .agg #[.int .i64 b.src, .int .i64 b.dst, .int .i64 b.kind] := by
    have := evalO_rep hs y
    rw [hy] at this
    cases this with
    | p h => exact step_rep h
  have hu : Tryz.prog.underlying 49 = some (.struct (Tryz.prog.fieldsOf 49)) := by kernel_rfl
  have hi : Tryz.prog.underlying 3 = some (.int .i64) := by kernel_rfl
  have hf : (Tryz.prog.fieldsOf 49).toList = (match ty49.desc with | .struct fs => fs.toList | _ => []) := by kernel_rfl
  have he : (Op.equalIn 10000 49 (.agg #[.int .i64 a.src, .int .i64 a.dst, .int .i64 a.kind]) (.agg #[.int .i64 b.src, .int .i64 b.dst, .int .i64 b.kind])).run Tryz.prog w' = .ok (decide (a = b)) w' := by
    rw [run_equalIn_struct w' 9999 _ _ _ hu (by kernel_rfl), hf]
    simp only [ty49, Op.eqFields]
    have p0 : ∀ x y z : Int, (part 3 #[.int .i64 x, .int .i64 y, .int .i64 z] 0).run Tryz.prog w' = .ok (.int .i64 x) w' := fun x y z => run_part_plain w' (by kernel_rfl) rfl
    have p1 : ∀ x y z : Int, (part 3 #[.int .i64 x, .int .i64 y, .int .i64 z] 1).run Tryz.prog w' = .ok (.int .i64 y) w' := fun x y z => run_part_plain w' (by kernel_rfl) rfl
    have p2 : ∀ x y z : Int, (part 3 #[.int .i64 x, .int .i64 y, .int .i64 z] 2).run Tryz.prog w' = .ok (.int .i64 z) w' := fun x y z => run_part_plain w' (by kernel_rfl) rfl
    have ei : ∀ x y : Int, (Op.equalIn 9999 3 (.int .i64 x) (.int .i64 y)).run Tryz.prog w' = .ok (x == y) w' := fun a b => run_equalIn_int (P := Tryz.prog) w' 9998 3 .i64 .i64 a b hi
    have e : decide (a = b) = ((a.src == b.src) && ((a.dst == b.dst) && (a.kind == b.kind))) := by
      cases a; cases b
      simp only [Step.mk.injEq, Bool.decide_and]
      rfl
    simp only [ne_eq, show ¬ ("From" = "_") by decide, show ¬ ("To" = "_") by decide, show ¬ ("Kind" = "_") by decide, not_false_eq_true, if_true, Sem.run_bind, p0, p1, p2, Result.andThen_ok, ei, Sem.run_ite, Sem.run_pure, e]
    cases (a.src == b.src) <;> cases (a.dst == b.dst) <;> cases (a.kind == b.kind) <;> simp
  simp only [execOp, hop, h1, h2, Sem.run_bind, run_eqGuard_agg _ _ _ _ _ _ _ (show Tryz.prog.eqGuardType Tryz.prog.depth 49 = false by kernel_rfl), Result.andThen_ok, run_eql_struct, he, Sem.run_pure]
end Go.Ab
namespace Go.Ab
open Go.Proofs
theorem take_same {α : Type} {l m : List α} {j : Nat} (h : l.take j = m.take j) (hl : j < l.length) (hm : j < m.length) (he : l[j] = m[j]) : l.take (j + 1) = m.take (j + 1) := by
  rw [List.take_succ_eq_append_getElem hl, List.take_succ_eq_append_getElem hm, h, he]
theorem all_same {α : Type} {l m : List α} {j : Nat} (h : l.take j = m.take j) (hl : l.length ≤ j) (hm : m.length ≤ j) : l = m := by
  rwa [List.take_of_length_le hl, List.take_of_length_le hm] at h
end Go.Ab
