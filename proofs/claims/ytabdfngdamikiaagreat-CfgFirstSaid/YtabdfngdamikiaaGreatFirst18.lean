/- The reference's small program. -/
import Derived.Laws.StructEq
import Derived.ChangeKeysEq
import Derived.Test.YtabdfngdamikiaaGreatFirst7
import Derived.Test.YtabdfngdamikiaaGreatFirst12
import Derived.Test.YtabdfngdamikiaaGreatFirst17
set_option linter.unusedSimpArgs false
set_option linter.unusedVariables false
namespace Go.Ab
open Go.Proofs
/-- Rows whose elements say less. -/
inductive SubE : List AV → List AV → Prop
  | nil : SubE [] []
  | cons {a b : AV} {xs ys : List AV} (h : SubL a.cells b.cells) (hs : SubE xs ys) : SubE (a :: xs) (b :: ys)
theorem SubE.get {xs ys : List AV} (h : SubE xs ys) : xs.length = ys.length ∧ ∀ (i : Nat) (b : AV), ys[i]? = some b → ∃ a, xs[i]? = some a ∧ SubL a.cells b.cells := by
  induction h with
  | nil => exact ⟨rfl, by simp⟩
  | cons h hs ih =>
    refine ⟨by simp [ih.1], fun i b hb => ?_⟩
    cases i with
    | zero => simp at hb; subst hb; exact ⟨_, rfl, h⟩
    | succ i => exact ih.2 i b (by simpa using hb)
theorem Sub.sl {xs ys : List AV} (h : SubE xs ys) : Sub (.sl xs) (.sl ys) := fun σ v hr => by
  obtain ⟨hl, hg⟩ := h.get
  cases hr with
  | nilsl =>
    obtain rfl : ys = [] := by simpa using hl.symm
    exact .nilsl
  | slz b =>
    obtain rfl : ys = [] := by simpa using hl.symm
    exact .slz b
  | sl _ b off cap sz cells u hb hcap hmax hsz hc hrr =>
    rw [hl]
    refine .sl ys b off cap sz cells u hb (by omega) hmax (fun i e hi => ?_) (fun i e j c hi hj => ?_) (fun i e j c hi hj => ?_)
    · obtain ⟨a, h1, h2⟩ := hg i e hi
      rw [← hsz i a h1, h2.1]
    · obtain ⟨a, h1, h2⟩ := hg i e hi
      obtain ⟨d, h3, _⟩ := h2.get hj
      exact hc i a j d h1 h3
    · obtain ⟨a, h1, h2⟩ := hg i e hi
      obtain ⟨d, h3, h4⟩ := h2.get hj
      exact h4 _ _ (hrr i a j d h1 h3)
set_option maxRecDepth 100000 in
theorem whittlerref3_num (n : Int) : SpecP Tryz.prog 108 [.int .i64 n] (fun r => r = .agg (X.mk 1 n [] []).cells) := by
  refine SpecP.body I_whittlerref3_num tabOK Tryz.func108 rfl Tryz.call108 (by show 1 ≤ _; decide) ?_
  conv => whnf
  repeat' (
    first
    | (intro (_ : _ ≤ 9223372036854775807); conv => whnf)
    | (refine Br.dec (fun _ => ?_) (fun _ => ?_) <;> first | (exfalso; omega) | conv => whnf)
    | (refine Br.dec2 (fun _ => ?_) (fun _ => ?_) <;> first | (exfalso; omega) | conv => whnf)
    | (refine DrawK.auto tabOK mixed (by kernel_rfl) ?_; conv => whnf)
    | (refine Br.n (fun _ => ?_) (fun _ => ?_) <;> conv => whnf)
    | (refine Br.b (fun _ => ?_) (fun _ => ?_) <;> conv => whnf)
    | (refine And.intro rfl ?_; conv => whnf)
    | (refine And.intro ⟨by decide, by decide⟩ ?_; conv => whnf)
    | (refine And.intro ⟨rfl, rfl, by decide⟩ ?_; conv => whnf)
    | (refine BsK.pure (fun x hx => by rcases List.mem_singleton.1 hx with rfl; rfl) rfl ?_; conv => whnf)
    | (refine IdxK.map (by omega) (fun _ => rfl) ?_; conv => whnf)
    | (refine IdxK.xs (by omega) ?_; conv => whnf)
    | (refine IdxK.ss (by omega) ?_; conv => whnf)
    | (refine ByteK.at (by omega) ?_; conv => whnf)
    | (refine Wr.i64 (by omega) (by omega) ?_; conv => whnf))
  exact ⟨_, .p (Sub.agg (by repeat' (first | exact SubL.nil | refine SubL.cons ?_ ?_ | exact Sub.refl _ | exact Sub.nils | exact Sub.ff rfl))), rfl⟩
set_option maxRecDepth 100000 in
theorem whittlerref3_name (s : Str) : SpecP Tryz.prog 109 [.str s] (fun r => r = .agg (X.mk 2 0 s []).cells) := by
  refine SpecP.body I_whittlerref3_name tabOK Tryz.func109 rfl Tryz.call109 (by show 1 ≤ _; decide) ?_
  conv => whnf
  repeat' (
    first
    | (intro (_ : _ ≤ 9223372036854775807); conv => whnf)
    | (refine Br.dec (fun _ => ?_) (fun _ => ?_) <;> first | (exfalso; omega) | conv => whnf)
    | (refine Br.dec2 (fun _ => ?_) (fun _ => ?_) <;> first | (exfalso; omega) | conv => whnf)
    | (refine DrawK.auto tabOK mixed (by kernel_rfl) ?_; conv => whnf)
    | (refine Br.n (fun _ => ?_) (fun _ => ?_) <;> conv => whnf)
    | (refine Br.b (fun _ => ?_) (fun _ => ?_) <;> conv => whnf)
    | (refine And.intro rfl ?_; conv => whnf)
    | (refine And.intro ⟨by decide, by decide⟩ ?_; conv => whnf)
    | (refine And.intro ⟨rfl, rfl, by decide⟩ ?_; conv => whnf)
    | (refine BsK.pure (fun x hx => by rcases List.mem_singleton.1 hx with rfl; rfl) rfl ?_; conv => whnf)
    | (refine IdxK.map (by omega) (fun _ => rfl) ?_; conv => whnf)
    | (refine IdxK.xs (by omega) ?_; conv => whnf)
    | (refine IdxK.ss (by omega) ?_; conv => whnf)
    | (refine ByteK.at (by omega) ?_; conv => whnf)
    | (refine Wr.i64 (by omega) (by omega) ?_; conv => whnf))
  exact ⟨_, .p (Sub.agg (by repeat' (first | exact SubL.nil | refine SubL.cons ?_ ?_ | exact Sub.refl _ | exact Sub.nils | exact Sub.ff rfl))), rfl⟩
set_option maxRecDepth 100000 in
theorem whittlerref3_two (op : Int) (a b : X) : SpecP Tryz.prog 110 [.int .i64 op, .agg a.cells, .agg b.cells] (fun r => r = .agg (X.mk op 0 [] [a, b]).cells) := by
  refine SpecP.body I_whittlerref3_two tabOK Tryz.func110 rfl Tryz.call110 (by show 3 ≤ _; decide) ?_
  conv => whnf
  repeat' (
    first
    | (intro (_ : _ ≤ 9223372036854775807); conv => whnf)
    | (refine Br.dec (fun _ => ?_) (fun _ => ?_) <;> first | (exfalso; omega) | conv => whnf)
    | (refine Br.dec2 (fun _ => ?_) (fun _ => ?_) <;> first | (exfalso; omega) | conv => whnf)
    | (refine DrawK.auto tabOK mixed (by kernel_rfl) ?_; conv => whnf)
    | (refine Br.n (fun _ => ?_) (fun _ => ?_) <;> conv => whnf)
    | (refine Br.b (fun _ => ?_) (fun _ => ?_) <;> conv => whnf)
    | (refine And.intro rfl ?_; conv => whnf)
    | (refine And.intro ⟨by decide, by decide⟩ ?_; conv => whnf)
    | (refine And.intro ⟨rfl, rfl, by decide⟩ ?_; conv => whnf)
    | (refine BsK.pure (fun x hx => by rcases List.mem_singleton.1 hx with rfl; rfl) rfl ?_; conv => whnf)
    | (refine IdxK.map (by omega) (fun _ => rfl) ?_; conv => whnf)
    | (refine IdxK.xs (by omega) ?_; conv => whnf)
    | (refine IdxK.ss (by omega) ?_; conv => whnf)
    | (refine ByteK.at (by omega) ?_; conv => whnf)
    | (refine Wr.i64 (by omega) (by omega) ?_; conv => whnf)
    | (refine BsK.pureL rfl rfl ?_; conv => whnf))
  have e : X.avs [a, b] = [.agg a.cells, .agg b.cells] := by simp only [X.avs, X.av_eq]
  exact ⟨_, .p (Sub.agg (SubL.cons (Sub.refl _) (SubL.cons (Sub.refl _) (SubL.cons (Sub.refl _) (SubL.cons (Sub.of_eq (by show _ = AV.sl (X.avs [a, b]); rw [e]; rfl)) SubL.nil))))), rfl⟩
def bs (l : List Nat) : Str := l.map fun n => UInt8.ofNat n
def someP : Pg := ⟨[[103]], [
  ⟨[109, 97, 105, 110], [], [[118]], [
    .mk 1 1 [] [118] [] (.mk 1 2 [] []) false [] [] [],
    .mk 2 4 [] [103] [112] (.mk 0 0 [] []) false [⟨false, [], .mk 1 3 [] []⟩, ⟨true, [118], .mk 0 0 [] []⟩] [] [],
    .mk 3 3 [] [] [] (.mk 2 0 [118] []) false [] [] [],
    .mk 4 3 [] [] [] (.mk 2 0 [103] []) false [] [] []], []⟩,
  ⟨[112], [⟨[120], false⟩, ⟨[121], true⟩], [], [
    .mk 5 1 [] [121] [] (.mk 8 0 [] [.mk 2 0 [121] [], .mk 2 0 [120] []]) false [] [] [],
    .mk 6 5 [] [] [] (.mk 12 0 [] [.mk 2 0 [121] [], .mk 1 9 [] []]) false [] [.mk 7 10 [] [101] [] (.mk 0 0 [] []) false [] [] []] [],
    .mk 8 9 [] [] [] (.mk 2 0 [121] []) true [] [] []], [[101]]⟩]⟩
set_option maxHeartbeats 4000000 in
set_option maxRecDepth 100000 in
theorem whittlerref3_Some : SpecP Tryz.prog 61 [] (fun r => r = .agg someP.cells) := by
  refine SpecP.body I_whittlerref3_Some tabOK Tryz.func61 rfl Tryz.call61 (by show 0 ≤ _; decide) ?_
  conv => whnf
  repeat' (
    first
    | (intro (_ : _ ≤ 9223372036854775807); conv => whnf)
    | (refine Br.dec (fun _ => ?_) (fun _ => ?_) <;> first | (exfalso; omega) | conv => whnf)
    | (refine Br.dec2 (fun _ => ?_) (fun _ => ?_) <;> first | (exfalso; omega) | conv => whnf)
    | (refine DrawK.auto tabOK mixed (by kernel_rfl) ?_; conv => whnf)
    | (refine Br.n (fun _ => ?_) (fun _ => ?_) <;> conv => whnf)
    | (refine Br.b (fun _ => ?_) (fun _ => ?_) <;> conv => whnf)
    | (refine CallK.pure (whittlerref3_num _) (by repeat' (first | exact ArgP.nil | refine ArgP.cons ?_ ?_ | exact Sub.refl _ | exact Sub.tt rfl | exact Sub.ff rfl)) ?_; rintro _ rfl; conv => whnf)
    | (refine CallK.pure (whittlerref3_name _) (by repeat' (first | exact ArgP.nil | refine ArgP.cons ?_ ?_ | exact Sub.refl _ | exact Sub.tt rfl | exact Sub.ff rfl)) ?_; rintro _ rfl; conv => whnf)
    | (refine And.intro rfl ?_; conv => whnf)
    | (refine And.intro ⟨by decide, by decide⟩ ?_; conv => whnf)
    | (refine And.intro ⟨rfl, rfl, by decide⟩ ?_; conv => whnf)
    | (refine BsK.pure (fun x hx => by rcases List.mem_singleton.1 hx with rfl; rfl) rfl ?_; conv => whnf)
    | (refine IdxK.map (by omega) (fun _ => rfl) ?_; conv => whnf)
    | (refine IdxK.xs (by omega) ?_; conv => whnf)
    | (refine IdxK.ss (by omega) ?_; conv => whnf)
    | (refine ByteK.at (by omega) ?_; conv => whnf)
    | (refine Wr.i64 (by omega) (by omega) ?_; conv => whnf)
    | (refine BsK.pureL rfl rfl ?_; conv => whnf)
    | (refine CallK.pure (whittlerref3_two 8 (.mk 2 0 [121] []) (.mk 2 0 [120] [])) (.cons (Sub.refl _) (.cons (Sub.refl _) (.cons (Sub.refl _) .nil))) ?_; rintro _ rfl; conv => whnf)
    | (refine CallK.pure (whittlerref3_two 12 (.mk 2 0 [121] []) (.mk 1 9 [] [])) (.cons (Sub.refl _) (.cons (Sub.refl _) (.cons (Sub.refl _) .nil))) ?_; rintro _ rfl; conv => whnf))
  exact ⟨_, .p (Sub.agg (by repeat' (first | exact SubL.nil | exact SubE.nil | exact Sub.nils | exact Sub.ff rfl | exact Sub.tt rfl | refine SubL.cons ?_ ?_ | refine SubE.cons ?_ ?_ | exact Sub.refl _ | refine Sub.agg ?_ | refine Sub.sl ?_))), rfl⟩
end Go.Ab
namespace Go.Ab
open Go.Proofs
theorem some_fit : Fit someP := by unfold Fit; decide
theorem some_chk : chkB someP = true := by kernel_rfl
theorem some_first : firstR someP [112] = (5, true) := by kernel_rfl
theorem some_behind : behR someP 7 = (8, true) := by kernel_rfl
def f0 : Pr := someP.procs[0]'(by decide)
def f1 : Pr := someP.procs[1]'(by decide)
theorem norm0 : normS (stepsRaw someP 0 f0) = [⟨0, 1, 1⟩, ⟨1, 2, 1⟩, ⟨2, 3, 1⟩, ⟨3, 4, 1⟩, ⟨4, -1, 1⟩] := by
  have h1 : stepsRaw someP 0 f0 = [⟨0, 1, 1⟩, ⟨1, 2, 1⟩, ⟨2, 3, 1⟩, ⟨3, 4, 1⟩, ⟨4, -1, 1⟩] := by kernel_rfl
  unfold normS sortSt
  rw [h1, List.mergeSort_of_pairwise (by decide)]
  rfl
theorem norm1 : normS (stepsRaw someP 1 f1) = [⟨0, 5, 1⟩, ⟨5, 6, 1⟩, ⟨6, 7, 1⟩, ⟨6, 8, 1⟩, ⟨7, -1, 1⟩, ⟨8, -1, 1⟩] := by
  have h1 : stepsRaw someP 1 f1 = [⟨0, 5, 1⟩, ⟨5, 6, 1⟩, ⟨6, 7, 1⟩, ⟨6, 8, 1⟩, ⟨7, -1, 1⟩, ⟨8, -1, 1⟩] := by kernel_rfl
  unfold normS sortSt
  rw [h1, List.mergeSort_of_pairwise (by decide)]
  rfl
theorem some_way : wayO someP [112] = some (newWay someP 1 f1) := by
  unfold wayO
  rw [some_chk]
  rfl
theorem some_of : (ofR someP [112]).length = 6 := by
  unfold ofR
  rw [some_way]
  show (normS (stepsRaw someP 1 f1)).length = 6
  rw [norm1]
  rfl
theorem some_live : (liveR someP [112]).length = 4 := by
  unfold liveR
  rw [some_way]
  show (liveL (newWay someP 1 f1)).length = 4
  unfold newWay
  simp only [norm1]
  kernel_rfl
theorem e00 : endsW (newWay someP 0 f0) f0 [] = false := by
  unfold newWay
  simp only [norm0]
  kernel_rfl
theorem e10 : endsW (newWay someP 1 f1) f1 [] = true := by
  unfold newWay
  simp only [norm1]
  kernel_rfl
theorem e01 : endsW (newWay someP 0 f0) f0 [[112]] = true := by
  unfold newWay
  simp only [norm0]
  kernel_rfl
theorem some_ends : (endsR someP).length = 2 := by
  have r1 : roundE someP [] = ([[112]], true) := by
    show endS someP (endS someP ([], false) 0) 1 = _
    have h1 : endS someP ([], false) 0 = ([], false) := by
      show (bif true && endsW (newWay someP 0 f0) f0 [] then _ else _) = _
      rw [e00]
      rfl
    rw [h1]
    show (bif true && endsW (newWay someP 1 f1) f1 [] then _ else _) = _
    rw [e10]
    rfl
  have r2 : roundE someP [[112]] = ([[112], [109, 97, 105, 110]], true) := by
    show endS someP (endS someP ([[112]], false) 0) 1 = _
    have h1 : endS someP ([[112]], false) 0 = ([[112], [109, 97, 105, 110]], true) := by
      show (bif true && endsW (newWay someP 0 f0) f0 [[112]] then _ else _) = _
      rw [e01]
      rfl
    rw [h1]
    rfl
  have r3 : roundE someP [[112], [109, 97, 105, 110]] = ([[112], [109, 97, 105, 110]], false) := by
    show endS someP (endS someP ([[112], [109, 97, 105, 110]], false) 0) 1 = _
    rfl
  have h : endsF someP (someP.procs.length + 1) [] = [[112], [109, 97, 105, 110]] := by
    show endsF someP 3 [] = _
    rw [endsF, r1, cond_true, endsF, r2, cond_true, endsF, r3]
    rfl
  unfold endsR
  rw [some_chk, cond_true, h, sortS_len]
  rfl
set_option maxHeartbeats 2000000 in
set_option maxRecDepth 100000 in
theorem whittlerlaw15_flowing : SpecP Tryz.prog 15 [] (fun r => r = .tt) := by
  have hB := cfg_Behind someP some_fit 7
  rw [some_behind] at hB
  have hF := cfg_First someP some_fit [112]
  rw [some_first] at hF
  have hO := some_of
  have hL := some_live
  have hE := some_ends
  refine SpecP.body I_whittlerlaw15_flowing tabOK Tryz.func15 rfl Tryz.call15 (by show 0 ≤ _; decide) ?_
  conv => whnf
  repeat' (
    first
    | (intro (_ : _ ≤ 9223372036854775807); conv => whnf)
    | (refine Br.dec (fun _ => ?_) (fun _ => ?_) <;> first | (exfalso; omega) | conv => whnf)
    | (refine Br.dec2 (fun _ => ?_) (fun _ => ?_) <;> first | (exfalso; omega) | conv => whnf)
    | (refine DrawK.auto tabOK mixed (by kernel_rfl) ?_; conv => whnf)
    | (refine Br.n (fun _ => ?_) (fun _ => ?_) <;> conv => whnf)
    | (refine Br.b (fun _ => ?_) (fun _ => ?_) <;> conv => whnf)
    | (refine And.intro rfl ?_; conv => whnf)
    | (refine And.intro ⟨by decide, by decide⟩ ?_; conv => whnf)
    | (refine And.intro ⟨rfl, rfl, by decide⟩ ?_; conv => whnf)
    | (refine BsK.pure (fun x hx => by rcases List.mem_singleton.1 hx with rfl; rfl) rfl ?_; conv => whnf)
    | (refine IdxK.map (by omega) (fun _ => rfl) ?_; conv => whnf)
    | (refine IdxK.xs (by omega) ?_; conv => whnf)
    | (refine IdxK.ss (by omega) ?_; conv => whnf)
    | (refine ByteK.at (by omega) ?_; conv => whnf)
    | (refine Wr.i64 (by omega) (by omega) ?_; conv => whnf)
    | (refine CallK.pure whittlerref3_Some .nil ?_; rintro _ rfl; conv => whnf)
    | (refine CallK.pure hB (.cons (Sub.refl _) (.cons (Sub.refl _) .nil)) ?_; rintro _ rfl; conv => whnf)
    | (refine CallK.pure hF (.cons (Sub.refl _) (.cons (Sub.refl _) .nil)) ?_; rintro _ rfl; conv => whnf)
    | (refine CallK.pure (cfg_Of someP some_fit [112]) (.cons (Sub.refl _) (.cons (Sub.refl _) .nil)) ?_; rintro _ rfl; conv => whnf)
    | (refine CallK.pure (cfg_Live someP some_fit [112]) (.cons (Sub.refl _) (.cons (Sub.refl _) .nil)) ?_; rintro _ rfl; conv => whnf)
    | (refine CallK.pure (cfg_Ends someP some_fit) (.cons (Sub.refl _) .nil) ?_; rintro _ rfl; conv => whnf))
  all_goals first
    | exact ⟨_, .p (Sub.tt' (by rw [List.length_map, hE]; rfl)), rfl⟩
    | (exfalso; simp only [List.length_map] at *; omega)
    | (exfalso; simp_all; done)
end Go.Ab
namespace Go.Ab
open Go.Proofs
theorem step_rep {σ : Mem} {a : Step} {v : Value} (h : Rep σ (.agg a.cells) v) : v = .agg #[.int .i64 a.src, .int .i64 a.dst, .int .i64 a.kind] := by
  cases h with
  | agg cs vs u hn hc hr =>
    have hs : vs.size = 3 := hn
    have g : ∀ (j : Nat) (n : Int), a.cells[j]? = some (.int .i64 n) → vs[j]? = some (.int .i64 n) := fun j n hj => by
      have h1 := hc j _ hj
      have h2 := hr j _ hj
      cases hu : u j <;> rw [hu] at h2 <;> cases h2
      rw [h1, hu]
    congr 1
    apply Array.ext_getElem?
    intro i
    match i with
    | 0 => exact g 0 _ rfl
    | 1 => exact g 1 _ rfl
    | 2 => exact g 2 _ rfl
    | i + 3 => rw [Array.getElem?_eq_none (by omega), Array.getElem?_eq_none (by simp)]
theorem ValO.steps {hr : Bool} {s : St} {o : Oper} {K : LV → Prop} {x y : Operand} {u : TypeId} (hop : o.op = .binOp .eql 45 x y u) {a b : Step} (hx : evalO s.sl x = .p (.agg a.cells)) (hy : evalO s.sl y = .p (.agg b.cells))
    (hK : K (.p (.bool (decide (a = b))))) : ValO Tryz.prog hr s o K := by
  refine ⟨fun σ β ac w hs _ => ⟨_, .bool (decide (a = b)), hK, .p (.bool _), fun w' _ _ => ?_⟩⟩
  have h1 : ac.eval x = .agg #[.int .i64 a.src, .int .i64 a.dst, .int .i64 a.kind] := by
    have := evalO_rep hs x
    rw [hx] at this
    cases this with
    | p h => exact step_rep h
  have h2 : ac.eval y = .agg #[.int .i64 b.src, .int .i64 b.dst, .int .i64 b.kind] := by
    have := evalO_rep hs y
    rw [hy] at this
    cases this with
    | p h => exact step_rep h
  have hu : Tryz.prog.underlying 45 = some (.struct (Tryz.prog.fieldsOf 45)) := by kernel_rfl
  have hi : Tryz.prog.underlying 3 = some (.int .i64) := by kernel_rfl
  have hf : (Tryz.prog.fieldsOf 45).toList = (match ty45.desc with | .struct fs => fs.toList | _ => []) := by kernel_rfl
  have he : (Op.equalIn 10000 45 (.agg #[.int .i64 a.src, .int .i64 a.dst, .int .i64 a.kind]) (.agg #[.int .i64 b.src, .int .i64 b.dst, .int .i64 b.kind])).run Tryz.prog w' = .ok (decide (a = b)) w' := by
    rw [run_equalIn_struct w' 9999 _ _ _ hu (by kernel_rfl), hf]
    simp only [ty45, Op.eqFields]
    have p0 : ∀ x y z : Int, (part 3 #[.int .i64 x, .int .i64 y, .int .i64 z] 0).run Tryz.prog w' = .ok (.int .i64 x) w' := fun x y z => run_part_plain w' (by kernel_rfl) rfl
    have p1 : ∀ x y z : Int, (part 3 #[.int .i64 x, .int .i64 y, .int .i64 z] 1).run Tryz.prog w' = .ok (.int .i64 y) w' := fun x y z => run_part_plain w' (by kernel_rfl) rfl
    have p2 : ∀ x y z : Int, (part 3 #[.int .i64 x, .int .i64 y, .int .i64 z] 2).run Tryz.prog w' = .ok (.int .i64 z) w' := fun x y z => run_part_plain w' (by kernel_rfl) rfl
    have ei : ∀ x y : Int, (Op.equalIn 9999 3 (.int .i64 x) (.int .i64 y)).run Tryz.prog w' = .ok (x == y) w' := fun a b => run_equalIn_int (P := Tryz.prog) w' 9998 3 .i64 .i64 a b hi
    have e : decide (a = b) = ((a.src == b.src) && ((a.dst == b.dst) && (a.kind == b.kind))) := by
      cases a; cases b
      simp only [Step.mk.injEq, Bool.decide_and]
      rfl
    simp only [ne_eq, show ¬ ("From" = "_") by decide, show ¬ ("To" = "_") by decide, show ¬ ("Kind" = "_") by decide, not_false_eq_true, if_true, Sem.run_bind, p0, p1, p2, Result.andThen_ok, ei, Sem.run_ite, Sem.run_pure, e]
    cases (a.src == b.src) <;> cases (a.dst == b.dst) <;> cases (a.kind == b.kind) <;> simp
  simp only [execOp, hop, h1, h2, Sem.run_bind, run_eqGuard_agg _ _ _ _ _ _ _ (show Tryz.prog.eqGuardType Tryz.prog.depth 45 = false by kernel_rfl), Result.andThen_ok, run_eql_struct, he, Sem.run_pure]
end Go.Ab
namespace Go.Ab
open Go.Proofs
theorem first_none {p : Pg} {n : Str} (h : wayO p n = none) : firstR p n = (0, false) ∧ ofR p n = [] := by
  unfold firstR ofR
  rw [h]
  exact ⟨rfl, rfl⟩
theorem first_some {p : Pg} {n : Str} {w : Way} (h : wayO p n = some w) : ∃ (k : Nat) (f : Pr) (r : List Step), chkB p = true ∧ p.procs[k]? = some f ∧ procR p n = (f, true) ∧ firstR p n = (headI f.body (-1), true) ∧ ofR p n = ⟨0, headI f.body (-1), 1⟩ :: r ∧ ∀ s ∈ r, s.src ≠ 0 := by
  obtain ⟨k, f, hkj, rfl, hc, _, hfind⟩ := wayO_some h
  obtain ⟨r, hr, h0⟩ := real_head hc hkj
  rw [fst_head hc hkj] at hr
  refine ⟨k, f, r, hc, hkj, by unfold procR; rw [hfind], ?_, by unfold ofR; rw [h]; exact hr, h0⟩
  unfold firstR
  rw [h]
  show ((match p.procs[k]? with | some f => fstI p k f | none => 0), true) = _
  rw [hkj, ← fst_head hc hkj]
theorem procR_none {p : Pg} {n : Str} (h : wayO p n = none) (hc : chkB p = true) : procR p n = (Pr0, false) := by
  unfold wayO at h
  rw [hc, cond_true] at h
  unfold procR
  cases hq : p.procs.find? (fun f => f.name == n) with
  | none => rfl
  | some f => rw [hq] at h; cases h
theorem headI_cons {l : List S} {o : Int} (h : (0 : Int) < (S.avs l).length) : ∃ t : S, (S.avs l)[0]? = some (.agg t.cells) ∧ headI l o = t.id := by
  cases l with
  | nil => rw [S.avs_len] at h; simp at h
  | cons t r => exact ⟨t, by rw [S.avs_eq]; rfl, rfl⟩
theorem headI_nil {l : List S} {o : Int} (h : ¬ (0 : Int) < (S.avs l).length) : headI l o = o := by
  cases l with
  | nil => rfl
  | cons t r => rw [S.avs_len] at h; simp at h
theorem snd_step {a : Step} {r : List Step} (h : ¬ (((a :: r).map fun s => AV.agg s.cells).length : Int) = 1) (hr : ∀ s ∈ r, s.src ≠ 0) : ∃ s : Step, ((a :: r).map fun s => AV.agg s.cells)[1]? = some (.agg s.cells) ∧ s.src ≠ 0 := by
  cases r with
  | nil => simp at h
  | cons b r => exact ⟨b, rfl, hr b List.mem_cons_self⟩
set_option maxHeartbeats 4000000 in
set_option maxRecDepth 100000 in
theorem whittlerlaw15_CfgFirst (p : Pg) (n : Str) : SpecP Tryz.prog 3 [.agg p.cells, .str n] (fun r => r = .tt) := by
  refine SpecP.body I_whittlerlaw15_CfgFirst tabOK Tryz.func3 rfl Tryz.call3 (by show 2 ≤ _; decide) ?_
  conv => whnf
  have hM := whittlerref6_Proc p n
  cases hfb : fitB p with
  | false =>
    have hno : ¬ wPg p ≤ 20000 := by unfold fitB at hfb; simpa using hfb
    repeat' (
      first
      | (intro (_ : _ ≤ 9223372036854775807); conv => whnf)
      | (refine Br.dec (fun _ => ?_) (fun _ => ?_) <;> first | (exfalso; omega) | conv => whnf)
      | (refine Br.dec2 (fun _ => ?_) (fun _ => ?_) <;> first | (exfalso; omega) | conv => whnf)
      | (refine DrawK.auto tabOK mixed (by kernel_rfl) ?_; conv => whnf)
      | (refine Br.n (fun _ => ?_) (fun _ => ?_) <;> conv => whnf)
      | (refine Br.b (fun _ => ?_) (fun _ => ?_) <;> conv => whnf)
      | (refine CallK.pure (whittlerref3_Fits _) (by repeat' (first | exact ArgP.nil | refine ArgP.cons ?_ ?_ | exact Sub.refl _ | exact Sub.tt rfl | exact Sub.ff rfl)) ?_; rintro _ rfl; conv => whnf)
      | (refine And.intro rfl ?_; conv => whnf)
      | (refine And.intro ⟨by decide, by decide⟩ ?_; conv => whnf)
      | (refine And.intro ⟨rfl, rfl, by decide⟩ ?_; conv => whnf)
      | (refine BsK.pure (fun x hx => by rcases List.mem_singleton.1 hx with rfl; rfl) rfl ?_; conv => whnf)
      | (refine IdxK.map (by omega) (fun _ => rfl) ?_; conv => whnf)
      | (refine IdxK.xs (by omega) ?_; conv => whnf)
      | (refine IdxK.ss (by omega) ?_; conv => whnf)
      | (refine ByteK.at (by omega) ?_; conv => whnf)
      | (refine Wr.i64 (by omega) (by omega) ?_; conv => whnf)
      | (refine CallK.pure whittlerlaw15_flowing .nil ?_; rintro _ rfl; conv => whnf))
    all_goals first
      | exact ⟨_, .p (Sub.refl _), rfl⟩
      | (exfalso; simp_all; done)
  | true =>
    have hf : Fit p := by unfold fitB at hfb; unfold Fit; simpa using hfb
    have hfit : wPg p ≤ 20000 := hf
    have hF := cfg_First p hf n
    have hO := cfg_Of p hf n
    have hC := check_May p hf
    cases hw : wayO p n with
    | none =>
      obtain ⟨e1, e2⟩ := first_none hw
      rw [e1] at hF
      rw [e2] at hO
      dsimp only at hF
      cases hc : chkB p with
      | false =>
        rw [hc] at hC
        repeat' (
          first
          | (intro (_ : _ ≤ 9223372036854775807); conv => whnf)
          | (refine Br.dec (fun _ => ?_) (fun _ => ?_) <;> first | (exfalso; omega) | conv => whnf)
          | (refine Br.dec2 (fun _ => ?_) (fun _ => ?_) <;> first | (exfalso; omega) | conv => whnf)
          | (refine DrawK.auto tabOK mixed (by kernel_rfl) ?_; conv => whnf)
          | (refine Br.n (fun _ => ?_) (fun _ => ?_) <;> conv => whnf)
          | (refine Br.b (fun _ => ?_) (fun _ => ?_) <;> conv => whnf)
          | (refine CallK.pure (whittlerref3_Fits _) (by repeat' (first | exact ArgP.nil | refine ArgP.cons ?_ ?_ | exact Sub.refl _ | exact Sub.tt rfl | exact Sub.ff rfl)) ?_; rintro _ rfl; conv => whnf)
          | (refine And.intro rfl ?_; conv => whnf)
          | (refine And.intro ⟨by decide, by decide⟩ ?_; conv => whnf)
          | (refine And.intro ⟨rfl, rfl, by decide⟩ ?_; conv => whnf)
          | (refine BsK.pure (fun x hx => by rcases List.mem_singleton.1 hx with rfl; rfl) rfl ?_; conv => whnf)
          | (refine IdxK.map (by omega) (fun _ => rfl) ?_; conv => whnf)
          | (refine IdxK.xs (by omega) ?_; conv => whnf)
          | (refine IdxK.ss (by omega) ?_; conv => whnf)
          | (refine ByteK.at (by omega) ?_; conv => whnf)
          | (refine Wr.i64 (by omega) (by omega) ?_; conv => whnf)
          | (refine CallK.pure whittlerlaw15_flowing .nil ?_; rintro _ rfl; conv => whnf)
          | (refine CallK.pure hF (.cons (Sub.refl _) (.cons (Sub.refl _) .nil)) ?_; rintro _ rfl; conv => whnf)
          | (refine CallK.pure hM (.cons (Sub.refl _) (.cons (Sub.refl _) .nil)) ?_; rintro _ ⟨q, b, rfl, hq⟩; conv => whnf)
          | (refine CallK.pure hC (.cons (Sub.refl _) .nil) ?_; rintro _ rfl; conv => whnf)
          | (refine CallK.pure hO (.cons (Sub.refl _) (.cons (Sub.refl _) .nil)) ?_; rintro _ rfl; conv => whnf))
        all_goals first
          | contradiction
          | exact ⟨_, .p (Sub.tt' rfl), rfl⟩
      | true =>
        have e3 := procR_none hw hc
        have hm := (chk_parts hc).1
        rw [hc] at hC
        repeat' (
          first
          | (intro (_ : _ ≤ 9223372036854775807); conv => whnf)
          | (refine Br.dec (fun _ => ?_) (fun _ => ?_) <;> first | (exfalso; omega) | conv => whnf)
          | (refine Br.dec2 (fun _ => ?_) (fun _ => ?_) <;> first | (exfalso; omega) | conv => whnf)
          | (refine DrawK.auto tabOK mixed (by kernel_rfl) ?_; conv => whnf)
          | (refine Br.n (fun _ => ?_) (fun _ => ?_) <;> conv => whnf)
          | (refine Br.b (fun _ => ?_) (fun _ => ?_) <;> conv => whnf)
          | (refine CallK.pure (whittlerref3_Fits _) (by repeat' (first | exact ArgP.nil | refine ArgP.cons ?_ ?_ | exact Sub.refl _ | exact Sub.tt rfl | exact Sub.ff rfl)) ?_; rintro _ rfl; conv => whnf)
          | (refine And.intro rfl ?_; conv => whnf)
          | (refine And.intro ⟨by decide, by decide⟩ ?_; conv => whnf)
          | (refine And.intro ⟨rfl, rfl, by decide⟩ ?_; conv => whnf)
          | (refine BsK.pure (fun x hx => by rcases List.mem_singleton.1 hx with rfl; rfl) rfl ?_; conv => whnf)
          | (refine IdxK.map (by omega) (fun _ => rfl) ?_; conv => whnf)
          | (refine IdxK.xs (by omega) ?_; conv => whnf)
          | (refine IdxK.ss (by omega) ?_; conv => whnf)
          | (refine ByteK.at (by omega) ?_; conv => whnf)
          | (refine Wr.i64 (by omega) (by omega) ?_; conv => whnf)
          | (refine CallK.pure whittlerlaw15_flowing .nil ?_; rintro _ rfl; conv => whnf)
          | (refine CallK.pure hF (.cons (Sub.refl _) (.cons (Sub.refl _) .nil)) ?_; rintro _ rfl; conv => whnf)
          | (refine CallK.pure hM (.cons (Sub.refl _) (.cons (Sub.refl _) .nil)) ?_; rintro _ ⟨q, b, rfl, hq⟩; obtain ⟨rfl, rfl⟩ := Prod.mk.inj (e3.symm.trans (hq hm)); conv => whnf)
          | (refine CallK.pure hC (.cons (Sub.refl _) .nil) ?_; rintro _ rfl; conv => whnf)
          | (refine CallK.pure hO (.cons (Sub.refl _) (.cons (Sub.refl _) .nil)) ?_; rintro _ rfl; conv => whnf))
        all_goals first
          | contradiction
          | exact ⟨_, .p (Sub.tt' rfl), rfl⟩
    | some w =>
      obtain ⟨k, f, r, hc, hkj, e0, e1, e2, hr⟩ := first_some hw
      have hm := (chk_parts hc).1
      rw [e1] at hF
      rw [e2] at hO
      rw [hc] at hC
      dsimp only at hF
      repeat' (
        first
        | (intro (_ : _ ≤ 9223372036854775807); conv => whnf)
        | (refine Br.dec (fun _ => ?_) (fun _ => ?_) <;> first | (exfalso; omega) | conv => whnf)
        | (refine Br.dec2 (fun _ => ?_) (fun _ => ?_) <;> first | (exfalso; omega) | conv => whnf)
        | (refine DrawK.auto tabOK mixed (by kernel_rfl) ?_; conv => whnf)
        | (refine Br.n (fun _ => ?_) (fun _ => ?_) <;> conv => whnf)
        | (refine Br.b (fun _ => ?_) (fun _ => ?_) <;> conv => whnf)
        | (refine CallK.pure (whittlerref3_Fits _) (by repeat' (first | exact ArgP.nil | refine ArgP.cons ?_ ?_ | exact Sub.refl _ | exact Sub.tt rfl | exact Sub.ff rfl)) ?_; rintro _ rfl; conv => whnf)
        | (refine And.intro rfl ?_; conv => whnf)
        | (refine And.intro ⟨by decide, by decide⟩ ?_; conv => whnf)
        | (refine And.intro ⟨rfl, rfl, by decide⟩ ?_; conv => whnf)
        | (refine BsK.pure (fun x hx => by rcases List.mem_singleton.1 hx with rfl; rfl) rfl ?_; conv => whnf)
        | (refine IdxK.map (by omega) (fun _ => rfl) ?_; conv => whnf)
        | (refine IdxK.xs (by omega) ?_; conv => whnf)
        | (refine IdxK.ss (by omega) ?_; conv => whnf)
        | (refine ByteK.at (by omega) ?_; conv => whnf)
        | (refine Wr.i64 (by omega) (by omega) ?_; conv => whnf)
        | (refine CallK.pure whittlerlaw15_flowing .nil ?_; rintro _ rfl; conv => whnf)
        | (refine CallK.pure hF (.cons (Sub.refl _) (.cons (Sub.refl _) .nil)) ?_; rintro _ rfl; conv => whnf)
        | (refine CallK.pure hM (.cons (Sub.refl _) (.cons (Sub.refl _) .nil)) ?_; rintro _ ⟨q, b, rfl, hq⟩; obtain ⟨rfl, rfl⟩ := Prod.mk.inj (e0.symm.trans (hq hm)); conv => whnf)
        | (refine CallK.pure hC (.cons (Sub.refl _) .nil) ?_; rintro _ rfl; conv => whnf)
        | (refine CallK.pure hO (.cons (Sub.refl _) (.cons (Sub.refl _) .nil)) ?_; rintro _ rfl; conv => whnf)
        | (refine ValO.steps (a := ⟨0, headI f.body (-1), 1⟩) (b := ⟨0, _, 1⟩) rfl rfl rfl ?_; conv => whnf)
        | (obtain ⟨t, ht1, ht2⟩ := headI_cons (l := f.body) (o := -1) (by assumption); refine IdxK.at (k := 0) rfl ht1 rfl ?_; conv => whnf)
        | (refine IdxK.at (k := 0) (e := .agg (Step.mk 0 (headI f.body (-1)) 1).cells) rfl rfl rfl ?_; conv => whnf)
        | (obtain ⟨s1, hs1, hs2⟩ := snd_step (a := ⟨0, headI f.body (-1), 1⟩) (by assumption) hr; refine IdxK.at (k := 1) rfl hs1 rfl ?_; conv => whnf))
      all_goals first
        | contradiction
        | exact ⟨_, .p (Sub.refl _), rfl⟩
        | exact ⟨_, .p (Sub.tt' (by simpa using hs2)), rfl⟩
        | (exfalso; rename_i hx1; exact hx1 (headI_nil (by assumption)))
        | (exfalso; rename_i hx1; exact hx1 ht2)
        | (exfalso; rename_i hx1; exact of_decide_eq_false hx1 (congrArg (fun z => Step.mk 0 z 1) ht2))
        | (exfalso; rename_i hx1; exact hx1 (congrArg (fun z => Step.mk 0 z 1) ht2))
        | (exfalso; have hx2 := headI_nil (l := f.body) (o := -1) (by assumption); simp_all; done)
        | (exfalso; simp_all; done)
end Go.Ab
