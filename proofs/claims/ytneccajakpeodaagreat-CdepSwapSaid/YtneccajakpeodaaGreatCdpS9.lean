/- flat, slices, tree, scope: a procedure's statements, where a predicate holds, names, what a name is. -/
import Derived.Test.YtneccajakpeodaaGreatCdpS6
import Derived.Test.YtneccajakpeodaaGreatCdpS8
set_option linter.unusedSimpArgs false
set_option linter.unusedVariables false
set_option maxRecDepth 100000
set_option maxHeartbeats 16000000
namespace Go.Ab
open Go.Proofs
theorem IdxK.at {es : List AV} {sz k : Nat} {e : AV} {n : Int} {K : List AV → Prop} (hn : n = k) (he : es[k]? = some e) (hs : e.cells.length = sz) (h : K e.cells) : IdxK es sz n K := ⟨k, e, hn, he, hs, h⟩
theorem eInts_at {l : List Int} {k : Nat} {n : Int} (h : l[k]? = some n) : (l.map (AV.int .i64))[k]? = some (.int .i64 n) := by simp [h]
def eItems (l : List Item) : AV := .sl (l.map fun i => .agg i.cells)
theorem flat_Sheet_Of (s : Sheet) (i lo hi : Nat) (h1 : s.lo[i]? = some ((lo : Int) + 1)) (h2 : s.hi[i]? = some ((hi : Int) + 1)) (h3 : lo ≤ hi) (h4 : hi ≤ s.l.length) (h5 : s.l.length ≤ 1000) : SpecP Tryz.prog 159 [.ip s.cells, .int .i64 i] (fun r => r = eItems ((s.l.take hi).drop lo)) := by
 refine SpecP.body I_flat_Sheet_Of tabOK Tryz.func159 rfl Tryz.call159 (by show 2 ≤ _; decide) ?_
 conv => whnf
 repeat' ((first | (refine DrawK.auto tabOK mixed (by kernel_rfl) ?_) | (refine Wr.i64 (by omega) (by omega) ?_) | (refine IdxK.at rfl (eInts_at h1) rfl ?_) | (refine IdxK.at rfl (eInts_at h2) rfl ?_) | (refine And.intro (fun e he => by obtain ⟨x, _, rfl⟩ := List.mem_map.1 he; rfl) (SlK.mk lo hi (by simp) (by simp) h3 (by simpa using h4) ?_))); conv => whnf)
 exact RetK.p (by simp [eItems, List.map_take, List.map_drop])
theorem flat_Sheet_Has (s : Sheet) (id : Int) : SpecP Tryz.prog 83 [.ip s.cells, .int .i64 id] (fun r => r = .bool (decide (1 ≤ id) && decide (id ≤ s.l.length))) := by
 refine SpecP.body I_flat_Sheet_Has tabOK Tryz.func83 rfl Tryz.call83 (by show 2 ≤ _; decide) ?_
 conv => whnf
 repeat' (first | (intro (_ : _ ≤ 9223372036854775807); conv => whnf) | (refine Br.dec (fun _ => ?_) (fun _ => ?_) <;> first | (exfalso; omega) | conv => whnf))
 all_goals have hl : (s.l.map fun i => AV.agg i.cells).length = s.l.length := List.length_map _
 ·exact RetK.bool (by simp_all)
 ·exact RetK.ff (by simp; omega)
theorem flat_Sheet_First (s : Sheet) (i lo hi : Nat) (h1 : s.lo[i]? = some ((lo : Int) + 1)) (h2 : s.hi[i]? = some ((hi : Int) + 1)) : SpecP Tryz.prog 134 [.ip s.cells, .int .i64 i] (fun r => r = .int .i64 (if lo < hi then (lo : Int) + 1 else -1)) := by
 refine SpecP.body I_flat_Sheet_First tabOK Tryz.func134 rfl Tryz.call134 (by show 2 ≤ _; decide) ?_
 conv => whnf
 repeat' (first | ((first | (refine DrawK.auto tabOK mixed (by kernel_rfl) ?_) | (refine IdxK.at rfl (eInts_at h1) rfl ?_) | (refine IdxK.at rfl (eInts_at h2) rfl ?_)); conv => whnf) | (refine Br.dec (fun _ => ?_) (fun _ => ?_) <;> first | (exfalso; omega) | conv => whnf))
 ·exact RetK.int (by rw [if_pos (by omega)])
 ·exact RetK.int (by rw [if_neg (by omega)])
theorem slices_IndexFunc_string_string_ (l : List Str) (g : Nat) (c : AV) (p : Str → Bool) (hp : ∀ s, SpecP Tryz.prog g [.str s, c] (fun r => r = .bool (p s))) : SpecP Tryz.prog 259 [eStrs l, .fn g [c]] (fun r => r = .int .i64 (idxF p l)) := by
 refine SpecP.body I_slices_IndexFunc_string_string_ tabOK Tryz.func259 rfl Tryz.call259 (by show 2 ≤ _; decide) ?_
 conv => whnf
 intro (_ : _ ≤ 9223372036854775807)
 have hl : (l.map AV.str).length = l.length := List.length_map _
 conv => whnf
 refine LoopK.inv tabOK (fun j : Nat => ⟨[(0, .p (eStrs l)), (1, .p (.fn g [c])), (7, .p (.int .i64 (l.map AV.str).length)), (8, .p (.int .i64 j))], []⟩) (fun j => j ≤ l.length ∧ (l.drop j).any p = l.any p ∧ l.findIdx p = j + (l.drop j).findIdx p) (fun j => l.length - j) 0 (Le.of_eq rfl) ⟨Nat.zero_le _, rfl, by simp⟩ ?_
 rintro j ⟨h2, h3, h4⟩
 conv => whnf
 repeat' (first | ((first | (refine IdxK.map (by omega) (fun _ => rfl) ?_) | (refine Wr.i64 (by omega) (by omega) ?_) | (refine CallK.pure (hp _) (.cons (Sub.refl _) (.cons (Sub.refl _) .nil)) ?_; rintro _ rfl)); conv => whnf) | (refine Br.dec (fun _ => ?_) (fun _ => ?_) <;> first | (exfalso; omega) | conv => whnf) | (refine Br.b (fun _ => ?_) (fun _ => ?_) <;> conv => whnf))
 ·exact RetK.int (idxF_yes (p := p) (by omega) (by assumption) h3 h4).symm
 ·exact ⟨j + 1, ⟨by omega, by rw [← h3, any_no (p := p) (by omega) (by assumption)], by rw [h4, fi_no (p := p) (by omega) (by assumption)]; omega⟩, by omega, Le.of_eq rfl⟩
 ·exact RetK.int (by rw [idxF_no]; rw [← h3, any_end (by omega)])
theorem slices_ContainsFunc_string_string_ (l : List Str) (g : Nat) (c : AV) (p : Str → Bool) (hp : ∀ s, SpecP Tryz.prog g [.str s, c] (fun r => r = .bool (p s))) : SpecP Tryz.prog 192 [eStrs l, .fn g [c]] (fun r => r = .bool (l.any p)) := by
 refine SpecP.body I_slices_ContainsFunc_string_string_ tabOK Tryz.func192 rfl Tryz.call192 (by show 2 ≤ _; decide) ?_
 conv => whnf
 repeat' (refine CallK.pure (slices_IndexFunc_string_string_ _ _ _ p hp) (by repeat' (first | exact ArgP.nil | refine ArgP.cons ?_ ?_ | exact Sub.refl _ | exact Sub.tt rfl | exact Sub.ff rfl | exact Sub.int (by omega))) ?_; rintro _ rfl; conv => whnf)
 exact RetK.bool idxF_ge
theorem slices_IndexFunc_api_Proc_api_Proc_ (l : List Pr) (g : Nat) (c : AV) (p : Pr → Bool) (hp : ∀ s : Pr, SpecP Tryz.prog g [.agg s.cells, c] (fun r => r = .bool (p s))) : SpecP Tryz.prog 173 [.sl (l.map fun f => .agg f.cells), .fn g [c]] (fun r => r = .int .i64 (idxF p l)) := by
 refine SpecP.body I_slices_IndexFunc_api_Proc_api_Proc_ tabOK Tryz.func173 rfl Tryz.call173 (by show 2 ≤ _; decide) ?_
 conv => whnf
 intro (_ : _ ≤ 9223372036854775807)
 have hl : (l.map fun f => AV.agg f.cells).length = l.length := List.length_map _
 conv => whnf
 refine LoopK.inv tabOK (fun j : Nat => ⟨[(0, .p (.sl (l.map fun f => .agg f.cells))), (1, .p (.fn g [c])), (7, .p (.int .i64 (l.map fun f => AV.agg f.cells).length)), (8, .p (.int .i64 j))], []⟩) (fun j => j ≤ l.length ∧ (l.drop j).any p = l.any p ∧ l.findIdx p = j + (l.drop j).findIdx p) (fun j => l.length - j) 0 (Le.of_eq rfl) ⟨Nat.zero_le _, rfl, by simp⟩ ?_
 rintro j ⟨h2, h3, h4⟩
 conv => whnf
 repeat' (first | ((first | (refine IdxK.map (by omega) (fun _ => rfl) ?_) | (refine Wr.i64 (by omega) (by omega) ?_) | (refine CallK.pure (hp _) (.cons (Sub.refl _) (.cons (Sub.refl _) .nil)) ?_; rintro _ rfl)); conv => whnf) | (refine Br.dec (fun _ => ?_) (fun _ => ?_) <;> first | (exfalso; omega) | conv => whnf) | (refine Br.b (fun _ => ?_) (fun _ => ?_) <;> conv => whnf))
 ·exact RetK.int (idxF_yes (p := p) (by omega) (by assumption) h3 h4).symm
 ·exact ⟨j + 1, ⟨by omega, by rw [← h3, any_no (p := p) (by omega) (by assumption)], by rw [h4, fi_no (p := p) (by omega) (by assumption)]; omega⟩, by omega, Le.of_eq rfl⟩
 ·exact RetK.int (by rw [idxF_no]; rw [← h3, any_end (by omega)])
theorem slices_ContainsFunc_api_Proc_api_Proc_ (l : List Pr) (g : Nat) (c : AV) (p : Pr → Bool) (hp : ∀ s : Pr, SpecP Tryz.prog g [.agg s.cells, c] (fun r => r = .bool (p s))) : SpecP Tryz.prog 295 [.sl (l.map fun f => .agg f.cells), .fn g [c]] (fun r => r = .bool (l.any p)) := by
 refine SpecP.body I_slices_ContainsFunc_api_Proc_api_Proc_ tabOK Tryz.func295 rfl Tryz.call295 (by show 2 ≤ _; decide) ?_
 conv => whnf
 repeat' (refine CallK.pure (slices_IndexFunc_api_Proc_api_Proc_ _ _ _ p hp) (by repeat' (first | exact ArgP.nil | refine ArgP.cons ?_ ?_ | exact Sub.refl _ | exact Sub.tt rfl | exact Sub.ff rfl | exact Sub.int (by omega))) ?_; rintro _ rfl; conv => whnf)
 exact RetK.bool idxF_ge
theorem scope_Check_1 (p : Pg) (n : Str) : SpecP Tryz.prog 193 [.str n, .ip p.cells] (fun r => r = .bool (p.globals.any fun s => n == s)) := by
 refine SpecP.body I_scope_Check_1 tabOK Tryz.func193 rfl Tryz.call193 (by show 2 ≤ _; decide) ?_
 conv => whnf
 repeat' (refine CallK.pure (slices_Contains_string_string_ _ _) (by repeat' (first | exact ArgP.nil | refine ArgP.cons ?_ ?_ | exact Sub.refl _ | exact Sub.tt rfl | exact Sub.ff rfl)) ?_; rintro _ rfl; conv => whnf)
 exact RetK.p rfl
theorem flat_Sheet_Proc_1 (n : Str) (f : Pr) : SpecP Tryz.prog 174 [.agg f.cells, .ip [.str n]] (fun r => r = .bool (f.name == n)) := by
 refine SpecP.body I_flat_Sheet_Proc_1 tabOK Tryz.func174 rfl Tryz.call174 (by show 2 ≤ _; decide) ?_
 conv => whnf
 skip
 exact RetK.p rfl
theorem touch_known_1 (n : Str) (f : Pr) : SpecP Tryz.prog 296 [.agg f.cells, .ip [.str n]] (fun r => r = .bool (f.name == n)) := by
 refine SpecP.body I_touch_known_1 tabOK Tryz.func296 rfl Tryz.call296 (by show 2 ≤ _; decide) ?_
 conv => whnf
 skip
 exact RetK.p rfl
theorem flat_Sheet_Proc (s : Sheet) (n : Str) : SpecP Tryz.prog 119 [.ip s.cells, .str n] (fun r => r = .int .i64 (idxF (fun f => f.name == n) s.p.procs)) := by
 refine SpecP.body I_flat_Sheet_Proc tabOK Tryz.func119 rfl Tryz.call119 (by show 2 ≤ _; decide) ?_
 conv => whnf
 repeat' (refine CallK.pure (slices_IndexFunc_api_Proc_api_Proc_ _ _ _ (fun f=>f.name==n) (fun f=>flat_Sheet_Proc_1 n f)) (by repeat' (first | exact ArgP.nil | refine ArgP.cons ?_ ?_ | exact Sub.refl _ | exact Sub.tt rfl | exact Sub.ff rfl | exact Sub.int (by omega))) ?_; rintro _ rfl; conv => whnf)
 exact RetK.p rfl
open Go.Proofs
theorem AppK.strs {es : List AV} {n : Nat} {K : Prop} (xs : List Str) (hn : n = es.length) (hb : es.length + xs.length ≤ 8796093022208) (hK : K) : AppK es (xs.map .str) n (xs.map AV.str).length 1 16 K :=
 .mk hn rfl (by rw [hn]; simp; omega) (by rw [hn]; simp [maxLen]; omega) (fun x hx => by obtain ⟨y, _, rfl⟩ := List.mem_map.1 hx; exact ⟨rfl, rfl⟩) hK
theorem AppK.str1 {es : List AV} {n : Nat} {K : Prop} {s : Str} (hn : n = es.length) (hb : es.length ≤ 8796093022000) (hK : K) : AppK es [.str s] n 1 1 16 K :=
 .mk hn rfl (by omega) (by simp only [maxLen]; omega) (fun x hx => by rcases List.mem_singleton.1 hx with rfl; exact ⟨rfl, rfl⟩) hK
theorem AppK.int1 {es : List AV} {n : Nat} {K : Prop} {s : Int} (hn : n = es.length) (hb : es.length ≤ 8796093022000) (hK : K) : AppK es [.int .i64 s] n 1 1 8 K :=
 .mk hn rfl (by omega) (by simp only [maxLen]; omega) (fun x hx => by rcases List.mem_singleton.1 hx with rfl; exact ⟨rfl, rfl⟩) hK
mutual
def gatX : X → List Str → List Str
 | .mk op _ name kids, out => gatXs kids (if op = 2 ∧ (out.any fun s => name == s) = false then out ++ [name] else out)
def gatXs : List X → List Str → List Str
 | [], out => out
 | x :: r, out => gatXs r (gatX x out)
end
theorem gatX_eq (x : X) (out : List Str) : gatX x out = gatXs x.kids (if x.op = 2 ∧ (out.any fun s => x.name == s) = false then out ++ [x.name] else out) := by
 cases x
 rw [gatX]
 rfl
theorem gatXs_step {l : List X} {j : Nat} {out : List Str} (hj : j < l.length) : gatXs (l.drop j) out = gatXs (l.drop (j + 1)) (gatX l[j] out) := by
 rw [drop_cons hj, gatXs]
theorem gatXs_end {l : List X} {j : Nat} {out : List Str} (hj : l.length ≤ j) : gatXs (l.drop j) out = out := by
 rw [List.drop_eq_nil_of_le hj, gatXs]
theorem deepB_kids {n : Nat} {x : X} (h : deepB (n + 1) x = true) : x.kids.length ≤ 2 ∧ (x.op = 2 → x.kids.length = 0) ∧ ∀ k ∈ x.kids, deepB n k = true := by
 rw [deepB] at h
 simp only [Bool.and_eq_true, decide_eq_true_eq] at h
 obtain ⟨h1, h2⟩ := h
 refine ⟨?_, fun he => ?_, ?_⟩
 ·unfold kidsN at h1; (repeat' split at h1) <;> omega
 ·unfold kidsN at h1; rw [if_pos (by omega)] at h1; omega
 ·by_cases h3 : x.op = 1
  ·have : x.kids.length = 0 := by unfold kidsN at h1; rw [if_pos (by omega)] at h1; omega
   rw [List.eq_nil_of_length_eq_zero this]
   simp
  ·by_cases h4 : x.op = 2
   ·have : x.kids.length = 0 := by unfold kidsN at h1; rw [if_pos (by omega)] at h1; omega
    rw [List.eq_nil_of_length_eq_zero this]
    simp
   ·rw [if_neg h3, if_neg h4] at h2
    simp only [Bool.and_eq_true] at h2
    exact List.all_eq_true.1 h2.2
theorem gat_len : ∀ (n : Nat) (x : X) (out : List Str), deepB n x = true → out.length ≤ (gatX x out).length ∧ (gatX x out).length ≤ out.length + 2 ^ n := by
 intro n
 induction n with
 | zero => intro x out h; rw [deepB] at h; cases h
 | succ n ih =>
   intro x out h
   obtain ⟨h1, h2, h3⟩ := deepB_kids h
   have key : ∀ (l : List X) (o : List Str), (∀ k ∈ l, deepB n k = true) → o.length ≤ (gatXs l o).length ∧ (gatXs l o).length ≤ o.length + l.length * 2 ^ n := by
    intro l
    induction l with
    | nil => intro o _; simp [gatXs]
    | cons k r ihl =>
      intro o hk
      rw [gatXs]
      have h5 := ih k o (hk k (by simp))
      have h6 := ihl (gatX k o) fun k hk' => hk k (by simp [hk'])
      simp only [List.length_cons, Nat.add_mul, Nat.one_mul]
      omega
   rw [gatX_eq]
   have hp : 2 ^ (n + 1) = 2 * 2 ^ n := by rw [Nat.pow_succ]; omega
   have hpos : 0 < 2 ^ n := Nat.pow_pos (by decide)
   have h4 := key x.kids (if x.op = 2 ∧ (out.any fun s => x.name == s) = false then out ++ [x.name] else out) h3
   have h5 : x.kids.length * 2 ^ n ≤ 2 * 2 ^ n := Nat.mul_le_mul_right _ h1
   split at h4
   ·rename_i hc
    have := h2 hc.1
    rw [this] at h4
    rw [if_pos hc]
    simp only [List.length_append, List.length_singleton] at h4
    omega
   ·rename_i hc
    rw [if_neg hc]
    omega
def outH (t : Nat) (out : List Str) : Heap := [(2000, .own t 1 (out.map .str))]
theorem tree_gather : ∀ (n : Nat) (_ : n ≤ 20) (x : X) (_ : deepB n x = true) (out : List Str) (_ : out.length + 2 ^ n ≤ 1073741824),
  SpecH Tryz.prog 286 [.p (.agg x.cells), .hd 2000 0 out.length] (outH 9 out) (fun r H => r = .hd 2000 0 (gatX x out).length ∧ H = outH 9 (gatX x out)) := by
 intro n
 induction n with
 | zero => intro _ x h; rw [deepB] at h; cases h
 | succ n ih =>
   intro hn x hx out ho
   have hp : 2 ^ (n + 1) = 2 * 2 ^ n := by rw [Nat.pow_succ]; omega
   have hpos : 0 < 2 ^ n := Nat.pow_pos (by decide)
   obtain ⟨hk1, hk2, hk3⟩ := deepB_kids hx
   have hxl := X.avs_len x.kids
   refine SpecH.body I_tree_gather tabOK Tryz.func286 rfl Tryz.call286 (by show 2 ≤ _; decide) ?_
   conv => whnf
   repeat' (first | ((first | (intro (_ : _ ≤ 9223372036854775807)) | (refine And.intro rfl ?_) | (refine And.intro ⟨by decide, by decide⟩ ?_) | (refine BsK.pure (fun x hx => by rcases List.mem_singleton.1 hx with rfl; rfl) rfl ?_) | (refine CallK.borrow (slices_Contains_string_string_ out x.name) (.cons (.hd rfl (by simp)) (.cons (.p (Sub.refl _)) .nil)) (by rintro _ rfl; rfl) ?_; rintro _ rfl) | (refine AppK.mk (by simp) rfl (by show (out.length+1) * 16 ≤ 140737488355328; omega) (by show out.length+1 ≤ 9223372036854775807; omega) (fun x hx => by rcases List.mem_singleton.1 hx with rfl; exact ⟨rfl, rfl⟩) ?_)); conv => whnf) | (refine Br.dec (fun _ => ?_) (fun _ => ?_) <;> first | (exfalso; omega) | conv => whnf) | (refine Br.n (fun _ => ?_) (fun _ => ?_) <;> conv => whnf))
   all_goals
    have hmul : ∀ j, j < x.kids.length → (x.kids.length - j) * 2 ^ n = (x.kids.length - (j + 1)) * 2 ^ n + 2 ^ n := fun j hj => by
     rw [show x.kids.length - j = (x.kids.length - (j + 1)) + 1 by omega, Nat.add_mul, Nat.one_mul]
    have hmul0 : x.kids.length * 2 ^ n ≤ 2 * 2 ^ n := Nat.mul_le_mul_right _ hk1
    first
    | refine LoopK.inv tabOK (fun i : Nat × List Str => ⟨[(1, .hd 2000 0 i.2.length), (23, .p (.sl (X.avs x.kids))), (24, .p (.int .i64 (X.avs x.kids).length)), (25, .p (.int .i64 i.1))], outH 9 i.2⟩) (fun i => i.1 ≤ x.kids.length ∧ gatXs (x.kids.drop i.1) i.2 = gatX x out ∧ i.2.length + (x.kids.length - i.1) * 2 ^ n ≤ 1073741824) (fun i => x.kids.length - i.1) (0, out ++ [x.name]) (Le.of_eq (by simp [outH]; exact ⟨rfl, rfl⟩)) ⟨Nat.zero_le _, by simp only [List.drop_zero]; rw [gatX_eq, if_pos ⟨by assumption, by assumption⟩], by have := hk2 (by assumption); simp [this]; omega⟩ ?_
    | refine LoopK.inv tabOK (fun i : Nat × List Str => ⟨[(1, .hd 2000 0 i.2.length), (23, .p (.sl (X.avs x.kids))), (24, .p (.int .i64 (X.avs x.kids).length)), (25, .p (.int .i64 i.1))], outH 9 i.2⟩) (fun i => i.1 ≤ x.kids.length ∧ gatXs (x.kids.drop i.1) i.2 = gatX x out ∧ i.2.length + (x.kids.length - i.1) * 2 ^ n ≤ 1073741824) (fun i => x.kids.length - i.1) (0, out) (Le.of_eq rfl) ⟨Nat.zero_le _, by simp only [List.drop_zero]; rw [gatX_eq, if_neg (by simp [*])], by simp only [Nat.sub_zero]; omega⟩ ?_
    rintro ⟨j, acc⟩ ⟨h2, h3, h4⟩
    simp only at h2 h3 h4 ⊢
    conv => whnf
    repeat' (first | ((first | (refine And.intro rfl ?_) | (refine IdxK.xs (by omega) ?_)); conv => whnf) | (refine Br.dec (fun _ => ?_) (fun _ => ?_) <;> first | (exfalso; omega) | conv => whnf))
    all_goals first
     | (rw [gatXs_end (by omega)] at h3
        exact ⟨_, .refl _, by rw [h3]; exact ⟨rfl, rfl⟩⟩)
     | (have hj : j < x.kids.length := by omega
        have hm := hmul j hj
        have hg := gat_len n x.kids[j] acc (hk3 _ (List.getElem_mem hj))
        refine CallK.heap [(2000, 2000)] 0 (by repeat' (first | exact ArgsH.nil | refine ArgsH.cons ?_ ?_ | exact LSub.refl _ | exact LSub.p Sub.nils | exact LSub.p (Sub.tt rfl) | exact LSub.p (Sub.ff rfl) | exact LSub.p (Sub.int (by omega)))) (by refine BlksH.cons (j := 2000) rfl rfl ?_ ?_; exact CSub.refl _; exact BlksH.nil) (ih (by omega) x.kids[j] (hk3 _ (List.getElem_mem hj)) acc (by omega)) rfl rfl ?_
        rintro l' H' ⟨rfl, rfl⟩
        conv => whnf
        refine Wr.i64 (by omega) (by omega) ?_
        conv => whnf
        exact ⟨(j + 1, gatX x.kids[j] acc), ⟨by simp only; omega, by simp only; rw [← h3, gatXs_step hj], by simp only; omega⟩, by simp only; omega, Le.of_eq rfl⟩)
def namesX (x : X) : List Str := bif mayX x then gatX x [] else []
theorem namesX_len (x : X) : (namesX x).length ≤ 1048576 := by
 unfold namesX
 cases h : mayX x with
 | false => simp
 | true =>
   have := (gat_len 20 x [] h).2
   simpa using this
theorem tree_Names (x : X) : SpecP Tryz.prog 241 [.agg x.cells] (fun r => r = eStrs (namesX x)) := by
 refine SpecP.body I_tree_Names tabOK Tryz.func241 rfl Tryz.call241 (by show 1 ≤ _; decide) ?_
 conv => whnf
 repeat' (first | (refine CallK.pure (tree_MayExpr _) (by repeat' (first | exact ArgP.nil | refine ArgP.cons ?_ ?_ | exact Sub.refl _ | exact Sub.tt rfl | exact Sub.ff rfl)) ?_; rintro _ rfl; conv => whnf) | (refine Br.n (fun _ => ?_) (fun _ => ?_) <;> conv => whnf))
 ·refine CallK.nil 5 9 1 rfl (.cons rfl (.row .nil)) ?_
  refine CallK.heap [(2000, 5)] 0 (by repeat' (first | exact ArgsH.nil | refine ArgsH.cons ?_ ?_ | exact LSub.refl _ | exact LSub.p Sub.nils | exact LSub.p (Sub.tt rfl) | exact LSub.p (Sub.ff rfl) | exact LSub.p (Sub.int (by omega)))) (by refine BlksH.cons (j := 5) rfl rfl ?_ ?_; exact CSub.refl _; exact BlksH.nil) (tree_gather 20 (by omega) x (by assumption) [] (by simp)) rfl rfl ?_
  rintro l' H' ⟨rfl, rfl⟩
  conv => whnf
  refine ⟨_, .hd rfl (by simp), ?_⟩
  unfold namesX
  rw [show mayX x = true by assumption]
  rfl
 ·refine ⟨_, .p Sub.nils, ?_⟩
  unfold namesX
  rw [show mayX x = false by assumption]
  rfl
def namesA (a : Arg) : List Str := (bif a.ref then [a.name] else []) ++ namesX a.x
def namesH (t : S) : List Str := (bif t.kind ≠ 10 && !(t.name == []) then [t.name] else []) ++ namesX t.x
def namesT (t : S) : List Str := namesH t ++ t.args.flatMap namesA
theorem namesA_len (a : Arg) : (namesA a).length ≤ 1048577 := by
 have := namesX_len a.x
 unfold namesA
 cases a.ref <;> simp <;> omega
theorem namesH_len (t : S) : (namesH t).length ≤ 1048577 := by
 have := namesX_len t.x
 unfold namesH
 cases (t.kind ≠ 10 && !(t.name == []) : Bool) <;> simp <;> omega
theorem flatMap_len {α β : Type} {f : α → List β} {c : Nat} (h : ∀ a, (f a).length ≤ c) : ∀ l : List α, (l.flatMap f).length ≤ l.length * c
 | [] => by simp
 | x :: r => by
   have := flatMap_len h r
   have := h x
   simp only [List.flatMap_cons, List.length_append, List.length_cons, Nat.add_mul, Nat.one_mul]
   omega
def accN (t : S) (j : Nat) : List Str := namesH t ++ (t.args.take j).flatMap namesA
theorem accN_len (t : S) {j : Nat} (h : j ≤ t.args.length) (ha : t.args.length ≤ 20000) : (accN t j).length ≤ 21000000000 := by
 have h1 := namesH_len t
 have h2 := flatMap_len namesA_len (t.args.take j)
 have h3 : (t.args.take j).length * 1048577 ≤ 20000 * 1048577 := Nat.mul_le_mul_right _ (by simp; omega)
 unfold accN
 simp only [List.length_append]
 omega
theorem accN_step {t : S} {j : Nat} (hj : j < t.args.length) : accN t (j + 1) = accN t j ++ namesA t.args[j] := by
 unfold accN
 rw [List.take_succ_eq_append_getElem hj, List.flatMap_append, List.append_assoc]
 simp
def namesI (t : S) (tS : Nat) (j : Nat) : St := ⟨[(3, .hd 0 0 (accN t j).length), (25, .p (.sl (t.args.map fun a => .agg a.cells))), (26, .p (.int .i64 (t.args.map fun a => AV.agg a.cells).length)), (27, .p (.int .i64 j))], [(0, .own tS 1 ((accN t j).map .str))]⟩
theorem flat_Names (t : S) (ha : t.args.length ≤ 20000) : SpecP Tryz.prog 260 [.agg t.cells] (fun r => r = eStrs (namesT t)) := by
 refine SpecP.body I_flat_Names tabOK Tryz.func260 rfl Tryz.call260 (by show 1 ≤ _; decide) ?_
 conv => whnf
 repeat' (first | ((first | (intro (_ : _ ≤ 9223372036854775807)) | (refine CallK.pure (tree_Names _) (by repeat' (first | exact ArgP.nil | refine ArgP.cons ?_ ?_ | exact Sub.refl _ | exact Sub.tt rfl | exact Sub.ff rfl)) ?_; rintro _ rfl) | (refine And.intro rfl ?_) | (refine And.intro ⟨by decide, by decide⟩ ?_) | (refine BsK.pure (fun x hx => by rcases List.mem_singleton.1 hx with rfl; rfl) rfl ?_) | (refine AppK.strs _ (by simp) (by have := namesX_len t.x; simp; omega) ?_) | (refine AppK.str1 (by simp) (by simp) ?_)); conv => whnf) | (refine Br.dec2 (fun _ => ?_) (fun _ => ?_) <;> first | (exfalso; omega) | conv => whnf) | (refine Br.n (fun _ => ?_) (fun _ => ?_) <;> conv => whnf))
 all_goals
  have hl : (t.args.map fun a => AV.agg a.cells).length = t.args.length := List.length_map _
  refine LoopK.inv tabOK (namesI t 9) (fun j => j ≤ t.args.length) (fun j => t.args.length - j) 0 (Le.of_eq ?_) (Nat.zero_le _) ?_
  ·first
    | (have e : accN t 0 = namesX t.x := by simp [accN, namesH, show t.kind = 10 by assumption]
       rw [namesI, e]; simp only [Nat.zero_add, List.length_map, List.length_append, List.map_append, List.nil_append]; rfl)
    | (have e : accN t 0 = namesX t.x := by simp [accN, namesH, show t.name = [] by simpa using (show (t.name == []) = true by assumption)]
       rw [namesI, e]; simp only [Nat.zero_add, List.length_map, List.length_append, List.map_append, List.nil_append]; rfl)
    | (have e : accN t 0 = [t.name] ++ namesX t.x := by
        have : (t.name == []) = false := by assumption
        simp [accN, namesH, show ¬ t.kind = 10 by assumption, this]
       rw [namesI, e]; simp only [Nat.zero_add, List.length_map, List.length_append, List.map_append, List.nil_append]; rfl)
  intro j h2
  have hacc := accN_len t h2 ha
  conv => whnf
  repeat' (first | ((first | (refine CallK.pure (tree_Names _) (by repeat' (first | exact ArgP.nil | refine ArgP.cons ?_ ?_ | exact Sub.refl _ | exact Sub.tt rfl | exact Sub.ff rfl)) ?_; rintro _ rfl) | (refine And.intro rfl ?_) | (refine And.intro ⟨by decide, by decide⟩ ?_) | (refine BsK.pure (fun x hx => by rcases List.mem_singleton.1 hx with rfl; rfl) rfl ?_) | (refine IdxK.map (by omega) (fun _ => rfl) ?_) | (refine Wr.i64 (by omega) (by omega) ?_) | (refine AppK.strs _ (by simp) (by have := namesX_len (t.args[j]'(by omega)).x; simp; omega) ?_) | (refine AppK.str1 (by simp) (by simp; omega) ?_)); conv => whnf) | (refine Br.dec (fun _ => ?_) (fun _ => ?_) <;> first | (exfalso; omega) | conv => whnf) | (refine Br.b (fun _ => ?_) (fun _ => ?_) <;> conv => whnf))
  all_goals first
   | exact ⟨_, .hd rfl (by simp), by
      have : t.args.take j = t.args := List.take_of_length_le (by omega)
      rw [namesT, ← this]; rfl⟩
   | (have hj : j < t.args.length := by omega
      have hst := accN_step hj
      refine ⟨j + 1, by show j + 1 ≤ _; omega, by show t.args.length - (j + 1) < t.args.length - j; omega, Le.of_eq ?_⟩
      first
       | (have hn : namesA t.args[j] = [t.args[j].name] ++ namesX t.args[j].x := by rw [namesA, show t.args[j].ref = true by assumption]; rfl
          rw [namesI, hst, hn]
          simp only [List.length_append, List.map_append, List.length_map, ← List.append_assoc, ← Nat.add_assoc]
          rfl)
       | (have hn : namesA t.args[j] = namesX t.args[j].x := by rw [namesA, show t.args[j].ref = false by assumption]; rfl
          rw [namesI, hst, hn]
          simp only [List.length_append, List.map_append, List.length_map]
          rfl))
open Go.Proofs
def wTxs : List Str → Nat
 | [] => 0
 | s :: r => 1 + wTxs r
mutual
def wX : X → Nat
 | .mk _ _ name kids => 1 + wXs kids
def wXs : List X → Nat
 | [] => 0
 | x :: r => wX x + wXs r
end
def wArgs : List Arg → Nat
 | [] => 0
 | a :: r => wX a.x + 1 + wArgs r
mutual
def wS : S → Nat
 | .mk _ _ labels name proc x _ args thn els => wX x + wTxs labels + 1 + 1 + wArgs args + wL thn + wL els
def wL : List S → Nat
 | [] => 0
 | s :: r => wS s + wL r
end
def wPms : List Param → Nat
 | [] => 0
 | a :: r => 1 + wPms r
def wPr (f : Pr) : Nat := 1 + wTxs f.vars + wTxs f.fin + wPms f.params + wL f.body
def wPrs : List Pr → Nat
 | [] => 0
 | f :: r => wPr f + wPrs r
def wPg (p : Pg) : Nat := wTxs p.globals + wPrs p.procs
def Fit (p : Pg) : Prop := wPg p ≤ 20000
theorem wTxs_len : ∀ l : List Str, l.length ≤ wTxs l
 | [] => Nat.zero_le _
 | s :: r => by have := wTxs_len r; simp only [List.length_cons, wTxs]; omega
theorem wArgs_len : ∀ l : List Arg, l.length ≤ wArgs l
 | [] => Nat.zero_le _
 | s :: r => by have := wArgs_len r; simp only [List.length_cons, wArgs]; omega
theorem wPms_len : ∀ l : List Param, l.length ≤ wPms l
 | [] => Nat.zero_le _
 | s :: r => by have := wPms_len r; simp only [List.length_cons, wPms]; omega
theorem wS_eq (s : S) : wS s = wX s.x + wTxs s.labels + 1 + 1 + wArgs s.args + wL s.thn + wL s.els := by
 cases s
 rw [wS]
 rfl
mutual
theorem cnt_wS : ∀ s : S, cntS s ≤ wS s
 | .mk id kind labels name proc x has args thn els => by
   have := cnt_wL thn
   have := cnt_wL els
   rw [cntS, wS]
   omega
theorem cnt_wL : ∀ l : List S, cntL l ≤ wL l
 | [] => by rw [cntL, wL]; exact Nat.le_refl _
 | s :: r => by
   have := cnt_wS s
   have := cnt_wL r
   rw [cntL, wL]
   omega
end
theorem wPr_mem : ∀ {l : List Pr} {f : Pr}, f ∈ l → wPr f ≤ wPrs l
 | g :: r, f, h => by
   simp only [wPrs]
   rcases List.mem_cons.1 h with rfl | h
   ·omega
   ·have := wPr_mem h; omega
theorem Fit.pr {p : Pg} (h : Fit p) {f : Pr} (hf : f ∈ p.procs) : wPr f ≤ 20000 := by
 have := wPr_mem hf
 unfold Fit wPg at h
 omega
mutual
def flS : S → List S
 | .mk id kind labels name proc x has args thn els => .mk id kind labels name proc x has args thn els :: (flL thn ++ flL els)
def flL : List S → List S
 | [] => []
 | s :: r => flS s ++ flL r
end
theorem flS_eq (s : S) : flS s = s :: (flL s.thn ++ flL s.els) := by
 cases s
 rw [flS]
 rfl
mutual
theorem flS_len : ∀ s : S, (flS s).length = cntS s
 | .mk id kind labels name proc x has args thn els => by
   rw [flS, cntS, List.length_cons, List.length_append, flL_len thn, flL_len els]
   omega
theorem flL_len : ∀ l : List S, (flL l).length = cntL l
 | [] => by rw [flL, cntL]; rfl
 | s :: r => by rw [flL, cntL, List.length_append, flS_len s, flL_len r]
end
mutual
theorem flS_w : ∀ (s t : S), t ∈ flS s → wS t ≤ wS s
 | .mk id kind labels name proc x has args thn els, t, h => by
   rw [flS] at h
   rcases List.mem_cons.1 h with rfl | h
   ·exact Nat.le_refl _
   ·rw [wS]
    rcases List.mem_append.1 h with h | h
    ·have := flL_w thn t h; omega
    ·have := flL_w els t h; omega
theorem flL_w : ∀ (l : List S) (t : S), t ∈ flL l → wS t ≤ wL l
 | [], t, h => by rw [flL] at h; cases h
 | s :: r, t, h => by
   rw [flL] at h
   rw [wL]
   rcases List.mem_append.1 h with h | h
   ·have := flS_w s t h; omega
   ·have := flL_w r t h; omega
end

mutual
def itS (proc up nx loop : Int) (n : Nat) : S → List Item
 | .mk id kind labels name pr x has args thn els =>
   ⟨.mk id kind labels name pr x has args thn els, proc, up, nx, loop⟩ :: (itL proc (n + 1) (if kind = 6 then n + 1 else nx) (if kind = 6 then n + 1 else loop) (n + 1) thn ++
     itL proc (n + 1) (if kind = 6 then n + 1 else nx) (if kind = 6 then n + 1 else loop) (n + 1 + cntL thn) els)
def itL (proc up nx loop : Int) (n : Nat) : List S → List Item
 | [] => []
 | t :: r => itS proc up (if r.isEmpty then nx else n + 1 + cntS t) loop n t ++ itL proc up nx loop (n + cntS t) r
end
theorem itS_eq (proc up nx loop : Int) (n : Nat) (t : S) : itS proc up nx loop n t = ⟨t, proc, up, nx, loop⟩ :: (itL proc (n + 1) (if t.kind = 6 then n + 1 else nx) (if t.kind = 6 then n + 1 else loop) (n + 1) t.thn ++
   itL proc (n + 1) (if t.kind = 6 then n + 1 else nx) (if t.kind = 6 then n + 1 else loop) (n + 1 + cntL t.thn) t.els) := by
 cases t
 rw [itS]
 rfl
mutual
theorem rowT_it (proc up nx loop : Int) : ∀ (t : S) (acc : List Item), rowT proc up nx loop acc t = acc ++ itS proc up nx loop acc.length t
 | .mk id kind labels name pr x has args thn els, acc => by
   rw [rowT, itS, rowsF_it _ _ _ _ thn, rowsF_it _ _ _ _ els]
   simp only [List.length_append, List.length_cons, List.length_nil, List.append_assoc, List.cons_append, List.nil_append, itL_len proc _ _ _ _ thn, Nat.zero_add, Nat.add_assoc, Nat.add_comm (cntL thn) 1]
theorem rowsF_it (proc up nx loop : Int) : ∀ (l : List S) (acc : List Item), rowsF proc up nx loop acc l = acc ++ itL proc up nx loop acc.length l
 | [], acc => by rw [rowsF, itL, List.append_nil]
 | t :: r, acc => by
   rw [rowsF, itL, rowT_it _ _ _ _ t, rowsF_it _ _ _ _ r]
   simp only [List.length_append, List.append_assoc, itS_len proc _ _ _ _ t]
theorem itS_len (proc up nx loop : Int) (n : Nat) : ∀ t : S, (itS proc up nx loop n t).length = cntS t
 | .mk id kind labels name pr x has args thn els => by
   rw [itS, cntS, List.length_cons, List.length_append, itL_len _ _ _ _ _ thn, itL_len _ _ _ _ _ els]
   omega
theorem itL_len (proc up nx loop : Int) (n : Nat) : ∀ l : List S, (itL proc up nx loop n l).length = cntL l
 | [] => by rw [itL, cntL]; rfl
 | t :: r => by rw [itL, cntL, List.length_append, itS_len _ _ _ _ _ t, itL_len _ _ _ _ _ r]
end
mutual
theorem itS_s (proc up nx loop : Int) (n : Nat) : ∀ t : S, (itS proc up nx loop n t).map Item.s = flS t
 | .mk id kind labels name pr x has args thn els => by
   rw [itS, flS, List.map_cons, List.map_append, itL_s _ _ _ _ _ thn, itL_s _ _ _ _ _ els]
theorem itL_s (proc up nx loop : Int) (n : Nat) : ∀ l : List S, (itL proc up nx loop n l).map Item.s = flL l
 | [] => by rw [itL, flL]; rfl
 | t :: r => by rw [itL, flL, List.map_append, itS_s _ _ _ _ _ t, itL_s _ _ _ _ _ r]
end
def offN : List Pr → Nat → Nat
 | _, 0 => 0
 | [], _ + 1 => 0
 | f :: r, i + 1 => cntL f.body + offN r i
theorem newL_spec : ∀ (l : List Pr) (i : Nat) (acc : List Item) (lo hi : List Int), lo.length = i → hi.length = i →
  (newL i acc lo hi l).2.1.length = i + l.length ∧ (newL i acc lo hi l).2.2.length = i + l.length ∧
  (∀ k, k < i → (newL i acc lo hi l).2.1[k]? = lo[k]? ∧ (newL i acc lo hi l).2.2[k]? = hi[k]?) ∧ ∃ L, (newL i acc lo hi l).1 = acc ++ L ∧ L.length = cntP l ∧
  ∀ (k : Nat) (f : Pr), l[k]? = some f → (newL i acc lo hi l).2.1[i + k]? = some ((acc.length + offN l k : Nat) + 1 : Int) ∧ (newL i acc lo hi l).2.2[i + k]? = some ((acc.length + offN l k + cntL f.body : Nat) + 1 : Int) ∧
   offN l k + cntL f.body ≤ cntP l ∧ (L.take (offN l k + cntL f.body)).drop (offN l k) = itL (i + k : Nat) 0 (-1) 0 (acc.length + offN l k) f.body
 | [], i, acc, lo, hi, h1, h2 => by
   rw [newL]
   exact ⟨by simpa using h1, by simpa using h2, fun _ _ => ⟨rfl, rfl⟩, [], by simp, rfl, fun k f h => by simp at h⟩
 | f :: r, i, acc, lo, hi, h1, h2 => by
   rw [newL]
   have hrow := rowsF_it i 0 (-1) 0 f.body acc
   have hlen := rowsF_len i 0 (-1) 0 acc f.body
   obtain ⟨h3, h4, h5, L, h6, h7, h8⟩ := newL_spec r (i + 1) (rowsF i 0 (-1) 0 acc f.body) (lo ++ [(acc.length : Int) + 1]) (hi ++ [((rowsF i 0 (-1) 0 acc f.body).length : Int) + 1]) (by simp [h1]) (by simp [h2])
   refine ⟨by rw [h3, List.length_cons]; omega, by rw [h4, List.length_cons]; omega, fun k hk => ?_, itL i 0 (-1) 0 acc.length f.body ++ L, ?_, ?_, fun k g hg => ?_⟩
   ·obtain ⟨h9, h10⟩ := h5 k (by omega)
    rw [h9, h10, List.getElem?_append_left (by omega), List.getElem?_append_left (by omega)]
    exact ⟨rfl, rfl⟩
   ·rw [h6, hrow, List.append_assoc]
   ·rw [List.length_append, h7, itL_len, cntP]
   ·cases k with
    | zero =>
      simp only [List.getElem?_cons_zero, Option.some.injEq] at hg
      subst hg
      obtain ⟨h9, h10⟩ := h5 i (by omega)
      simp only [Nat.add_zero, offN, Nat.zero_add, List.drop_zero]
      refine ⟨?_, ?_, ?_, ?_⟩
      ·rw [h9, List.getElem?_append_right (by omega), h1]; simp
      ·rw [h10, List.getElem?_append_right (by omega), h2, hlen]; simp
      ·rw [cntP]; omega
      ·rw [List.take_append_of_le_length (by rw [itL_len]; omega), List.take_of_length_le (by rw [itL_len]; omega)]
    | succ k =>
      simp only [List.getElem?_cons_succ] at hg
      obtain ⟨h9, h10, h11, h12⟩ := h8 k g hg
      rw [hlen] at h12
      simp only [offN]
      refine ⟨?_, ?_, ?_, ?_⟩
      ·rw [show i + (k + 1) = i + 1 + k by omega, h9, hlen]; congr 2; omega
      ·rw [show i + (k + 1) = i + 1 + k by omega, h10, hlen]; congr 2; omega
      ·rw [cntP]; omega
      ·rw [List.take_append, List.drop_append, itL_len, List.take_of_length_le (by rw [itL_len]; omega), List.drop_eq_nil_of_le (by rw [itL_len]; omega), List.nil_append]
       simp only [itL_len]
       rw [show cntL f.body + offN r k + cntL g.body - cntL f.body = offN r k + cntL g.body by omega, show cntL f.body + offN r k - cntL f.body = offN r k by omega, h12]
       rw [show i + (k + 1) = i + 1 + k by omega, show acc.length + (cntL f.body + offN r k) = acc.length + cntL f.body + offN r k by omega]
theorem sheet_spec (p : Pg) : (sheetOf p).p = p ∧ (sheetOf p).lo.length = p.procs.length ∧ (sheetOf p).hi.length = p.procs.length ∧ (sheetOf p).l.length = cntP p.procs ∧
  ∀ (k : Nat) (f : Pr), p.procs[k]? = some f → (sheetOf p).lo[k]? = some ((offN p.procs k : Nat) + 1 : Int) ∧ (sheetOf p).hi[k]? = some ((offN p.procs k + cntL f.body : Nat) + 1 : Int) ∧
   offN p.procs k + cntL f.body ≤ cntP p.procs ∧ ((sheetOf p).l.take (offN p.procs k + cntL f.body)).drop (offN p.procs k) = itL k 0 (-1) 0 (offN p.procs k) f.body := by
 obtain ⟨h3, h4, _, L, h6, h7, h8⟩ := newL_spec p.procs 0 [] [] [] rfl rfl
 refine ⟨rfl, by unfold sheetOf; simpa using h3, by unfold sheetOf; simpa using h4, by unfold sheetOf; simp [h6, h7], fun k f hk => ?_⟩
 have := h8 k f hk
 unfold sheetOf
 simp only [h6, List.nil_append, List.length_nil, Nat.zero_add] at this ⊢
 exact this
mutual
theorem rowS_cnt (nest seen : Int) : ∀ (s : S) {m : Int}, rowS nest seen s = some m → m = seen + cntS s
 | .mk id kind labels name proc x has args thn els, m, h => by
   simp only [rowS] at h
   split at h
   ·cases h
   split at h
   ·cases h
   cases hn : namesB labels <;> rw [hn] at h
   ·cases h
   cases hf : fieldsB (.mk id kind labels name proc x has args thn els) <;> rw [hf] at h
   ·cases h
   simp only [cond_true] at h
   split at h
   ·rename_i m1 h1
    have h2 := rowL_cnt (nest + 1) (seen + 1) thn h1
    have h3 := rowL_cnt (nest + 1) m1 els h
    rw [cntS]
    omega
   ·cases h
theorem rowL_cnt (nest seen : Int) : ∀ (l : List S) {m : Int}, rowL nest seen l = some m → m = seen + cntL l
 | [], m, h => by
   simp only [rowL] at h
   cases h
   rw [cntL]
   simp
 | s :: r, m, h => by
   simp only [rowL] at h
   split at h
   ·cases h
   split at h
   ·rename_i m1 h1
    have h2 := rowS_cnt nest seen s h1
    have h3 := rowL_cnt nest m1 r h
    rw [cntL]
    omega
   ·cases h
end
theorem mayPrs_cnt : ∀ (l : List Pr) {seen m : Int}, seen ≤ 200 → mayPrs seen l = some m → m = seen + cntP l ∧ m ≤ 200
 | [], seen, m, h0, h => by rw [mayPrs] at h; cases h; simp [cntP]; exact h0
 | f :: r, seen, m, h0, h => by
   rw [mayPrs] at h
   cases hm : mayPr f <;> rw [hm] at h
   ·cases h
   simp only [cond_true] at h
   split at h
   ·rename_i m1 h1
    have h2 := rowL_cnt 1 seen f.body h1
    have h3 := rowL_le 1 seen f.body h0 h1
    have h4 := mayPrs_cnt r (by omega) h
    rw [cntP]
    omega
   ·cases h
theorem mayB_cnt {p : Pg} (h : mayB p = true) : p.globals.length ≤ 16 ∧ p.procs.length ≤ 16 ∧ cntP p.procs ≤ 200 := by
 unfold mayB at h
 simp only [Bool.and_eq_true, decide_eq_true_eq] at h
 obtain ⟨⟨⟨h1, h2⟩, _⟩, h3⟩ := h
 cases hm : mayPrs 0 p.procs with
 | none => rw [hm] at h3; cases h3
 | some m =>
   have := mayPrs_cnt p.procs (by decide) hm
   omega
theorem mayB_pr {p : Pg} (h : mayB p = true) {f : Pr} (hf : f ∈ p.procs) : mayPr f = true := by
 unfold mayB at h
 simp only [Bool.and_eq_true] at h
 have h3 := h.2
 have key : ∀ (l : List Pr) (seen : Int), (mayPrs seen l).isSome = true → ∀ f ∈ l, mayPr f = true := fun l => by
  induction l with
  | nil => intro _ _ f hf; cases hf
  | cons g r ih =>
    intro seen h f hf
    rw [mayPrs] at h
    cases hm : mayPr g <;> rw [hm] at h
    ·cases h
    simp only [cond_true] at h
    split at h
    ·rename_i m1 h1
     rcases List.mem_cons.1 hf with rfl | hf
     ·exact hm
     ·exact ih _ h f hf
    ·cases h
 exact key _ _ h3 f hf
def kindI (p : Pg) (f : Pr) (name : Str) : Int :=
 match f.params.find? (fun a => a.name == name) with
 | some a => bif a.ref then 3 else 2
 | none => bif f.vars.any (fun s => name == s) then 4 else bif p.globals.any (fun s => name == s) then 1 else 0
theorem find_no {α : Type} {l : List α} {p : α → Bool} {j : Nat} (hj : j < l.length) (h : p l[j] = false) : (l.drop (j + 1)).find? p = (l.drop j).find? p := by
 rw [drop_cons hj, List.find?_cons, h]
theorem find_yes {α : Type} {l : List α} {p : α → Bool} {j : Nat} (hj : j < l.length) (h : p l[j] = true) : (l.drop j).find? p = some l[j] := by
 rw [drop_cons hj, List.find?_cons, h]
theorem find_end {α : Type} {l : List α} {p : α → Bool} {j : Nat} (hj : l.length ≤ j) : (l.drop j).find? p = none := by
 rw [List.drop_eq_nil_of_le hj]; rfl
theorem scope_kind (p : Pg) (f : Pr) (name : Str) : SpecP Tryz.prog 261 [.agg p.cells, .agg f.cells, .str name] (fun r => r = .int .i64 (kindI p f name)) := by
 refine SpecP.body I_scope_kind tabOK Tryz.func261 rfl Tryz.call261 (by show 3 ≤ _; decide) ?_
 conv => whnf
 repeat' (intro (_ : _ ≤ 9223372036854775807); conv => whnf)
 have hl : (f.params.map fun a => AV.agg a.cells).length = f.params.length := List.length_map _
 refine LoopK.inv tabOK (fun j : Nat => ⟨[(2, .p (.str name)), (3, .p (.ip p.cells)), (4, .p (.ip f.cells)), (10, .p (.sl (f.params.map fun a => .agg a.cells))), (11, .p (.int .i64 (f.params.map fun a => AV.agg a.cells).length)), (12, .p (.int .i64 j))], []⟩) (fun j => j ≤ f.params.length ∧ (f.params.drop j).find? (fun a => a.name == name) = f.params.find? (fun a => a.name == name)) (fun j => f.params.length - j) 0 (Le.of_eq rfl) ⟨Nat.zero_le _, rfl⟩ ?_
 rintro j ⟨h2, h3⟩
 conv => whnf
 repeat' (first | ((first | (refine CallK.pure (slices_Contains_string_string_ _ _) (by repeat' (first | exact ArgP.nil | refine ArgP.cons ?_ ?_ | exact Sub.refl _ | exact Sub.tt rfl | exact Sub.ff rfl)) ?_; rintro _ rfl) | (refine And.intro rfl ?_) | (refine IdxK.map (by omega) (fun _ => rfl) ?_) | (refine Wr.i64 (by omega) (by omega) ?_)); conv => whnf) | (refine Br.dec (fun _ => ?_) (fun _ => ?_) <;> first | (exfalso; omega) | conv => whnf) | (refine Br.b (fun _ => ?_) (fun _ => ?_) <;> conv => whnf))
 all_goals try have hj : j < f.params.length := by omega
 all_goals first
  | (exfalso
     have h8 : ((f.params[j]'(by omega)).name == name) = true := by assumption
     have h9 : ((f.params[j]'(by omega)).name == name) = false := by assumption
     rw [h8] at h9
     cases h9)
  | (have e := find_yes (p := fun a : Param => a.name == name) (by omega) (by assumption)
     rw [h3] at e
     exact RetK.int (by unfold kindI; rw [e]; simp [*]))
  | (refine ⟨j + 1, ⟨by omega, by rw [← h3, find_no (p := fun a : Param => a.name == name) (by omega) (by assumption)]⟩, by omega, Le.of_eq rfl⟩)
  | (have e : f.params.find? (fun a => a.name == name) = none := by rw [← h3, find_end (by omega)]
     exact RetK.int (by unfold kindI; rw [e]; simp [*]))
def mainS : Str := [109, 97, 105, 110]
def knownB (p : Pg) (f : Pr) (procs : List Str) (t : S) : Bool := (namesT t).all (fun n => !(kindI p f n == 0)) && (decide (t.kind ≠ 4) || (!(t.proc == mainS) && procs.any fun s => t.proc == s))
theorem scope_known (p : Pg) (f : Pr) (procs : List Str) (t : S) (ha : t.args.length ≤ 20000) : SpecP Tryz.prog 194 [.agg p.cells, .agg f.cells, eStrs procs, .agg t.cells] (fun r => r = .bool (knownB p f procs t)) := by
 refine SpecP.body I_scope_known tabOK Tryz.func194 rfl Tryz.call194 (by show 4 ≤ _; decide) ?_
 conv => whnf
 repeat' ((first | (intro (_ : _ ≤ 9223372036854775807)) | (refine CallK.pure (flat_Names _ ha) (by repeat' (first | exact ArgP.nil | refine ArgP.cons ?_ ?_ | exact Sub.refl _ | exact Sub.tt rfl | exact Sub.ff rfl | exact Sub.int (by omega))) ?_; rintro _ rfl)); conv => whnf)
 have hl : ((namesT t).map AV.str).length = (namesT t).length := List.length_map _
 refine LoopK.inv tabOK (fun j : Nat => ⟨[(2, .p (eStrs procs)), (4, .p (.ip p.cells)), (5, .p (.ip f.cells)), (7, .p (.ip t.cells)), (12, .p (eStrs (namesT t))), (13, .p (.int .i64 ((namesT t).map AV.str).length)), (14, .p (.int .i64 j))], []⟩) (fun j => j ≤ (namesT t).length ∧ ((namesT t).drop j).all (fun n => !(kindI p f n == 0)) = (namesT t).all (fun n => !(kindI p f n == 0))) (fun j => (namesT t).length - j) 0 (Le.of_eq rfl) ⟨Nat.zero_le _, rfl⟩ ?_
 rintro j ⟨h2, h3⟩
 conv => whnf
 repeat' (first | ((first | (refine CallK.pure (scope_kind _ _ _) (by repeat' (first | exact ArgP.nil | refine ArgP.cons ?_ ?_ | exact Sub.refl _ | exact Sub.tt rfl | exact Sub.ff rfl)) ?_; rintro _ rfl) | (refine CallK.pure (slices_Contains_string_string_ _ _) (by repeat' (first | exact ArgP.nil | refine ArgP.cons ?_ ?_ | exact Sub.refl _ | exact Sub.tt rfl | exact Sub.ff rfl)) ?_; rintro _ rfl) | (refine IdxK.map (by omega) (fun _ => rfl) ?_) | (refine Wr.i64 (by omega) (by omega) ?_)); conv => whnf) | (refine Br.dec (fun _ => ?_) (fun _ => ?_) <;> first | (exfalso; omega) | conv => whnf) | (refine Br.dec2 (fun _ => ?_) (fun _ => ?_) <;> first | (exfalso; omega) | conv => whnf) | (refine Br.n (fun _ => ?_) (fun _ => ?_) <;> conv => whnf))
 ·exact RetK.ff (by
   have e := all_no (p := fun n => !(kindI p f n == 0)) (l := namesT t) (j := j) (by omega) (by simp; assumption)
   rw [knownB, ← h3, e, Bool.false_and])
 ·exact ⟨j + 1, ⟨by omega, by rw [← h3, all_yes (p := fun n => !(kindI p f n == 0)) (by omega) (by simp; assumption)]⟩, by omega, Le.of_eq rfl⟩
 all_goals
  have e : (namesT t).all (fun n => !(kindI p f n == 0)) = true := by rw [← h3, all_end (by omega)]
 ·exact RetK.ff (by
   have h8 : (t.proc == mainS) = true := by assumption
   rw [knownB, e, h8]
   simp [*])
 ·exact RetK.bool (by
   have h8 : (t.proc == mainS) = false := by assumption
   rw [knownB, e, h8]
   simp [*])
 ·exact RetK.tt (by rw [knownB, e]; simp [*])
open Go.Proofs
def eFault (c at_ : Int) : AV := .agg [.int .i64 c, .int .i64 at_]
def procsN (p : Pg) : List Str := p.procs.map Pr.name
def mainBad (p : Pg) : Bool := twiceB p.globals || (twiceB (procsN p) || (!((procsN p).any fun s => mainS == s) || match p.procs.find? (fun f => mainS == f.name) with
 | some f => decide (0 < f.params.length)
 | none => true))
def scopeAt (p : Pg) (f : Pr) : Option Int :=
 bif twiceB (ownL f) || (ownL f).any (fun n => p.globals.any fun s => n == s) then some 0 else ((flL f.body).find? fun t => !knownB p f (procsN p) t).map S.id
def scopeB (p : Pg) : Int × Int :=
 bif mayB p then bif mainBad p then (5, 0) else match p.procs.findSome? (scopeAt p) with
  | some a => (5, a)
  | none => (0, 0)
 else (1, 0)
theorem idx_find {α : Type} {l : List α} {p : α → Bool} (h : l.any p = true) : ∃ (k : Nat) (hk : k < l.length), idxF p l = k ∧ p l[k] = true ∧ l.find? p = some l[k] := by
 have h1 : l.findIdx p < l.length := by
  rw [List.findIdx_lt_length]
  exact List.any_eq_true.1 h
 refine ⟨l.findIdx p, h1, by unfold idxF; rw [h]; rfl, List.findIdx_getElem, ?_⟩
 rw [List.find?_eq_some_iff_getElem]
 exact ⟨List.findIdx_getElem, l.findIdx p, h1, rfl, fun j hj => by simpa using List.not_of_lt_findIdx hj⟩
theorem main_idx {p : Pg} (h : (procsN p).any (fun s => mainS == s) = true) : ∃ (k : Nat) (hk : k < p.procs.length), idxF (fun s => mainS == s) (procsN p) = k ∧ p.procs.find? (fun f => mainS == f.name) = some p.procs[k] := by
 have h' : p.procs.any (fun f => mainS == f.name) = true := by simpa [procsN, List.any_map, Function.comp_def] using h
 obtain ⟨k, hk, h1, _, h2⟩ := idx_find h'
 refine ⟨k, hk, ?_, h2⟩
 rw [← h1]
 unfold idxF
 rw [h, h']
 simp [procsN, List.findIdx_map, Function.comp_def]
theorem Of_at (p : Pg) {j : Nat} {f : Pr} (hj : p.procs[j]? = some f) (hc : cntP p.procs ≤ 1000) : SpecP Tryz.prog 159 [.ip (sheetOf p).cells, .int .i64 j] (fun r => r = eItems (itL j 0 (-1) 0 (offN p.procs j) f.body)) := by
 obtain ⟨_, h2, h3, h4, h5⟩ := sheet_spec p
 obtain ⟨h6, h7, h8, h9⟩ := h5 j f hj
 have := flat_Sheet_Of (sheetOf p) j _ _ h6 h7 (by omega) (by omega) (by omega)
 rw [h9] at this
 exact this
theorem eItems_len (l : List Item) : (l.map fun i => AV.agg i.cells).length = l.length := List.length_map _
theorem findSome_no {α β : Type} {l : List α} {f : α → Option β} {j : Nat} (hj : j < l.length) (h : f l[j] = none) : (l.drop (j + 1)).findSome? f = (l.drop j).findSome? f := by
 rw [drop_cons hj, List.findSome?_cons, h]
theorem findSome_yes {α β : Type} {l : List α} {f : α → Option β} {j : Nat} {b : β} (hj : j < l.length) (h : f l[j] = some b) : (l.drop j).findSome? f = some b := by
 rw [drop_cons hj, List.findSome?_cons, h]
theorem findSome_end {α β : Type} {l : List α} {f : α → Option β} {j : Nat} (hj : l.length ≤ j) : (l.drop j).findSome? f = none := by
 rw [List.drop_eq_nil_of_le hj]; rfl
theorem find_items {q : S → Bool} (l : List Item) : (l.find? fun it => q it.s).map (fun it => it.s.id) = ((l.map Item.s).find? q).map S.id := by
 rw [List.find?_map]
 cases h : l.find? (q ∘ Item.s) with
 | none => rw [show (l.find? fun it => q it.s) = none from h]; rfl
 | some i => rw [show (l.find? fun it => q it.s) = some i from h]; rfl
theorem item_args {l : List Pr} {j : Nat} (hj : j < l.length) (h : wPr l[j] ≤ 20000) {a b c d : Int} {n k : Nat} (hk : k < (itL a b c d n l[j].body).length) : (itL a b c d n l[j].body)[k].s.args.length ≤ 20000 := by
 have hm : (itL a b c d n l[j].body)[k].s ∈ flL l[j].body := by
  rw [← itL_s a b c d n]
  exact List.mem_map.2 ⟨_, List.getElem_mem hk, rfl⟩
 have h1 := flL_w _ _ hm
 have h2 := wS_eq (itL a b c d n l[j].body)[k].s
 have h3 := wArgs_len (itL a b c d n l[j].body)[k].s.args
 unfold wPr at h
 omega
theorem RetK.fault {H : Heap} {a b c d : Int} (h : a = c) (h' : b = d) : RetK H (.p (.agg [.int .i64 a, .int .i64 b])) (fun r => r = eFault c d) := ⟨_, .p (Sub.refl _), by rw [h, h']; rfl⟩
theorem scope_Check (p : Pg) (hf : Fit p) : SpecP Tryz.prog 137 [.agg p.cells] (fun r => r = eFault (scopeB p).1 (scopeB p).2) := by
 refine SpecP.body I_scope_Check tabOK Tryz.func137 rfl Tryz.call137 (by show 1 ≤ _; decide) ?_
 conv => whnf
 repeat' (first | ((first | (intro (_ : _ ≤ 9223372036854775807)) | (refine CallK.pure (tree_May _) (by repeat' (first | exact ArgP.nil | refine ArgP.cons ?_ ?_ | exact Sub.refl _ | exact Sub.tt rfl | exact Sub.ff rfl)) ?_; rintro _ rfl) | (refine And.intro rfl ?_)); conv => whnf) | (refine Br.n (fun _ => ?_) (fun _ => ?_) <;> conv => whnf))
 rotate_left 1
 ·exact RetK.fault (by simp [scopeB, *]) (by simp [scopeB, *])
 have hm : mayB p = true := by assumption
 obtain ⟨hg, hpl, hcn⟩ := mayB_cnt hm
 have hl : (p.procs.map fun f => AV.agg f.cells).length = p.procs.length := List.length_map _
 have hnl : (procsN p).length = p.procs.length := by simp [procsN]
 refine LoopK.inv tabOK (fun i : Nat × List Str => ⟨[(1, .p (.ip p.cells)), (2, .ptr 1 0), (3, .hd 0 0 i.2.length), (18, .p (.sl (p.procs.map fun f => .agg f.cells))), (19, .p (.int .i64 (p.procs.map fun f => AV.agg f.cells).length)), (20, .p (.int .i64 i.1))], [(0, .own 9 1 (i.2.map .str)), (1, .obj 90 [.p (.int .i64 0), .p (.int .i64 0)])]⟩)
  (fun i => i.1 ≤ p.procs.length ∧ i.2 = (procsN p).take i.1) (fun i => p.procs.length - i.1) (0, [])
  (Le.mk [(0, .own 9 1 [])] (by simp [Chunk.new0]; rfl) (by simp) (by simp) (.cons (.refl _) (.cons (.refl _) (.cons (.nil List.mem_cons_self) (.cons (.refl _) (.cons (.refl _) (.cons (.refl _) .nil)))))) (.new List.mem_cons_self (.cons rfl (.refl _) .nil)))
  ⟨Nat.zero_le _, by simp⟩ ?_
 rintro ⟨j, acc⟩ ⟨h2, h3⟩
 simp only at h2 h3 ⊢
 have hal : acc.length ≤ 16 := by rw [h3]; simp; omega
 conv => whnf
 repeat' (first | ((first | (refine And.intro rfl ?_) | (refine And.intro ⟨by decide, by decide⟩ ?_) | (refine BsK.pure (fun x hx => by rcases List.mem_singleton.1 hx with rfl; rfl) rfl ?_) | (refine IdxK.map (by omega) (fun _ => rfl) ?_) | (refine Wr.i64 (by omega) (by omega) ?_) | (refine AppK.str1 (by simp) (by simp; omega) ?_) | (refine CallK.borrow (slices_Index_string_string_ acc mainS) (.cons (.hd rfl (by simp)) (.cons (.p (Sub.refl _)) .nil)) (by rintro _ rfl; rfl) ?_; rintro _ rfl) | (refine CallK.borrow (scope_twice acc) (.cons (.hd rfl (by simp)) .nil) (by rintro _ rfl; rfl) ?_; rintro _ rfl) | (refine CallK.pure (scope_twice _) (.cons (Sub.refl _) .nil) ?_; rintro _ rfl)); conv => whnf) | (refine Br.dec (fun _ => ?_) (fun _ => ?_) <;> first | (exfalso; omega) | conv => whnf) | (refine Br.b (fun _ => ?_) (fun _ => ?_) <;> conv => whnf))
 ·exact ⟨(j + 1, acc ++ [p.procs[j].name]), ⟨by simp only; omega, by simp only; rw [h3, List.take_succ_eq_append_getElem (by omega)]; simp [procsN]⟩, by simp only; omega, Le.of_eq (by simp only [List.length_append, List.map_append]; rfl)⟩
 all_goals
  have hacc : acc = procsN p := by rw [h3, List.take_of_length_le (by omega)]
  clear h3
  subst hacc
 ·have hb : mainBad p = true := by unfold mainBad; rw [show twiceB p.globals = true by assumption]; rfl
  exact RetK.fault (by unfold scopeB; rw [hm, hb]; rfl) (by unfold scopeB; rw [hm, hb]; rfl)
 ·have hb : mainBad p = true := by unfold mainBad; rw [show twiceB p.globals = false by assumption, show twiceB (procsN p) = true by assumption]; rfl
  exact RetK.fault (by unfold scopeB; rw [hm, hb]; rfl) (by unfold scopeB; rw [hm, hb]; rfl)
 ·have hany : ((procsN p).any fun s => mainS == s) = false := by
   rw [← idxF_ge]
   simp
   omega
  have hb : mainBad p = true := by unfold mainBad; rw [show twiceB p.globals = false by assumption, show twiceB (procsN p) = false by assumption, hany]; rfl
  exact RetK.fault (by unfold scopeB; rw [hm, hb]; rfl) (by unfold scopeB; rw [hm, hb]; rfl)
 have hany : ((procsN p).any fun s => mainS == s) = true := by
  rw [← idxF_ge]
  simp
  omega
 obtain ⟨k, hk, hik, hfind⟩ := main_idx hany
 have hlk : (p.procs.map fun f => AV.agg f.cells)[k]? = some (.agg p.procs[k].cells) := by simp [hk]
 have hpl2 : (p.procs[k].params.map fun a => AV.agg a.cells).length = p.procs[k].params.length := List.length_map _
 refine IdxK.at hik hlk rfl ?_
 conv => whnf
 repeat' (first | ((first | (intro (_ : _ ≤ 9223372036854775807)) | (refine And.intro rfl ?_) | (refine CallK.pure (flat_New p (by omega) (by omega)) (.cons (Sub.refl _) .nil) ?_; rintro _ rfl)); conv => whnf) | (refine Br.dec (fun _ => ?_) (fun _ => ?_) <;> first | (exfalso; omega) | conv => whnf))
 ·have hb : mainBad p = true := by
   unfold mainBad
   rw [show twiceB p.globals = false by assumption, show twiceB (procsN p) = false by assumption, hany, hfind]
   have : 0 < p.procs[k].params.length := by omega
   simp [this]
  exact RetK.fault (by unfold scopeB; rw [hm, hb]; rfl) (by unfold scopeB; rw [hm, hb]; rfl)
 have hb : mainBad p = false := by
  unfold mainBad
  rw [show twiceB p.globals = false by assumption, show twiceB (procsN p) = false by assumption, hany, hfind]
  have : ¬ 0 < p.procs[k].params.length := by omega
  simp [this]
 have hsc : scopeB p = match p.procs.findSome? (scopeAt p) with
  | some a => (5, a)
  | none => (0, 0) := by unfold scopeB; rw [hm, hb]; rfl
 rw [hsc]
 refine LoopK.inv tabOK (fun j : Nat => ⟨[(1, .p (.ip p.cells)), (2, .ptr 1 0), (3, .hd 0 0 (procsN p).length), (7, .p (.ip (sheetOf p).cells)), (57, .p (.sl (p.procs.map fun f => .agg f.cells))), (58, .p (.int .i64 (p.procs.map fun f => AV.agg f.cells).length)), (59, .p (.int .i64 j))], [(0, .own 9 1 ((procsN p).map .str)), (1, .obj 90 [.p (.int .i64 0), .p (.int .i64 0)])]⟩)
  (fun j => j ≤ p.procs.length ∧ (p.procs.drop j).findSome? (scopeAt p) = p.procs.findSome? (scopeAt p)) (fun j => p.procs.length - j) 0 (Le.of_eq rfl) ⟨Nat.zero_le _, rfl⟩ ?_
 clear h2 hik hfind hlk hpl2
 rintro j ⟨h2, h3⟩
 rcases Nat.lt_or_ge j p.procs.length with hj | hj
 rotate_left 1
 ·have e : p.procs.findSome? (scopeAt p) = none := by rw [← h3, findSome_end hj]
  rw [e]
  conv => whnf
  repeat' (first | (refine And.intro rfl ?_; conv => whnf) | (refine Br.dec (fun _ => ?_) (fun _ => ?_) <;> first | (exfalso; omega) | conv => whnf))
  exact RetK.fault rfl rfl
 have hfp := hf.pr (List.getElem_mem hj)
 have hmp := mayPr_iff.1 (mayB_pr hm (List.getElem_mem hj))
 conv => whnf
 repeat' (first | ((first | (intro (_ : _ ≤ 9223372036854775807)) | (refine CallK.pure (scope_twice _) (by repeat' (first | exact ArgP.nil | refine ArgP.cons ?_ ?_ | exact Sub.refl _ | exact Sub.tt rfl | exact Sub.ff rfl)) ?_; rintro _ rfl) | (refine And.intro rfl ?_) | (refine IdxK.map (by omega) (fun _ => rfl) ?_) | (refine CallK.pure (scope_own (p.procs[j]'hj) (by have := hmp.1; omega) (by have := hmp.2.1; omega)) (.cons (Sub.refl _) .nil) ?_; rintro _ rfl) | (refine CallK.pure (slices_ContainsFunc_string_string_ (ownL (p.procs[j]'hj)) 193 (.ip p.cells) (fun n => p.globals.any fun s => n == s) (scope_Check_1 p)) (.cons (Sub.refl _) (.cons (Sub.refl _) .nil)) ?_; rintro _ rfl) | (refine CallK.pure (Of_at p (f := p.procs[j]'hj) (by simp) (by omega)) (.cons (Sub.refl _) (.cons (Sub.refl _) .nil)) ?_; rintro _ rfl)); conv => whnf) | (refine Br.dec (fun _ => ?_) (fun _ => ?_) <;> first | (exfalso; omega) | conv => whnf) | (refine Br.b (fun _ => ?_) (fun _ => ?_) <;> conv => whnf))
 ·have e : scopeAt p p.procs[j] = some 0 := by
   unfold scopeAt
   rw [show twiceB (ownL p.procs[j]) = true by assumption]
   rfl
  have e2 := findSome_yes hj e
  rw [h3] at e2
  rw [e2]
  exact RetK.fault rfl rfl
 ·have e : scopeAt p p.procs[j] = some 0 := by
   unfold scopeAt
   rw [show twiceB (ownL p.procs[j]) = false by assumption, show ((ownL p.procs[j]).any fun n => p.globals.any fun s => n == s) = true by assumption]
   rfl
  have e2 := findSome_yes hj e
  rw [h3] at e2
  rw [e2]
  exact RetK.fault rfl rfl
 have hsa : scopeAt p p.procs[j] = ((flL p.procs[j].body).find? fun t => !knownB p p.procs[j] (procsN p) t).map S.id := by
  unfold scopeAt
  rw [show twiceB (ownL p.procs[j]) = false by assumption, show ((ownL p.procs[j]).any fun n => p.globals.any fun s => n == s) = false by assumption]
  rfl
 have hitm : ∀ k (hk : k < (itL (j : Nat) 0 (-1) 0 (offN p.procs j) p.procs[j].body).length), (itL (j : Nat) 0 (-1) 0 (offN p.procs j) p.procs[j].body)[k].s.args.length ≤ 20000 := fun k hk => item_args hj hfp hk
 rw [← itL_s (j : Nat) 0 (-1) 0 (offN p.procs j), ← find_items] at hsa
 have hib : (itL (j : Nat) 0 (-1) 0 (offN p.procs j) p.procs[j].body).length ≤ 20000 := by
  have := cnt_wL p.procs[j].body
  unfold wPr at hfp
  rw [itL_len]
  omega
 generalize hits : itL (j : Nat) 0 (-1) 0 (offN p.procs j) p.procs[j].body = its at hsa hitm hib ⊢
 have hil := eItems_len its
 refine LoopK.inv tabOK (fun k : Nat => ⟨[(1, .p (.ip p.cells)), (2, .ptr 1 0), (3, .hd 0 0 (procsN p).length), (7, .p (.ip (sheetOf p).cells)), (9, .p (.ip (p.procs[j]'hj).cells)), (57, .p (.sl (p.procs.map fun f => .agg f.cells))), (58, .p (.int .i64 (p.procs.map fun f => AV.agg f.cells).length)), (59, .p (.int .i64 j)), (76, .p (eItems its)), (77, .p (.int .i64 (its.map fun i => AV.agg i.cells).length)), (78, .p (.int .i64 k))], [(0, .own 9 1 ((procsN p).map .str)), (1, .obj 90 [.p (.int .i64 0), .p (.int .i64 0)])]⟩)
  (fun k => k ≤ its.length ∧ (its.drop k).find? (fun it => !knownB p p.procs[j] (procsN p) it.s) = its.find? fun it => !knownB p p.procs[j] (procsN p) it.s) (fun k => its.length - k) 0 (Le.of_eq rfl) ⟨Nat.zero_le _, rfl⟩ ?_
 rintro k ⟨h5, h6⟩
 rcases Nat.lt_or_ge k its.length with hk | hk
 rotate_left 1
 ·rw [← h6, find_end hk] at hsa
  conv => whnf
  repeat' (first | (refine Wr.i64 (by omega) (by omega) ?_; conv => whnf) | (refine Br.dec (fun _ => ?_) (fun _ => ?_) <;> first | (exfalso; omega) | conv => whnf))
  exact ⟨j + 1, ⟨by omega, by rw [← h3, findSome_no hj hsa]⟩, by omega, Le.of_eq rfl⟩
 have hka := hitm k hk
 conv => whnf
 repeat' (first | ((first | (refine And.intro rfl ?_) | (refine IdxK.map (by omega) (fun _ => rfl) ?_) | (refine Wr.i64 (by omega) (by omega) ?_) | (refine CallK.borrow (scope_known p p.procs[j] (procsN p) its[k].s hka) (.cons (.p (Sub.refl _)) (.cons (.p (Sub.refl _)) (.cons (.hd rfl (by simp)) (.cons (.p (Sub.refl _)) .nil)))) (by rintro _ rfl; rfl) ?_; rintro _ rfl)); conv => whnf) | (refine Br.dec (fun _ => ?_) (fun _ => ?_) <;> first | (exfalso; omega) | conv => whnf) | (refine Br.n (fun _ => ?_) (fun _ => ?_) <;> conv => whnf))
 ·exact ⟨k + 1, ⟨by omega, by rw [← h6, find_no (p := fun it : Item => !knownB p p.procs[j] (procsN p) it.s) hk (by simp; assumption)]⟩, by omega, Le.of_eq rfl⟩
 ·have e3 := find_yes (p := fun it : Item => !knownB p p.procs[j] (procsN p) it.s) hk (by simp; assumption)
  rw [← h6, e3] at hsa
  have e2 := findSome_yes hj hsa
  rw [h3] at e2
  rw [e2]
  exact RetK.fault rfl rfl
open Go.Proofs
def asBL : LV → Option Bool
 | .p .tt => some true
 | .p .ff => some false
 | .p (.bool b) => some b
 | _ => none
theorem asBL_rep {σ : Mem} {β : Lab} {l : LV} {v : Value} {b : Bool} (h : RepL σ β l v) (hb : asBL l = some b) : v = .bool b := by
 cases h with
 | p h => cases h <;> simp [asBL] at hb <;> subst hb <;> rfl
 | _ => simp [asBL] at hb
theorem ValO.boolNeq {P : Program} {T : Tab} {hr : Bool} {s : St} {o : Oper} {K : LV → Prop} (hT : TabOK P T) {t u : TypeId} {x y : Operand} (hop : o.op = .binOp .neq t x y u) {i : TyI} (ht : T.get t = some i) (hd : i.desc = .bool)
  {a b : Bool} (hx : asBL (evalO s.sl x) = some a) (hy : asBL (evalO s.sl y) = some b) (hK : K (.p (.bool (a != b)))) : ValO P hr s o K := by
 refine ⟨fun σ β ac w hs _ => ⟨_, .bool (a != b), hK, .p (.bool _), fun w' _ _ => ?_⟩⟩
 have h1 := asBL_rep (evalO_rep hs x) hx
 have h2 := asBL_rep (evalO_rep hs y) hy
 have hu := hT.of ht
 rw [hd] at hu
 have hg : (eqGuard .neq t x y (.bool a) (.bool b)).run P w' = .ok () w' := by unfold eqGuard; rfl
 have he : (Op.equal t (.bool a) (.bool b)).run P w' = .ok (a == b) w' := by
  have e : Op.equal t (.bool a) (.bool b) = Op.equalIn (9999 + 1) t (.bool a) (.bool b) := rfl
  rw [e, Op.equalIn, Sem.run_bind, run_underlying hu, Result.andThen_ok]
  rfl
 simp only [execOp, hop, h1, h2, Sem.run_bind, hg, Result.andThen_ok, binOp]
 simp [he]
 cases a <;> cases b <;> rfl
def sameB (l : List Param) (args : List Arg) : Bool := decide (l.map Param.ref = args.map Arg.ref)
theorem arity_same (l : List Param) (args : List Arg) : SpecP Tryz.prog 262 [.sl (l.map fun a => .agg a.cells), eArgs args] (fun r => r = .bool (sameB l args)) := by
 refine SpecP.body I_arity_same tabOK Tryz.func262 rfl Tryz.call262 (by show 2 ≤ _; decide) ?_
 conv => whnf
 repeat' (first | (intro (_ : _ ≤ 9223372036854775807); conv => whnf) | (refine Br.dec2 (fun _ => ?_) (fun _ => ?_) <;> first | (exfalso; omega) | conv => whnf))
 all_goals
  have hl : (l.map fun a => AV.agg a.cells).length = l.length := List.length_map _
  have hl2 : (args.map fun a => AV.agg a.cells).length = args.length := List.length_map _
 ·have hlen : l.length = args.length := by omega
  refine LoopK.inv tabOK (fun j : Nat => ⟨[(1, .p (eArgs args)), (12, .p (.sl (l.map fun a => .agg a.cells))), (13, .p (.int .i64 (l.map fun a => AV.agg a.cells).length)), (14, .p (.int .i64 j))], []⟩) (fun j => j ≤ l.length ∧ (l.map Param.ref).take j = (args.map Arg.ref).take j) (fun j => l.length - j) 0 (Le.of_eq rfl) ⟨Nat.zero_le _, rfl⟩ ?_
  rintro j ⟨h2, h3⟩
  rcases Nat.lt_or_ge j l.length with hj | hj
  ·conv => whnf
   repeat' (first | ((first | (refine DrawK.auto tabOK mixed (by kernel_rfl) ?_) | (refine And.intro rfl ?_) | (refine IdxK.map (by omega) (fun _ => rfl) ?_) | (refine Wr.i64 (by omega) (by omega) ?_) | (refine ValO.boolNeq tabOK rfl rfl rfl rfl rfl ?_)); conv => whnf) | (refine Br.dec (fun _ => ?_) (fun _ => ?_) <;> first | (exfalso; omega) | conv => whnf) | (refine Br.dec2 (fun _ => ?_) (fun _ => ?_) <;> first | (exfalso; omega) | conv => whnf))
   ·have hne : l[j].ref = (args[j]'(by omega)).ref := by assumption
    exact ⟨j + 1, ⟨by omega, by
     rw [List.take_succ_eq_append_getElem (by simp; omega), List.take_succ_eq_append_getElem (by simp; omega), h3]
     simp [hne]⟩, by omega, Le.of_eq rfl⟩
   ·have hne : ¬ l[j].ref = (args[j]'(by omega)).ref := by assumption
    exact RetK.ff (by
     unfold sameB
     rw [decide_eq_false_iff_not]
     intro he
     have : (l.map Param.ref)[j]? = (args.map Arg.ref)[j]? := by rw [he]
     rw [List.getElem?_map, List.getElem?_map, List.getElem?_eq_getElem hj, List.getElem?_eq_getElem (by omega)] at this
     simp at this
     exact hne this)
  ·conv => whnf
   repeat' (refine Br.dec (fun _ => ?_) (fun _ => ?_) <;> first | (exfalso; omega) | conv => whnf)
   exact RetK.tt (by
    unfold sameB
    rw [decide_eq_true_eq]
    rwa [List.take_of_length_le (by simp; omega), List.take_of_length_le (by simp; omega)] at h3)
 ·exact RetK.ff (by
   unfold sameB
   rw [decide_eq_false_iff_not]
   intro he
   have := congrArg List.length he
   simp at this
   omega)
def fitsB (p : Pg) (s : S) : Bool := decide (s.kind = 4) && match p.procs.find? (fun f => f.name == s.proc) with
 | some f => sameB f.params s.args
 | none => false
theorem arity_fits (p : Pg) (s : S) : SpecP Tryz.prog 195 [.agg p.cells, .agg s.cells] (fun r => r = .bool (fitsB p s)) := by
 refine SpecP.body I_arity_fits tabOK Tryz.func195 rfl Tryz.call195 (by show 2 ≤ _; decide) ?_
 conv => whnf
 repeat' (first | (intro (_ : _ ≤ 9223372036854775807); conv => whnf) | (refine Br.dec2 (fun _ => ?_) (fun _ => ?_) <;> first | (exfalso; omega) | conv => whnf))
 ·have hl : (p.procs.map fun f => AV.agg f.cells).length = p.procs.length := List.length_map _
  refine LoopK.inv tabOK (fun j : Nat => ⟨[(3, .p (.ip s.cells)), (11, .p (.sl (p.procs.map fun f => .agg f.cells))), (12, .p (.int .i64 (p.procs.map fun f => AV.agg f.cells).length)), (13, .p (.int .i64 j))], []⟩) (fun j => j ≤ p.procs.length ∧ (p.procs.drop j).find? (fun f => f.name == s.proc) = p.procs.find? (fun f => f.name == s.proc)) (fun j => p.procs.length - j) 0 (Le.of_eq rfl) ⟨Nat.zero_le _, rfl⟩ ?_
  rintro j ⟨h2, h3⟩
  conv => whnf
  repeat' (first | ((first | (refine CallK.pure (arity_same _ _) (by repeat' (first | exact ArgP.nil | refine ArgP.cons ?_ ?_ | exact Sub.refl _ | exact Sub.tt rfl | exact Sub.ff rfl)) ?_; rintro _ rfl) | (refine And.intro rfl ?_) | (refine IdxK.map (by omega) (fun _ => rfl) ?_) | (refine Wr.i64 (by omega) (by omega) ?_)); conv => whnf) | (refine Br.dec (fun _ => ?_) (fun _ => ?_) <;> first | (exfalso; omega) | conv => whnf) | (refine Br.b (fun _ => ?_) (fun _ => ?_) <;> conv => whnf))
  ·have e := find_yes (p := fun f : Pr => f.name == s.proc) (l := p.procs) (j := j) (by omega) (by assumption)
   rw [h3] at e
   exact RetK.bool (by unfold fitsB; rw [e]; simp [*])
  ·exact ⟨j + 1, ⟨by omega, by rw [← h3, find_no (p := fun f : Pr => f.name == s.proc) (by omega) (by assumption)]⟩, by omega, Le.of_eq rfl⟩
  ·have e : p.procs.find? (fun f => f.name == s.proc) = none := by rw [← h3, find_end (by omega)]
   exact RetK.ff (by unfold fitsB; rw [e]; simp)
 ·exact RetK.ff (by unfold fitsB; simp [*])
def stmts (p : Pg) : List S := p.procs.flatMap fun f => flL f.body
theorem newL_s : ∀ (l : List Pr) (i : Nat) (acc : List Item) (lo hi : List Int), (newL i acc lo hi l).1.map Item.s = acc.map Item.s ++ l.flatMap fun f => flL f.body
 | [], i, acc, lo, hi => by rw [newL]; simp
 | f :: r, i, acc, lo, hi => by
   rw [newL, newL_s r, rowsF_it, List.map_append, itL_s, List.flatMap_cons, List.append_assoc]
theorem sheet_s (p : Pg) : (sheetOf p).l.map Item.s = stmts p := by
 have := newL_s p.procs 0 [] [] []
 unfold sheetOf stmts
 simpa using this
theorem sheet_args {p : Pg} (hf : Fit p) {k : Nat} (hk : k < (sheetOf p).l.length) : wS (sheetOf p).l[k].s ≤ 20000 := by
 have hm : (sheetOf p).l[k].s ∈ stmts p := by
  rw [← sheet_s]
  exact List.mem_map.2 ⟨_, List.getElem_mem hk, rfl⟩
 unfold stmts at hm
 obtain ⟨f, h1, h2⟩ := List.mem_flatMap.1 hm
 have h3 := flL_w _ _ h2
 have h4 := hf.pr h1
 unfold wPr at h4
 omega
def arityB (p : Pg) : Int × Int :=
 if (scopeB p).1 ≠ 0 then (1, 0) else match (stmts p).find? fun t => decide (t.kind = 4) && !fitsB p t with
  | some t => (6, t.id)
  | none => (0, 0)
theorem scope_ok {p : Pg} (h : (scopeB p).1 = 0) : mayB p = true ∧ mainBad p = false ∧ p.procs.findSome? (scopeAt p) = none := by
 unfold scopeB at h
 cases hm : mayB p <;> rw [hm] at h
 ·cases h
 cases hb : mainBad p <;> rw [hb] at h
 ·refine ⟨rfl, rfl, ?_⟩
  simp only [cond_true, cond_false] at h
  split at h
  ·cases h
  ·assumption
 ·cases h
theorem arity_Check (p : Pg) (hf : Fit p) : SpecP Tryz.prog 138 [.agg p.cells] (fun r => r = eFault (arityB p).1 (arityB p).2) := by
 refine SpecP.body I_arity_Check tabOK Tryz.func138 rfl Tryz.call138 (by show 1 ≤ _; decide) ?_
 conv => whnf
 repeat' (first | ((first | (refine CallK.pure (scope_Check p hf) (by repeat' (first | exact ArgP.nil | refine ArgP.cons ?_ ?_ | exact Sub.refl _ | exact Sub.tt rfl | exact Sub.ff rfl | exact Sub.int (by omega))) ?_; rintro _ rfl) | (refine And.intro rfl ?_)); conv => whnf) | (refine Br.dec2 (fun _ => ?_) (fun _ => ?_) <;> first | (exfalso; omega) | conv => whnf))
 rotate_left 1
 ·have e : arityB p = (1, 0) := by unfold arityB; rw [if_pos (by assumption)]
  exact RetK.fault (by rw [e]) (by rw [e])
 have hs : (scopeB p).1 = 0 := by assumption
 obtain ⟨hm, hb, hns⟩ := scope_ok hs
 obtain ⟨hg, hpl, hcn⟩ := mayB_cnt hm
 have hA : arityB p = match (stmts p).find? fun t => decide (t.kind = 4) && !fitsB p t with
  | some t => (6, t.id)
  | none => (0, 0) := by unfold arityB; rw [if_neg (by omega)]
 repeat' ((first | (intro (_ : _ ≤ 9223372036854775807)) | (refine CallK.pure (flat_New p (by omega) (by omega)) (.cons (Sub.refl _) .nil) ?_; rintro _ rfl)); conv => whnf)
 have hil := eItems_len (sheetOf p).l
 have hib : (sheetOf p).l.length ≤ 200 := by have := (sheet_spec p).2.2.2.1; omega
 have hfi := find_items (q := fun t => decide (t.kind = 4) && !fitsB p t) (sheetOf p).l
 rw [sheet_s] at hfi
 have hA2 : arityB p = match ((sheetOf p).l.find? fun it => decide (it.s.kind = 4) && !fitsB p it.s).map (fun it => it.s.id) with
  | some a => (6, a)
  | none => (0, 0) := by
  rw [hA, hfi]
  cases (stmts p).find? fun t => decide (t.kind = 4) && !fitsB p t <;> rfl
 rw [hA2]
 refine LoopK.inv tabOK (fun k : Nat => ⟨[(1, .p (.ip p.cells)), (2, .ptr 1 0), (14, .p (eItems (sheetOf p).l)), (15, .p (.int .i64 ((sheetOf p).l.map fun i => AV.agg i.cells).length)), (16, .p (.int .i64 k))], [(1, .obj 90 [.p (.int .i64 0), .p (.int .i64 0)])]⟩)
  (fun k => k ≤ (sheetOf p).l.length ∧ ((sheetOf p).l.drop k).find? (fun it => decide (it.s.kind = 4) && !fitsB p it.s) = (sheetOf p).l.find? fun it => decide (it.s.kind = 4) && !fitsB p it.s) (fun k => (sheetOf p).l.length - k) 0 (Le.of_eq rfl) ⟨Nat.zero_le _, rfl⟩ ?_
 rintro k ⟨h5, h6⟩
 rcases Nat.lt_or_ge k (sheetOf p).l.length with hk | hk
 rotate_left 1
 ·rw [← h6, find_end hk]
  conv => whnf
  repeat' (first | (refine And.intro rfl ?_; conv => whnf) | (refine Br.dec (fun _ => ?_) (fun _ => ?_) <;> first | (exfalso; omega) | conv => whnf))
  exact RetK.fault rfl rfl
 conv => whnf
 repeat' (first | ((first | (refine CallK.pure (arity_fits _ _) (by repeat' (first | exact ArgP.nil | refine ArgP.cons ?_ ?_ | exact Sub.refl _ | exact Sub.tt rfl | exact Sub.ff rfl)) ?_; rintro _ rfl) | (refine And.intro rfl ?_) | (refine IdxK.map (by omega) (fun _ => rfl) ?_) | (refine Wr.i64 (by omega) (by omega) ?_)); conv => whnf) | (refine Br.dec (fun _ => ?_) (fun _ => ?_) <;> first | (exfalso; omega) | conv => whnf) | (refine Br.n (fun _ => ?_) (fun _ => ?_) <;> conv => whnf))
 all_goals first
  | (have e3 := find_yes (p := fun it : Item => decide (it.s.kind = 4) && !fitsB p it.s) hk (by simp [*])
     rw [← h6, e3]
     exact RetK.fault rfl rfl)
  | exact ⟨k + 1, ⟨by omega, by rw [← h6, find_no (p := fun it : Item => decide (it.s.kind = 4) && !fitsB p it.s) hk (by simp [*])]⟩, by omega, Le.of_eq rfl⟩
open Go.Proofs
def joinO : List Str → List Str → Option (List Str)
 | seen, [] => some seen
 | seen, n :: r => bif seen.any (fun s => n == s) then none else joinO (seen ++ [n]) r
theorem joinO_no {seen l : List Str} {j : Nat} (hj : j < l.length) (h : (seen.any fun s => l[j] == s) = true) : joinO seen (l.drop j) = none := by
 rw [drop_cons hj, joinO, h]; rfl
theorem joinO_yes {seen l : List Str} {j : Nat} (hj : j < l.length) (h : (seen.any fun s => l[j] == s) = false) : joinO seen (l.drop j) = joinO (seen ++ [l[j]]) (l.drop (j + 1)) := by
 rw [drop_cons hj, joinO, h]; rfl
theorem joinO_len : ∀ {l seen out : List Str}, joinO seen l = some out → out = seen ++ l
 | [], seen, out, h => by rw [joinO] at h; cases h; simp
 | n :: r, seen, out, h => by
   rw [joinO] at h
   cases hc : (seen.any fun s => n == s) <;> rw [hc] at h
   ·have := joinO_len h
    simpa using this
   ·cases h
def joinR (t : Nat) (seen l : List Str) (r : LV) (H : Heap) : Prop :=
 match joinO seen l with
 | some out => r = .tup [.hd 2000 0 out.length, .p .tt] ∧ H = outH t out
 | none => ∃ out, r = .tup [.hd 2000 0 out.length, .p .ff] ∧ H = outH t out
theorem joinR_cases {t : Nat} {seen l : List Str} {Q : LV → Heap → Prop} (h1 : joinO seen l = some (seen ++ l) → Q (.tup [.hd 2000 0 (seen ++ l).length, .p .tt]) (outH t (seen ++ l)))
  (h2 : joinO seen l = none → ∀ out, Q (.tup [.hd 2000 0 out.length, .p .ff]) (outH t out)) : ∀ l' H', joinR t seen l l' H' → Q l' H' := by
 intro l' H' h
 unfold joinR at h
 cases hr : joinO seen l with
 | some out =>
   rw [hr] at h
   obtain ⟨rfl, rfl⟩ := h
   have := joinO_len hr
   subst this
   exact h1 hr
 | none =>
   rw [hr] at h
   obtain ⟨out, rfl, rfl⟩ := h
   exact h2 hr out
theorem jump_join (seen l : List Str) (hlen : seen.length + l.length ≤ 1000000000) :
  SpecH Tryz.prog 197 [.hd 2000 0 seen.length, .p (eStrs l)] (outH 9 seen) (joinR 9 seen l) := by
 refine SpecH.body I_jump_join tabOK Tryz.func197 rfl Tryz.call197 (by show 2 ≤ _; decide) ?_
 conv => whnf
 repeat' (intro (_ : _ ≤ 9223372036854775807); conv => whnf)
 have hl : (l.map AV.str).length = l.length := List.length_map _
 refine LoopK.inv tabOK (fun i : Nat × List Str => ⟨[(0, .hd 2000 0 i.2.length), (8, .p (eStrs l)), (9, .p (.int .i64 (l.map AV.str).length)), (10, .p (.int .i64 i.1))], outH 9 i.2⟩) (fun i => i.1 ≤ l.length ∧ i.2.length + (l.length - i.1) = seen.length + l.length ∧ joinO i.2 (l.drop i.1) = joinO seen l) (fun i => l.length - i.1) (0, seen) (Le.of_eq rfl) ⟨Nat.zero_le _, by simp, rfl⟩ ?_
 rintro ⟨j, acc⟩ ⟨h2, h3, h4⟩
 simp only at h2 h3 h4 ⊢
 rcases Nat.lt_or_ge j l.length with hj | hj
 ·conv => whnf
  repeat' (first | ((first | (refine And.intro rfl ?_) | (refine And.intro ⟨by decide, by decide⟩ ?_) | (refine BsK.pure (fun x hx => by rcases List.mem_singleton.1 hx with rfl; rfl) rfl ?_) | (refine IdxK.map (by omega) (fun _ => rfl) ?_) | (refine Wr.i64 (by omega) (by omega) ?_) | (refine CallK.borrow (slices_Contains_string_string_ acc (l[j]'hj)) (.cons (.hd rfl (by simp)) (.cons (.p (Sub.refl _)) .nil)) (by rintro _ rfl; rfl) ?_; rintro _ rfl) | (refine AppK.str1 (by simp) (by simp; omega) ?_)); conv => whnf) | (refine Br.dec (fun _ => ?_) (fun _ => ?_) <;> first | (exfalso; omega) | conv => whnf) | (refine Br.b (fun _ => ?_) (fun _ => ?_) <;> conv => whnf))
  ·exact ⟨_, .refl _, by unfold joinR; rw [← h4, joinO_no hj (by assumption)]; exact ⟨acc, rfl, rfl⟩⟩
  ·exact ⟨(j + 1, acc ++ [l[j]]), ⟨by simp only; omega, by simp; omega, by simp only; rw [← h4, joinO_yes hj (by assumption)]⟩, by simp only; omega, Le.of_eq (by simp only [outH, List.length_append, List.map_append]; rfl)⟩
 ·conv => whnf
  repeat' (refine Br.dec (fun _ => ?_) (fun _ => ?_) <;> first | (exfalso; omega) | conv => whnf)
  rw [List.drop_eq_nil_of_le hj, joinO] at h4
  exact ⟨_, .refl _, by unfold joinR; rw [← h4]; exact ⟨rfl, rfl⟩⟩
def atB (f : Pr) (label : Str) : Int × Bool :=
 match (flL f.body).find? fun t => t.labels.any fun s => label == s with
 | some t => (t.id, true)
 | none => bif f.fin.any fun s => label == s then (-1, true) else (0, false)
theorem RetK.tup2 {H : Heap} {k : IntKind} {m n : Int} {x : AV} {b : Bool} (h : m = n) (hb : Sub x (.bool b)) : RetK H (.p (.tup [.int k m, x])) (fun r => r = .tup [.int k n, .bool b]) :=
 ⟨_, .p (Sub.tup (SubL.cons (Sub.int h) (SubL.cons hb SubL.nil))), rfl⟩
theorem flat_Sheet_At (p : Pg) (j : Nat) (f : Pr) (hj : p.procs[j]? = some f) (hc : cntP p.procs ≤ 1000) (label : Str) : SpecP Tryz.prog 263 [.ip (sheetOf p).cells, .int .i64 j, .str label] (fun r => r = .tup [.int .i64 (atB f label).1, .bool (atB f label).2]) := by
 refine SpecP.body I_flat_Sheet_At tabOK Tryz.func263 rfl Tryz.call263 (by show 3 ≤ _; decide) ?_
 conv => whnf
 repeat' ((first | (intro (_ : _ ≤ 9223372036854775807)) | (refine CallK.pure (Of_at p hj hc) (.cons (Sub.refl _) (.cons (Sub.refl _) .nil)) ?_; rintro _ rfl)); conv => whnf)
 have hfi := find_items (q := fun t => t.labels.any fun s => label == s) (itL (j : Nat) 0 (-1) 0 (offN p.procs j) f.body)
 rw [itL_s] at hfi
 have hib : (itL (j : Nat) 0 (-1) 0 (offN p.procs j) f.body).length ≤ 1000 := by
  have := (sheet_spec p).2.2.2.2 j f hj
  rw [itL_len]
  omega
 generalize hits : itL (j : Nat) 0 (-1) 0 (offN p.procs j) f.body = its at hfi hib ⊢
 have hil := eItems_len its
 have hat : atB f label = match (its.find? fun it => it.s.labels.any fun s => label == s).map (fun it => it.s.id) with
  | some a => (a, true)
  | none => bif f.fin.any fun s => label == s then (-1, true) else (0, false) := by
  unfold atB
  rw [hfi]
  cases (flL f.body).find? fun t => t.labels.any fun s => label == s <;> rfl
 rw [hat]
 refine LoopK.inv tabOK (fun k : Nat => ⟨[(0, .p (.ip (sheetOf p).cells)), (1, .p (.int .i64 j)), (2, .p (.str label)), (12, .p (eItems its)), (13, .p (.int .i64 (its.map fun i => AV.agg i.cells).length)), (14, .p (.int .i64 k))], []⟩)
  (fun k => k ≤ its.length ∧ (its.drop k).find? (fun it => it.s.labels.any fun s => label == s) = its.find? fun it => it.s.labels.any fun s => label == s) (fun k => its.length - k) 0 (Le.of_eq rfl) ⟨Nat.zero_le _, rfl⟩ ?_
 rintro k ⟨h5, h6⟩
 rcases Nat.lt_or_ge k its.length with hk | hk
 ·conv => whnf
  repeat' (first | ((first | (refine CallK.pure (slices_Contains_string_string_ _ _) (by repeat' (first | exact ArgP.nil | refine ArgP.cons ?_ ?_ | exact Sub.refl _ | exact Sub.tt rfl | exact Sub.ff rfl)) ?_; rintro _ rfl) | (refine And.intro rfl ?_) | (refine IdxK.map (by omega) (fun _ => rfl) ?_) | (refine Wr.i64 (by omega) (by omega) ?_)); conv => whnf) | (refine Br.dec (fun _ => ?_) (fun _ => ?_) <;> first | (exfalso; omega) | conv => whnf) | (refine Br.b (fun _ => ?_) (fun _ => ?_) <;> conv => whnf))
  ·have e3 := find_yes (p := fun it : Item => it.s.labels.any fun s => label == s) hk (by assumption)
   rw [← h6, e3]
   exact RetK.tup2 rfl (Sub.tt rfl)
  ·exact ⟨k + 1, ⟨by omega, by rw [← h6, find_no (p := fun it : Item => it.s.labels.any fun s => label == s) hk (by assumption)]⟩, by omega, Le.of_eq rfl⟩
 ·rw [← h6, find_end hk]
  have hpj : (p.procs.map fun f => AV.agg f.cells)[j]? = some (.agg f.cells) := by simp [hj]
  conv => whnf
  repeat' (first | ((first | (refine CallK.pure (slices_Contains_string_string_ _ _) (by repeat' (first | exact ArgP.nil | refine ArgP.cons ?_ ?_ | exact Sub.refl _ | exact Sub.tt rfl | exact Sub.ff rfl)) ?_; rintro _ rfl) | (refine IdxK.at rfl hpj rfl ?_)); conv => whnf) | (refine Br.dec (fun _ => ?_) (fun _ => ?_) <;> first | (exfalso; omega) | conv => whnf) | (refine Br.b (fun _ => ?_) (fun _ => ?_) <;> conv => whnf))
  ·exact RetK.tup2 (by simp [*]) (Sub.tt (by simp [*]))
  ·exact RetK.tup2 (by simp [*]) (Sub.ff (by simp [*]))
def leadsB (f : Pr) (it : Item) : Bool := if it.s.kind = 7 ∨ it.s.kind = 8 then !(it.loop == 0) else if it.s.kind = 10 then (atB f it.s.name).2 else true
theorem jump_leads (p : Pg) (j : Nat) (f : Pr) (hj : p.procs[j]? = some f) (hc : cntP p.procs ≤ 1000) (it : Item) (hp : it.proc = j) : SpecP Tryz.prog 198 [.ip (sheetOf p).cells, .agg it.cells] (fun r => r = .bool (leadsB f it)) := by
 refine SpecP.body I_jump_leads tabOK Tryz.func198 rfl Tryz.call198 (by show 2 ≤ _; decide) ?_
 conv => whnf
 repeat' (first | (refine CallK.pure (flat_Sheet_At p j f hj hc it.s.name) (.cons (Sub.refl _) (.cons (Sub.int hp) (.cons (Sub.refl _) .nil))) ?_; rintro _ rfl; conv => whnf) | (refine Br.dec (fun _ => ?_) (fun _ => ?_) <;> first | (exfalso; omega) | conv => whnf))
 all_goals first
  | exact RetK.bool (by simp [leadsB, *]; rfl)
  | exact RetK.bool (by simp [leadsB, *])
  | exact RetK.tt (by simp [leadsB, *])
theorem jump_sheet (p : Pg) (hf : Fit p) (h : (scopeB p).1 = 0) : SpecP Tryz.prog 196 [.agg p.cells] (fun r => r = .ip (sheetOf p).cells) := by
 refine SpecP.body I_jump_sheet tabOK Tryz.func196 rfl Tryz.call196 (by show 1 ≤ _; decide) ?_
 conv => whnf
 obtain ⟨hm, hb, hns⟩ := scope_ok h
 obtain ⟨hg, hpl, hcn⟩ := mayB_cnt hm
 repeat' (first | ((first | (refine CallK.pure (scope_Check p hf) (by repeat' (first | exact ArgP.nil | refine ArgP.cons ?_ ?_ | exact Sub.refl _ | exact Sub.tt rfl | exact Sub.ff rfl | exact Sub.int (by omega))) ?_; rintro _ rfl) | (refine CallK.pure (flat_New p (by omega) (by omega)) (.cons (Sub.refl _) .nil) ?_; rintro _ rfl)); conv => whnf) | (refine Br.dec2 (fun _ => ?_) (fun _ => ?_) <;> first | (exfalso; omega) | conv => whnf))
 exact RetK.p rfl
theorem jump_sheet_no (p : Pg) (hf : Fit p) (h : (scopeB p).1 ≠ 0) : SpecP Tryz.prog 196 [.agg p.cells] (fun r => r = .nilp) := by
 refine SpecP.body I_jump_sheet tabOK Tryz.func196 rfl Tryz.call196 (by show 1 ≤ _; decide) ?_
 conv => whnf
 repeat' (first | (refine CallK.pure (scope_Check p hf) (by repeat' (first | exact ArgP.nil | refine ArgP.cons ?_ ?_ | exact Sub.refl _ | exact Sub.tt rfl | exact Sub.ff rfl | exact Sub.int (by omega))) ?_; rintro _ rfl; conv => whnf) | (refine Br.dec2 (fun _ => ?_) (fun _ => ?_) <;> first | (exfalso; omega) | conv => whnf))
 exact RetK.p rfl
mutual
theorem itS_proc (proc up nx loop : Int) (n : Nat) : ∀ (t : S) (it : Item), it ∈ itS proc up nx loop n t → it.proc = proc
 | .mk id kind labels name pr x has args thn els, it, h => by
   rw [itS] at h
   rcases List.mem_cons.1 h with rfl | h
   ·rfl
   ·rcases List.mem_append.1 h with h | h
    ·exact itL_proc _ _ _ _ _ thn it h
    ·exact itL_proc _ _ _ _ _ els it h
theorem itL_proc (proc up nx loop : Int) (n : Nat) : ∀ (l : List S) (it : Item), it ∈ itL proc up nx loop n l → it.proc = proc
 | [], it, h => by rw [itL] at h; cases h
 | t :: r, it, h => by
   rw [itL] at h
   rcases List.mem_append.1 h with h | h
   ·exact itS_proc _ _ _ _ _ t it h
   ·exact itL_proc _ _ _ _ _ r it h
end
def jumpR (f : Pr) : List Item → List Str → Except Int (List Str)
 | [], seen => .ok seen
 | it :: r, seen => match joinO seen it.s.labels with
   | none => .error it.s.id
   | some s => bif leadsB f it then jumpR f r s else .error it.s.id
def jumpAt (p : Pg) (j : Nat) : Option Int :=
 match p.procs[j]? with
 | none => none
 | some f => match jumpR f (itL (j : Nat) 0 (-1) 0 (offN p.procs j) f.body) [] with
   | .error id => some id
   | .ok seen => match joinO seen f.fin with
     | none => some 0
     | some _ => none
def jumpB (p : Pg) : Int × Int :=
 if (scopeB p).1 ≠ 0 then (1, 0) else match (List.range p.procs.length).findSome? (jumpAt p) with
  | some a => (7, a)
  | none => (0, 0)
theorem jumpR_no {f : Pr} {its : List Item} {seen : List Str} {k : Nat} (hk : k < its.length) (h : joinO seen its[k].s.labels = none) : jumpR f (its.drop k) seen = .error its[k].s.id := by
 rw [drop_cons hk, jumpR, h]
theorem jumpR_bad {f : Pr} {its : List Item} {seen s : List Str} {k : Nat} (hk : k < its.length) (h : joinO seen its[k].s.labels = some s) (hl : leadsB f its[k] = false) : jumpR f (its.drop k) seen = .error its[k].s.id := by
 rw [drop_cons hk, jumpR, h]
 simp only [hl, cond_false]
theorem jumpR_yes {f : Pr} {its : List Item} {seen s : List Str} {k : Nat} (hk : k < its.length) (h : joinO seen its[k].s.labels = some s) (hl : leadsB f its[k] = true) : jumpR f (its.drop k) seen = jumpR f (its.drop (k + 1)) s := by
 rw [drop_cons hk, jumpR, h]
 simp only [hl, cond_true]
theorem item_labels {l : List Pr} {j : Nat} (hj : j < l.length) (h : wPr l[j] ≤ 20000) {a b c d : Int} {n k : Nat} (hk : k < (itL a b c d n l[j].body).length) : (itL a b c d n l[j].body)[k].s.labels.length ≤ 20000 := by
 have hm : (itL a b c d n l[j].body)[k].s ∈ flL l[j].body := by
  rw [← itL_s a b c d n]
  exact List.mem_map.2 ⟨_, List.getElem_mem hk, rfl⟩
 have h1 := flL_w _ _ hm
 have h2 := wS_eq (itL a b c d n l[j].body)[k].s
 have h3 := wTxs_len (itL a b c d n l[j].body)[k].s.labels
 unfold wPr at h
 omega
theorem jump_Check (p : Pg) (hf : Fit p) : SpecP Tryz.prog 139 [.agg p.cells] (fun r => r = eFault (jumpB p).1 (jumpB p).2) := by
 refine SpecP.body I_jump_Check tabOK Tryz.func139 rfl Tryz.call139 (by show 1 ≤ _; decide) ?_
 conv => whnf
 rcases Decidable.em ((scopeB p).1 = 0) with hs | hs
 rotate_left 1
 ·
  repeat' ((first | (refine CallK.pure (jump_sheet_no p hf hs) (by repeat' (first | exact ArgP.nil | refine ArgP.cons ?_ ?_ | exact Sub.refl _ | exact Sub.tt rfl | exact Sub.ff rfl | exact Sub.int (by omega))) ?_; rintro _ rfl) | (refine And.intro rfl ?_)); conv => whnf)
  have e : jumpB p = (1, 0) := by unfold jumpB; rw [if_pos hs]
  exact RetK.fault (by rw [e]) (by rw [e])
 obtain ⟨hm, hb, hns⟩ := scope_ok hs
 obtain ⟨hg, hpl, hcn⟩ := mayB_cnt hm
 have hJ : jumpB p = match (List.range p.procs.length).findSome? (jumpAt p) with
  | some a => (7, a)
  | none => (0, 0) := by unfold jumpB; rw [if_neg (by omega)]
 rw [hJ]
 have hl : (p.procs.map fun f => AV.agg f.cells).length = p.procs.length := List.length_map _
 repeat' ((first | (intro (_ : _ ≤ 9223372036854775807)) | (refine CallK.pure (jump_sheet p hf hs) (by repeat' (first | exact ArgP.nil | refine ArgP.cons ?_ ?_ | exact Sub.refl _ | exact Sub.tt rfl | exact Sub.ff rfl | exact Sub.int (by omega))) ?_; rintro _ rfl)); conv => whnf)
 refine LoopK.inv tabOK (fun j : Nat => ⟨[(2, .ptr 1 0), (3, .p (.ip (sheetOf p).cells)), (16, .p (.sl (p.procs.map fun f => .agg f.cells))), (17, .p (.int .i64 (p.procs.map fun f => AV.agg f.cells).length)), (18, .p (.int .i64 j))], [(1, .obj 90 [.p (.int .i64 0), .p (.int .i64 0)])]⟩)
  (fun j => j ≤ p.procs.length ∧ ((List.range p.procs.length).drop j).findSome? (jumpAt p) = (List.range p.procs.length).findSome? (jumpAt p)) (fun j => p.procs.length - j) 0 (Le.of_eq rfl) ⟨Nat.zero_le _, rfl⟩ ?_
 rintro j ⟨h2, h3⟩
 rcases Nat.lt_or_ge j p.procs.length with hj | hj
 rotate_left 1
 ·have e : (List.range p.procs.length).findSome? (jumpAt p) = none := by rw [← h3, findSome_end (by simpa using hj)]
  rw [e]
  conv => whnf
  repeat' (first | (refine And.intro rfl ?_; conv => whnf) | (refine Br.dec (fun _ => ?_) (fun _ => ?_) <;> first | (exfalso; omega) | conv => whnf))
  exact RetK.fault rfl rfl
 have hfp := hf.pr (List.getElem_mem hj)
 have hjr : j < (List.range p.procs.length).length := by simpa using hj
 have hrj : (List.range p.procs.length)[j] = j := by simp
 have hpj : p.procs[j]? = some p.procs[j] := by simp [hj]
 conv => whnf
 repeat' (first | ((first | (intro (_ : _ ≤ 9223372036854775807)) | (refine And.intro rfl ?_) | (refine IdxK.map (by omega) (fun _ => rfl) ?_) | (refine CallK.pure (Of_at p (f := p.procs[j]'hj) hpj (by omega)) (.cons (Sub.refl _) (.cons (Sub.refl _) .nil)) ?_; rintro _ rfl)); conv => whnf) | (refine Br.dec (fun _ => ?_) (fun _ => ?_) <;> first | (exfalso; omega) | conv => whnf))
 have hlab : ∀ k (hk : k < (itL (j : Nat) 0 (-1) 0 (offN p.procs j) p.procs[j].body).length), (itL (j : Nat) 0 (-1) 0 (offN p.procs j) p.procs[j].body)[k].s.labels.length ≤ 20000 := fun k hk => item_labels hj hfp hk
 have hprc : ∀ k (hk : k < (itL (j : Nat) 0 (-1) 0 (offN p.procs j) p.procs[j].body).length), (itL (j : Nat) 0 (-1) 0 (offN p.procs j) p.procs[j].body)[k].proc = j := fun k hk => itL_proc _ _ _ _ _ _ _ (List.getElem_mem hk)
 have hib : (itL (j : Nat) 0 (-1) 0 (offN p.procs j) p.procs[j].body).length ≤ 200 := by
  have := (sheet_spec p).2.2.2.2 j _ hpj
  rw [itL_len]
  omega
 have hja : jumpAt p j = match jumpR p.procs[j] (itL (j : Nat) 0 (-1) 0 (offN p.procs j) p.procs[j].body) [] with
  | .error id => some id
  | .ok seen => match joinO seen p.procs[j].fin with
    | none => some 0
    | some _ => none := by
  unfold jumpAt
  rw [hpj]
 generalize hits : itL (j : Nat) 0 (-1) 0 (offN p.procs j) p.procs[j].body = its at hlab hprc hib hja ⊢
 have hil := eItems_len its
 refine LoopK.inv tabOK (fun i : Nat × List Str => ⟨[(2, .ptr 1 0), (3, .p (.ip (sheetOf p).cells)), (5, .p (.ip (p.procs[j]'hj).cells)), (6, .hd 0 0 i.2.length), (16, .p (.sl (p.procs.map fun f => .agg f.cells))), (17, .p (.int .i64 (p.procs.map fun f => AV.agg f.cells).length)), (18, .p (.int .i64 j)), (25, .p (eItems its)), (26, .p (.int .i64 (its.map fun i => AV.agg i.cells).length)), (27, .p (.int .i64 i.1))], [(0, .own 9 1 (i.2.map .str)), (1, .obj 90 [.p (.int .i64 0), .p (.int .i64 0)])]⟩)
  (fun i => i.1 ≤ its.length ∧ i.2.length ≤ 20000 * i.1 ∧ jumpR p.procs[j] (its.drop i.1) i.2 = jumpR p.procs[j] its []) (fun i => its.length - i.1) (0, [])
  (Le.mk [(0, .own 9 1 [])] (by simp [Chunk.new0]; rfl) (by simp) (by simp) (.cons (.refl _) (.cons (.refl _) (.cons (.refl _) (.cons (.nil List.mem_cons_self) (.cons (.refl _) (.cons (.refl _) (.cons (.refl _) (.cons (.refl _) (.cons (.refl _) (.cons (.refl _) .nil)))))))))) (.new List.mem_cons_self (.cons rfl (.refl _) .nil)))
  ⟨Nat.zero_le _, by simp, rfl⟩ ?_
 rintro ⟨k, acc⟩ ⟨h5, h6, h7⟩
 simp only at h5 h6 h7 ⊢
 rcases Nat.lt_or_ge k its.length with hk | hk
 ·have hlk := hlab k hk
  conv => whnf
  repeat' (first | ((first | (refine And.intro rfl ?_) | (refine IdxK.map (by omega) (fun _ => rfl) ?_) | (refine Wr.i64 (by omega) (by omega) ?_) | (refine CallK.pure (jump_leads p j p.procs[j] hpj (by omega) its[k] (hprc k hk)) (.cons (Sub.refl _) (.cons (Sub.refl _) .nil)) ?_; rintro _ rfl)); conv => whnf) | (refine Br.dec (fun _ => ?_) (fun _ => ?_) <;> first | (exfalso; omega) | conv => whnf) | (refine Br.n (fun _ => ?_) (fun _ => ?_) <;> conv => whnf) | (refine CallK.heap [(2000, 0)] 0 (by repeat' (first | exact ArgsH.nil | refine ArgsH.cons ?_ ?_ | exact LSub.refl _ | exact LSub.p Sub.nils | exact LSub.p (Sub.tt rfl) | exact LSub.p (Sub.ff rfl) | exact LSub.p (Sub.int (by omega)))) (by refine BlksH.cons (j := 0) rfl rfl ?_ ?_; exact CSub.refl _; exact BlksH.nil) (jump_join acc its[k].s.labels (by omega)) rfl rfl (joinR_cases (fun hjo => ?_) (fun hjo out => ?_)) <;> conv => whnf))
  ·exact ⟨(k + 1, acc ++ its[k].s.labels), ⟨by simp only; omega, by simp; omega, by simp only; rw [← h7, jumpR_yes hk hjo (by assumption)]⟩, by simp only; omega, Le.of_eq rfl⟩
  ·rw [← h7, jumpR_bad hk hjo (by assumption)] at hja
   have e2 := findSome_yes (f := jumpAt p) hjr (by rw [hrj]; exact hja)
   rw [h3] at e2
   rw [e2]
   exact RetK.fault rfl rfl
  ·rw [← h7, jumpR_no hk hjo] at hja
   have e2 := findSome_yes (f := jumpAt p) hjr (by rw [hrj]; exact hja)
   rw [h3] at e2
   rw [e2]
   exact RetK.fault rfl rfl
 ·have hfin : p.procs[j].fin.length ≤ 20000 := by
   have := wTxs_len p.procs[j].fin
   unfold wPr at hfp
   omega
  rw [List.drop_eq_nil_of_le hk, jumpR] at h7
  rw [← h7] at hja
  simp only at hja
  conv => whnf
  repeat' (first | ((first | (refine And.intro rfl ?_) | (refine Wr.i64 (by omega) (by omega) ?_)); conv => whnf) | (refine Br.dec (fun _ => ?_) (fun _ => ?_) <;> first | (exfalso; omega) | conv => whnf) | (refine CallK.heap [(2000, 0)] 0 (by repeat' (first | exact ArgsH.nil | refine ArgsH.cons ?_ ?_ | exact LSub.refl _ | exact LSub.p Sub.nils | exact LSub.p (Sub.tt rfl) | exact LSub.p (Sub.ff rfl) | exact LSub.p (Sub.int (by omega)))) (by refine BlksH.cons (j := 0) rfl rfl ?_ ?_; exact CSub.refl _; exact BlksH.nil) (jump_join acc p.procs[j].fin (by omega)) rfl rfl (joinR_cases (fun hjo => ?_) (fun hjo out => ?_)) <;> conv => whnf))
  ·rw [hjo] at hja
   exact ⟨j + 1, ⟨by omega, by rw [← h3, findSome_no (f := jumpAt p) hjr (by rw [hrj]; exact hja)]⟩, by omega, Le.of_eq rfl⟩
  ·rw [hjo] at hja
   have e2 := findSome_yes (f := jumpAt p) hjr (by rw [hrj]; exact hja)
   rw [h3] at e2
   rw [e2]
   exact RetK.fault rfl rfl
theorem BsK.pureL {es : List AV} {sz : Nat} {out : List LV} {Kp Ko : Prop} (hx : (es.all fun x => x.cells.length == sz) = true) (ho : out = (es.flatMap AV.cells).map .p) (hK : Kp) : BsK es sz out Kp Ko := .pure (fun x h => by simpa using List.all_eq_true.1 hx x h) ho hK
open Go.Proofs
open Go.Proofs
def okForm (x : X) : Bool := decide (kidsN x.op = (x.kids.length : Int)) && (decide (x.op = 1) || decide (x.n = 0)) && decide (0 ≤ x.n) && (decide (x.op = 2) == !(x.name == [])) && ((x.name == []) || isName x.name)
def formF : Nat → X → Bool
 | 0, _ => true
 | k + 1, x => okForm x && x.kids.all (formF k)
end Go.Ab
