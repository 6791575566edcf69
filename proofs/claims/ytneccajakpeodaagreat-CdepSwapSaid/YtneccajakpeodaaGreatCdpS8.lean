/- Small laws for the scripts. Conditions: none. -/
import Derived.Test.YtneccajakpeodaaGreatCdpS7
set_option linter.unusedSimpArgs false
set_option linter.unusedVariables false
set_option maxRecDepth 100000
set_option maxHeartbeats 16000000
namespace Go.Ab
theorem Br.dec {p : Prop} [Decidable p] {A B : Prop} (h : p → A) (h' : ¬ p → B) : Br (decide p) A B := ⟨fun e => h (by simpa using e), fun e => h' (by simpa using e)⟩
theorem Br.b {b : Bool} {A B : Prop} (h : b = true → A) (h' : b = false → B) : Br b A B := ⟨h, h'⟩
theorem Br.dec2 {p : Prop} [Decidable p] {A B : Prop} (h : p → A) (h' : ¬ p → B) : Br (!decide p) B A := ⟨fun e => h' (by simpa using e), fun e => h (by simpa using e)⟩
theorem Br.n {b : Bool} {A B : Prop} (h : b = true → B) (h' : b = false → A) : Br (!b) A B := ⟨fun e => h' (by simpa using e), fun e => h (by simpa using e)⟩
theorem ByteK.at {s : List UInt8} {k : Nat} {K : UInt8 → Prop} (hk : k < s.length) (h : K s[k]) : ByteK s k K := ⟨k, s[k], rfl, by simp, h⟩
theorem X.avs_len (l : List X) : (X.avs l).length = l.length := by rw [X.avs_eq]; simp
theorem S.avs_len (l : List S) : (S.avs l).length = l.length := by rw [S.avs_eq]; simp
theorem IdxK.map {α : Type} {f : α → AV} {l : List α} {sz k : Nat} {K : List AV → Prop} (hk : k < (l.map f).length) (hs : ∀ x, (f x).cells.length = sz) (h : K (f (l[k]'(by simpa using hk))).cells) : IdxK (l.map f) sz k K :=
 ⟨k, f (l[k]'(by simpa using hk)), rfl, by simp at hk; simp [hk], hs _, h⟩
theorem IdxK.xs {l : List X} {k : Nat} {K : List AV → Prop} (hk : k < (X.avs l).length) (h : K (l[k]'(by rw [X.avs_len] at hk; exact hk)).cells) : IdxK (X.avs l) 4 k K := by
 rw [X.avs_len] at hk
 refine ⟨k, .agg l[k].cells, rfl, ?_, rfl, h⟩
 rw [X.avs_eq]
 simp [hk]
theorem IdxK.ss {l : List S} {k : Nat} {K : List AV → Prop} (hk : k < (S.avs l).length) (h : K (l[k]'(by rw [S.avs_len] at hk; exact hk)).cells) : IdxK (S.avs l) 13 k K := by
 rw [S.avs_len] at hk
 refine ⟨k, .agg l[k].cells, rfl, ?_, rfl, h⟩
 rw [S.avs_eq]
 simp [hk]
theorem RetK.b {H : Heap} {v : AV} {b : Bool} (h : Sub v (.bool b)) : RetK H (.p v) (fun r => r = .bool b) := ⟨_, .p h, rfl⟩
theorem RetK.tt {H : Heap} {b : Bool} (h : b = true) : RetK H (.p .tt) (fun r => r = .bool b) := ⟨_, .p (Sub.tt h), rfl⟩
theorem RetK.ff {H : Heap} {b : Bool} (h : b = false) : RetK H (.p .ff) (fun r => r = .bool b) := ⟨_, .p (Sub.ff h), rfl⟩
theorem RetK.bool {H : Heap} {a b : Bool} (h : a = b) : RetK H (.p (.bool a)) (fun r => r = .bool b) := ⟨_, .p (Sub.bool h), rfl⟩
theorem RetK.int {H : Heap} {k : IntKind} {m n : Int} (h : m = n) : RetK H (.p (.int k m)) (fun r => r = .int k n) := ⟨_, .p (Sub.int h), rfl⟩
theorem RetK.p {H : Heap} {a b : AV} (h : a = b) : RetK H (.p a) (fun r => r = b) := ⟨_, .p (Sub.of_eq h), rfl⟩
theorem drop_cons {α : Type} {l : List α} {j : Nat} (h : j < l.length) : l.drop j = l[j] :: l.drop (j + 1) := by simp
theorem all_yes {α : Type} {l : List α} {p : α → Bool} {j : Nat} (hj : j < l.length) (h : p l[j] = true) : (l.drop (j + 1)).all p = (l.drop j).all p := by
 rw [drop_cons hj, List.all_cons, h, Bool.true_and]
theorem all_no {α : Type} {l : List α} {p : α → Bool} {j : Nat} (hj : j < l.length) (h : p l[j] = false) : (l.drop j).all p = false := by
 rw [drop_cons hj, List.all_cons, h, Bool.false_and]
theorem all_end {α : Type} {l : List α} {p : α → Bool} {j : Nat} (hj : l.length ≤ j) : (l.drop j).all p = true := by
 rw [List.drop_eq_nil_of_le hj]; rfl
theorem any_no {α : Type} {l : List α} {p : α → Bool} {j : Nat} (hj : j < l.length) (h : p l[j] = false) : (l.drop (j + 1)).any p = (l.drop j).any p := by
 rw [drop_cons hj, List.any_cons, h, Bool.false_or]
theorem any_yes {α : Type} {l : List α} {p : α → Bool} {j : Nat} (hj : j < l.length) (h : p l[j] = true) : (l.drop j).any p = true := by
 rw [drop_cons hj, List.any_cons, h, Bool.true_or]
theorem any_end {α : Type} {l : List α} {p : α → Bool} {j : Nat} (hj : l.length ≤ j) : (l.drop j).any p = false := by
 rw [List.drop_eq_nil_of_le hj]; rfl
theorem take_map {α β : Type} {l : List α} {g : α → β} {j : Nat} (hj : j < l.length) : (l.take (j + 1)).map g = (l.take j).map g ++ [g l[j]] := by
 rw [List.take_succ_eq_append_getElem hj, List.map_append]
 rfl
def idxF {α : Type} (p : α → Bool) (l : List α) : Int := bif l.any p then (l.findIdx p : Nat) else -1
theorem fi_no {α : Type} {l : List α} {p : α → Bool} {j : Nat} (hj : j < l.length) (h : p l[j] = false) : (l.drop j).findIdx p = (l.drop (j + 1)).findIdx p + 1 := by
 rw [drop_cons hj, List.findIdx_cons, h, cond_false]
theorem fi_yes {α : Type} {l : List α} {p : α → Bool} {j : Nat} (hj : j < l.length) (h : p l[j] = true) : (l.drop j).findIdx p = 0 := by
 rw [drop_cons hj, List.findIdx_cons, h, cond_true]
theorem idxF_ge {α : Type} {p : α → Bool} {l : List α} : decide (idxF p l ≥ 0) = l.any p := by
 unfold idxF
 cases l.any p <;> simp
theorem idxF_yes {α : Type} {p : α → Bool} {l : List α} {j : Nat} (hj : j < l.length) (h : p l[j] = true) (h1 : (l.drop j).any p = l.any p) (h2 : l.findIdx p = j + (l.drop j).findIdx p) : idxF p l = j := by
 unfold idxF
 rw [← h1, any_yes hj h, cond_true, h2, fi_yes hj h]
 rfl
theorem idxF_no {α : Type} {p : α → Bool} {l : List α} (h : l.any p = false) : idxF p l = -1 := by
 unfold idxF
 rw [h]
 rfl
theorem DrawK.join {P : Program} {T : Tab} {N : Nat} {ops : Array Oper} {info : Info} {id : Nat} {K : St → Prop} {s : St} (S1 : St) (h : DrawK P T N info id ops (fun s => tidyK info id s fun s3 => Le N s3 S1) s) (hK : tidyK info id S1 K) :
  DrawK P T N info id ops (fun s => tidyK info id s K) s := by
 refine ⟨⟨fun σ β a w hr => Code.wp_mono (fun e a' w' hk => ?_) (h.ok.ok σ β a w hr)⟩⟩
 obtain ⟨σ', β', s', hk, hr', hl⟩ := hk
 cases e <;> simp only at hk ⊢
 obtain ⟨s2, h1, h2⟩ := tidyK_spec (N := N) hk
 obtain ⟨σ2, β2, hr2, hl2⟩ := (h2.trans h1) σ' β' a' w' hr'
 exact ⟨σ2, β2, S1, hK, hr2, hl.trans hl2⟩
theorem DrawK.auto {P : Program} {T : Tab} {N : Nat} {ops : Array Oper} {info : Info} {id : Nat} {K : St → Prop} {s : St} (hT : TabOK P T) (hm : P.follows .mixedOrders = true) (hok : (bif edgesIn ops.size ops.toList then bif Nat.ble (info.sched id).len ops.size then okSched ops [] (info.sched id) else false else false) = true)
  (h : drW P T N ops (info.sched id) s K) : DrawK P T N info id ops K s := DrawK.of hT hm _ hok h
open Go.Proofs
def isLetter (c : UInt8) : Bool := decide (97 ≤ (c.toNat : Int)) && decide ((c.toNat : Int) ≤ 122)
def isDigit (c : UInt8) : Bool := decide (48 ≤ (c.toNat : Int)) && decide ((c.toNat : Int) ≤ 57)
def isLd (c : UInt8) : Bool := isLetter c || isDigit c
theorem lex_letter (c : UInt8) : SpecP Tryz.prog 255 [.int .u8 c.toNat] (fun r => r = .bool (isLetter c)) := by
 refine SpecP.body I_lex_letter tabOK Tryz.func255 rfl Tryz.call255 (by show 1 ≤ _; decide) ?_
 conv => whnf
 repeat' (refine Br.dec (fun _ => ?_) (fun _ => ?_) <;> first | (exfalso; omega) | conv => whnf)
 ·exact RetK.bool (by simp_all [isLetter]; try omega)
 ·exact RetK.ff (by simp_all [isLetter]; try omega)
theorem lex_digit (c : UInt8) : SpecP Tryz.prog 291 [.int .u8 c.toNat] (fun r => r = .bool (isDigit c)) := by
 refine SpecP.body I_lex_digit tabOK Tryz.func291 rfl Tryz.call291 (by show 1 ≤ _; decide) ?_
 conv => whnf
 repeat' (refine Br.dec (fun _ => ?_) (fun _ => ?_) <;> first | (exfalso; omega) | conv => whnf)
 ·exact RetK.bool (by simp_all [isDigit]; try omega)
 ·exact RetK.ff (by simp_all [isDigit]; try omega)
def lexrun (s : Str) (i : Nat) : Nat := i + ((s.drop i).takeWhile isLd).length
theorem lexrun_yes {s : Str} {i : Nat} (h : i < s.length) (hc : isLd s[i] = true) : lexrun s (i + 1) = lexrun s i := by
 unfold lexrun
 rw [drop_cons h, List.takeWhile_cons, if_pos hc]
 simp only [List.length_cons]; omega
theorem lexrun_no {s : Str} {i : Nat} (h : ∀ (hi : i < s.length), isLd s[i] = false) : lexrun s i = i := by
 unfold lexrun
 by_cases hi : i < s.length
 ·rw [drop_cons hi, List.takeWhile_cons, if_neg (by simp [h hi])]; rfl
 ·rw [List.drop_eq_nil_of_le (by omega)]; rfl
theorem lex_run (s : Str) (i : Nat) (hi : i ≤ s.length) : SpecP Tryz.prog 256 [.str s, .int .i64 i] (fun r => r = .int .i64 (lexrun s i)) := by
 refine SpecP.body I_lex_run tabOK Tryz.func256 rfl Tryz.call256 (by show 2 ≤ _; decide) ?_
 conv => whnf
 refine LoopK.inv tabOK (fun j : Nat => ⟨[(0, .p (.str s)), (1, .p (.int .i64 j))], []⟩) (fun j => j ≤ s.length ∧ lexrun s j = lexrun s i) (fun j => s.length - j) i (Le.of_eq rfl) ⟨hi, rfl⟩ ?_
 rintro j ⟨h2, h3⟩
 conv => whnf
 repeat' (first | ((first | (intro (_ : _ ≤ 9223372036854775807)) | (refine CallK.pure (lex_letter _) (by repeat' (first | exact ArgP.nil | refine ArgP.cons ?_ ?_ | exact Sub.refl _ | exact Sub.tt rfl | exact Sub.ff rfl)) ?_; rintro _ rfl) | (refine CallK.pure (lex_digit _) (by repeat' (first | exact ArgP.nil | refine ArgP.cons ?_ ?_ | exact Sub.refl _ | exact Sub.tt rfl | exact Sub.ff rfl)) ?_; rintro _ rfl) | (refine ByteK.at (by omega) ?_) | (refine Wr.i64 (by omega) (by omega) ?_)); conv => whnf) | (refine Br.dec (fun _ => ?_) (fun _ => ?_) <;> first | (exfalso; omega) | conv => whnf) | (refine Br.b (fun _ => ?_) (fun _ => ?_) <;> conv => whnf))
 ·exact ⟨j + 1, ⟨by omega, by rw [lexrun_yes (by omega) (by simp_all [isLd])]; exact h3⟩, by omega, Le.of_eq rfl⟩
 ·exact ⟨j + 1, ⟨by omega, by rw [lexrun_yes (by omega) (by simp_all [isLd])]; exact h3⟩, by omega, Le.of_eq rfl⟩
 ·exact RetK.int (by rw [← h3, lexrun_no fun _ => by simp_all [isLd]])
 ·exact RetK.int (by rw [← h3, lexrun_no fun _ => by omega])
def isWord (s : Str) : Bool := decide (s = [103, 108, 111, 98, 97, 108]) || decide (s = [112, 114, 111, 99]) || decide (s = [118, 97, 114]) || decide (s = [114, 101, 102]) || decide (s = [105, 102]) || decide (s = [101, 108, 115, 101]) || decide (s = [119, 104, 105, 108, 101]) || decide (s = [98, 114, 101, 97, 107]) || decide (s = [99, 111, 110, 116, 105, 110, 117, 101]) || decide (s = [114, 101, 116, 117, 114, 110]) || decide (s = [103, 111, 116, 111]) || decide (s = [114, 101, 97, 100]) || decide (s = [112, 114, 105, 110, 116])
theorem lex_Word (s : Str) : SpecP Tryz.prog 257 [.str s] (fun r => r = .bool (isWord s)) := by
 refine SpecP.body I_lex_Word tabOK Tryz.func257 rfl Tryz.call257 (by show 1 ≤ _; decide) ?_
 conv => whnf
 repeat' (refine Br.b (fun _ => ?_) (fun _ => ?_) <;> conv => whnf)
 all_goals first
  | exact RetK.tt (by simp_all [isWord])
  | exact RetK.ff (by simp_all [isWord])
def isName (s : Str) : Bool := if h : 1 ≤ s.length ∧ s.length ≤ 8 then isLetter (s[0]'(by omega)) && decide (lexrun s 0 = s.length) && !isWord s else false
theorem lex_Name (s : Str) : SpecP Tryz.prog 186 [.str s] (fun r => r = .bool (isName s)) := by
 refine SpecP.body I_lex_Name tabOK Tryz.func186 rfl Tryz.call186 (by show 1 ≤ _; decide) ?_
 conv => whnf
 repeat' (first | ((first | (intro (_ : _ ≤ 9223372036854775807)) | (refine CallK.pure (lex_letter _) (by repeat' (first | exact ArgP.nil | refine ArgP.cons ?_ ?_ | exact Sub.refl _ | exact Sub.tt rfl | exact Sub.ff rfl)) ?_; rintro _ rfl) | (refine CallK.pure (lex_run _ 0 (Nat.zero_le _)) (by repeat' (first | exact ArgP.nil | refine ArgP.cons ?_ ?_ | exact Sub.refl _ | exact Sub.tt rfl | exact Sub.ff rfl | exact Sub.int (by omega))) ?_; rintro _ rfl) | (refine CallK.pure (lex_Word _) (by repeat' (first | exact ArgP.nil | refine ArgP.cons ?_ ?_ | exact Sub.refl _ | exact Sub.tt rfl | exact Sub.ff rfl)) ?_; rintro _ rfl) | (refine ByteK.at (k := 0) (by omega) ?_)); conv => whnf) | (refine Br.dec (fun _ => ?_) (fun _ => ?_) <;> first | (exfalso; omega) | conv => whnf) | (refine Br.n (fun _ => ?_) (fun _ => ?_) <;> conv => whnf))
 ·exact RetK.ff (by unfold isName; rw [dif_neg (by omega)])
 ·exact RetK.ff (by unfold isName; rw [dif_neg (by omega)])
 ·exact RetK.bool (by unfold isName; rw [dif_pos (by omega)]; simp_all; omega)
 ·exact RetK.ff (by unfold isName; rw [dif_pos (by omega)]; simp_all; omega)
 ·exact RetK.ff (by unfold isName; rw [dif_pos (by omega)]; simp_all)
def namesB (l : List Str) : Bool := l.all isName
theorem tree_names (l : List Str) : SpecP Tryz.prog 188 [eStrs l] (fun r => r = .bool (namesB l)) := by
 refine SpecP.body I_tree_names tabOK Tryz.func188 rfl Tryz.call188 (by show 1 ≤ _; decide) ?_
 conv => whnf
 intro (_ : _ ≤ 9223372036854775807)
 conv => whnf
 refine LoopK.inv tabOK (fun j : Nat => ⟨[(5, .p (eStrs l)), (6, .p (.int .i64 (l.map AV.str).length)), (7, .p (.int .i64 j))], []⟩) (fun j => j ≤ l.length ∧ (l.drop j).all isName = namesB l) (fun j => l.length - j) 0 (Le.of_eq rfl) ⟨Nat.zero_le _, rfl⟩ ?_
 rintro j ⟨h2, h3⟩
 have hl : (l.map AV.str).length = l.length := List.length_map _
 conv => whnf
 repeat' (first | ((first | (refine CallK.pure (lex_Name _) (by repeat' (first | exact ArgP.nil | refine ArgP.cons ?_ ?_ | exact Sub.refl _ | exact Sub.tt rfl | exact Sub.ff rfl)) ?_; rintro _ rfl) | (refine IdxK.map (by omega) (fun _ => rfl) ?_) | (refine Wr.i64 (by omega) (by omega) ?_)); conv => whnf) | (refine Br.dec (fun _ => ?_) (fun _ => ?_) <;> first | (exfalso; omega) | conv => whnf) | (refine Br.n (fun _ => ?_) (fun _ => ?_) <;> conv => whnf))
 ·exact ⟨j + 1, ⟨by omega, by rw [all_yes (by omega) (by assumption)]; exact h3⟩, by omega, Le.of_eq rfl⟩
 ·exact RetK.ff (by rw [← h3, all_no (by omega) (by assumption)])
 ·exact RetK.tt (by rw [← h3, all_end (by omega)])
def kidsN (op : Int) : Int := if op = 1 ∨ op = 2 then 0 else if op = 3 ∨ op = 4 then 1 else if 5 ≤ op ∧ op ≤ 17 then 2 else -1
theorem tree_kids (op : Int) : SpecP Tryz.prog 185 [.int .i64 op] (fun r => r = .int .i64 (kidsN op)) := by
 refine SpecP.body I_tree_kids tabOK Tryz.func185 rfl Tryz.call185 (by show 1 ≤ _; decide) ?_
 conv => whnf
 repeat' (refine Br.dec (fun _ => ?_) (fun _ => ?_) <;> first | (exfalso; omega) | conv => whnf)
 all_goals exact RetK.int (by unfold kidsN; (repeat' split) <;> omega)
def deepB : Nat → X → Bool
 | 0, _ => false
 | n + 1, x => decide ((x.kids.length : Int) = kidsN x.op) && (if x.op = 1 then decide (0 ≤ x.n) && (x.name == []) else if x.op = 2 then decide (x.n = 0) && isName x.name else decide (x.n = 0) && (x.name == []) && x.kids.all (deepB n))
theorem tree_deep : ∀ (n : Nat) (_ : n ≤ 1000) (x : X), SpecP Tryz.prog 127 [.agg x.cells, .int .i64 n] (fun r => r = .bool (deepB n x)) := by
 intro n
 induction n with
 | zero =>
   intro _ x
   refine SpecP.body I_tree_deep tabOK Tryz.func127 rfl Tryz.call127 (by show 2 ≤ _; decide) ?_
   conv => whnf
   repeat' (first | (refine DrawK.auto tabOK mixed (by kernel_rfl) ?_; conv => whnf) | (refine Br.dec (fun _ => ?_) (fun _ => ?_) <;> first | (exfalso; omega) | conv => whnf))
   exact RetK.ff rfl
 | succ n ih =>
   intro hn x
   refine SpecP.body I_tree_deep tabOK Tryz.func127 rfl Tryz.call127 (by show 2 ≤ _; decide) ?_
   conv => whnf
   repeat' (first | ((first | (intro (_ : _ ≤ 9223372036854775807)) | (refine CallK.pure (tree_kids _) (by repeat' (first | exact ArgP.nil | refine ArgP.cons ?_ ?_ | exact Sub.refl _ | exact Sub.tt rfl | exact Sub.ff rfl)) ?_; rintro _ rfl) | (refine CallK.pure (lex_Name _) (by repeat' (first | exact ArgP.nil | refine ArgP.cons ?_ ?_ | exact Sub.refl _ | exact Sub.tt rfl | exact Sub.ff rfl)) ?_; rintro _ rfl) | (refine DrawK.auto tabOK mixed (by kernel_rfl) ?_)); conv => whnf) | (refine Br.dec (fun _ => ?_) (fun _ => ?_) <;> first | (exfalso; omega) | conv => whnf) | (refine Br.dec2 (fun _ => ?_) (fun _ => ?_) <;> first | (exfalso; omega) | conv => whnf) | (refine Br.n (fun _ => ?_) (fun _ => ?_) <;> conv => whnf))
   all_goals try (have hk : ((X.avs x.kids).length : Int) = x.kids.length := by rw [X.avs_len])
   ·exact RetK.bool (by simp_all [deepB])
   ·exact RetK.ff (by simp_all [deepB]; try omega)
   ·exact RetK.bool (by simp_all [deepB])
   ·exact RetK.ff (by simp_all [deepB]; try omega)
   ·have h0 : deepB (n + 1) x = x.kids.all (deepB n) := by simp_all [deepB]
    rw [h0]
    refine LoopK.inv tabOK (fun j : Nat => ⟨[(1, .p (.int .i64 (n + 1 : Nat))), (49, .p (.sl (X.avs x.kids))), (50, .p (.int .i64 (X.avs x.kids).length)), (51, .p (.int .i64 j))], []⟩) (fun j => j ≤ x.kids.length ∧ (x.kids.drop j).all (deepB n) = x.kids.all (deepB n)) (fun j => x.kids.length - j) 0 (Le.of_eq rfl) ⟨Nat.zero_le _, rfl⟩ ?_
    rintro j ⟨h2, h3⟩
    conv => whnf
    repeat' (first | ((first | (refine And.intro rfl ?_) | (refine IdxK.xs (by omega) ?_) | (refine Wr.i64 (by omega) (by omega) ?_) | (refine CallK.pure (ih (by omega) _) (.cons (Sub.refl _) (.cons (Sub.int (by omega)) .nil)) ?_; rintro _ rfl)); conv => whnf) | (refine Br.dec (fun _ => ?_) (fun _ => ?_) <;> first | (exfalso; omega) | conv => whnf) | (refine Br.n (fun _ => ?_) (fun _ => ?_) <;> conv => whnf))
    ·exact ⟨j + 1, ⟨by omega, by rw [all_yes (by omega) (by assumption)]; exact h3⟩, by omega, Le.of_eq rfl⟩
    ·exact RetK.ff (by rw [← h3, all_no (by omega) (by assumption)])
    ·exact RetK.tt (by rw [← h3, all_end (by omega)])
   ·exact RetK.ff (by simp_all [deepB]; try omega)
   ·exact RetK.ff (by simp_all [deepB]; try omega)
   ·exact RetK.ff (by simp_all [deepB]; try omega)
def mayX (x : X) : Bool := deepB 20 x
theorem tree_MayExpr (x : X) : SpecP Tryz.prog 72 [.agg x.cells] (fun r => r = .bool (mayX x)) := by
 refine SpecP.body I_tree_MayExpr tabOK Tryz.func72 rfl Tryz.call72 (by show 1 ≤ _; decide) ?_
 conv => whnf
 repeat' (refine CallK.pure (tree_deep 20 (by omega) _) (by repeat' (first | exact ArgP.nil | refine ArgP.cons ?_ ?_ | exact Sub.refl _ | exact Sub.tt rfl | exact Sub.ff rfl | exact Sub.int (by omega))) ?_; rintro _ rfl; conv => whnf)
 exact RetK.p rfl
def noneB (x : X) : Bool := decide (x.op = 0) && decide (x.n = 0) && (x.name == []) && ((x.kids.length : Int) == 0)
theorem tree_none (x : X) : SpecP Tryz.prog 312 [.agg x.cells] (fun r => r = .bool (noneB x)) := by
 refine SpecP.body I_tree_none tabOK Tryz.func312 rfl Tryz.call312 (by show 1 ≤ _; decide) ?_
 conv => whnf
 repeat' (first | (intro (_ : _ ≤ 9223372036854775807); conv => whnf) | (refine Br.dec (fun _ => ?_) (fun _ => ?_) <;> first | (exfalso; omega) | conv => whnf) | (refine Br.b (fun _ => ?_) (fun _ => ?_) <;> conv => whnf))
 all_goals have hk : ((X.avs x.kids).length : Int) = x.kids.length := by rw [X.avs_len]
 all_goals first
  | exact RetK.ff (by simp_all [noneB])
  | exact RetK.bool (by simp_all [noneB])
def namedB (s : Str) (is : Bool) : Bool := bif is then isName s else s == []
theorem tree_named (s : Str) (is : Bool) : SpecP Tryz.prog 292 [.str s, .bool is] (fun r => r = .bool (namedB s is)) := by
 refine SpecP.body I_tree_named tabOK Tryz.func292 rfl Tryz.call292 (by show 2 ≤ _; decide) ?_
 conv => whnf
 repeat' (first | (refine CallK.pure (lex_Name _) (by repeat' (first | exact ArgP.nil | refine ArgP.cons ?_ ?_ | exact Sub.refl _ | exact Sub.tt rfl | exact Sub.ff rfl)) ?_; rintro _ rfl; conv => whnf) | (refine Br.n (fun _ => ?_) (fun _ => ?_) <;> conv => whnf) | (refine Br.b (fun _ => ?_) (fun _ => ?_) <;> conv => whnf))
 all_goals first
  | exact RetK.tt (by simp_all [namedB])
  | exact RetK.ff (by simp_all [namedB])
  | exact RetK.bool (by simp_all [namedB])
def worthB (x : X) (is : Bool) : Bool := bif is then mayX x else noneB x
theorem tree_worth (x : X) (is : Bool) : SpecP Tryz.prog 293 [.agg x.cells, .bool is] (fun r => r = .bool (worthB x is)) := by
 refine SpecP.body I_tree_worth tabOK Tryz.func293 rfl Tryz.call293 (by show 2 ≤ _; decide) ?_
 conv => whnf
 repeat' (first | ((first | (refine CallK.pure (tree_MayExpr _) (by repeat' (first | exact ArgP.nil | refine ArgP.cons ?_ ?_ | exact Sub.refl _ | exact Sub.tt rfl | exact Sub.ff rfl)) ?_; rintro _ rfl) | (refine CallK.pure (tree_none _) (by repeat' (first | exact ArgP.nil | refine ArgP.cons ?_ ?_ | exact Sub.refl _ | exact Sub.tt rfl | exact Sub.ff rfl)) ?_; rintro _ rfl)); conv => whnf) | (refine Br.n (fun _ => ?_) (fun _ => ?_) <;> conv => whnf) | (refine Br.b (fun _ => ?_) (fun _ => ?_) <;> conv => whnf))
 all_goals first
  | exact RetK.tt (by simp_all [worthB])
  | exact RetK.ff (by simp_all [worthB])
  | exact RetK.bool (by simp_all [worthB])
def handB (a : Arg) : Bool := namedB a.name a.ref && worthB a.x (!a.ref)
theorem tree_handed (l : List Arg) : SpecP Tryz.prog 294 [eArgs l] (fun r => r = .bool (l.all handB)) := by
 refine SpecP.body I_tree_handed tabOK Tryz.func294 rfl Tryz.call294 (by show 1 ≤ _; decide) ?_
 conv => whnf
 intro (_ : _ ≤ 9223372036854775807)
 conv => whnf
 refine LoopK.inv tabOK (fun j : Nat => ⟨[(5, .p (eArgs l)), (6, .p (.int .i64 (l.map fun a => AV.agg a.cells).length)), (7, .p (.int .i64 j))], []⟩) (fun j => j ≤ l.length ∧ (l.drop j).all handB = l.all handB) (fun j => l.length - j) 0 (Le.of_eq rfl) ⟨Nat.zero_le _, rfl⟩ ?_
 rintro j ⟨h2, h3⟩
 have hl : (l.map fun a => AV.agg a.cells).length = l.length := List.length_map _
 conv => whnf
 repeat' (first | ((first | (refine CallK.pure (tree_named _ _) (by repeat' (first | exact ArgP.nil | refine ArgP.cons ?_ ?_ | exact Sub.refl _ | exact Sub.tt rfl | exact Sub.ff rfl)) ?_; rintro _ rfl) | (refine CallK.pure (tree_worth _ _) (by repeat' (first | exact ArgP.nil | refine ArgP.cons ?_ ?_ | exact Sub.refl _ | exact Sub.tt rfl | exact Sub.ff rfl)) ?_; rintro _ rfl) | (refine And.intro rfl ?_) | (refine IdxK.map (by omega) (fun _ => rfl) ?_) | (refine Wr.i64 (by omega) (by omega) ?_)); conv => whnf) | (refine Br.dec (fun _ => ?_) (fun _ => ?_) <;> first | (exfalso; omega) | conv => whnf) | (refine Br.n (fun _ => ?_) (fun _ => ?_) <;> conv => whnf))
 ·exact ⟨j + 1, ⟨by omega, by rw [all_yes (by omega) (by simp_all [handB])]; exact h3⟩, by omega, Le.of_eq rfl⟩
 ·exact RetK.ff (by rw [← h3, all_no (by omega) (by simp_all [handB])])
 ·exact RetK.ff (by rw [← h3, all_no (by omega) (by simp_all [handB])])
 ·exact RetK.tt (by rw [← h3, all_end (by omega)])
open Go.Proofs
structure Flds where
 name : Bool
 proc : Bool
 x : Bool
 has : Bool
 thn : Bool
 els : Bool
def fldsOf (k : Int) (has : Bool) (noName : Bool) : Option Flds :=
 if k = 1 then some ⟨true, false, true, has, false, false⟩
 else if k = 2 then some ⟨true, false, false, has, false, false⟩
 else if k = 10 then some ⟨true, false, false, has, false, false⟩
 else if k = 3 then some ⟨false, false, true, has, false, false⟩
 else if k = 4 then some ⟨!noName, true, false, has, false, false⟩
 else if k = 5 then some ⟨false, false, true, has, true, true⟩
 else if k = 6 then some ⟨false, false, true, has, true, false⟩
 else if k = 9 then some ⟨false, false, has, false, false, false⟩
 else if k = 7 then some ⟨false, false, false, has, false, false⟩
 else if k = 8 then some ⟨false, false, false, has, false, false⟩
 else none
def fieldsB (s : S) : Bool :=
 match fldsOf s.kind s.has (s.name == []) with
 | none => false
 | some f => !(f.has || (!f.thn && decide (0 < s.thn.length)) || (!f.els && decide (0 < s.els.length)) || (!decide (s.kind = 4) && decide (0 < s.args.length))) && namedB s.name f.name && namedB s.proc f.proc && worthB s.x f.x && s.args.all handB
theorem fieldsB_of {s : S} {f : Flds} (h : fldsOf s.kind s.has (s.name == []) = some f) : fieldsB s = (!(f.has || (!f.thn && decide (0 < s.thn.length)) || (!f.els && decide (0 < s.els.length)) || (!decide (s.kind = 4) && decide (0 < s.args.length))) && namedB s.name f.name && namedB s.proc f.proc && worthB s.x f.x && s.args.all handB) := by
 unfold fieldsB
 rw [h]
theorem tree_fields (s : S) : SpecP Tryz.prog 258 [.agg s.cells] (fun r => r = .bool (fieldsB s)) := by
 refine SpecP.body I_tree_fields tabOK Tryz.func258 rfl Tryz.call258 (by show 1 ≤ _; decide) ?_
 conv => whnf
 repeat' (first | ((first | (intro (_ : _ ≤ 9223372036854775807)) | (refine CallK.pure (tree_named _ _) (by repeat' (first | exact ArgP.nil | refine ArgP.cons ?_ ?_ | exact Sub.refl _ | exact Sub.tt rfl | exact Sub.ff rfl)) ?_; rintro _ rfl) | (refine CallK.pure (tree_worth _ _) (by repeat' (first | exact ArgP.nil | refine ArgP.cons ?_ ?_ | exact Sub.refl _ | exact Sub.tt rfl | exact Sub.ff rfl)) ?_; rintro _ rfl) | (refine CallK.pure (tree_handed _) (by repeat' (first | exact ArgP.nil | refine ArgP.cons ?_ ?_ | exact Sub.refl _ | exact Sub.tt rfl | exact Sub.ff rfl)) ?_; rintro _ rfl) | (refine DrawK.auto tabOK mixed (by kernel_rfl) ?_)); conv => whnf) | (refine Br.dec (fun _ => ?_) (fun _ => ?_) <;> first | (exfalso; omega) | conv => whnf) | (refine Br.dec2 (fun _ => ?_) (fun _ => ?_) <;> first | (exfalso; omega) | conv => whnf) | (refine Br.n (fun _ => ?_) (fun _ => ?_) <;> conv => whnf) | (refine Br.b (fun _ => ?_) (fun _ => ?_) <;> conv => whnf))
 all_goals first
  | exact RetK.ff (by simp_all [fieldsB, fldsOf, S.avs_len])
  | exact RetK.bool (by simp_all [fieldsB, fldsOf, S.avs_len])
  | exact RetK.ff (by simp_all [fieldsB, fldsOf, S.avs_len]; omega)
open Go.Proofs
mutual
def rowS (nest seen : Int) : S → Option Int
 | .mk id kind labels name proc x has args thn els =>
   if seen + 1 > 200 then none else if id ≠ seen + 1 then none else
   bif namesB labels then bif fieldsB (.mk id kind labels name proc x has args thn els) then
    match rowL (nest + 1) (seen + 1) thn with
    | some m => rowL (nest + 1) m els
    | none => none
   else none else none
def rowL (nest seen : Int) : List S → Option Int
 | [] => some seen
 | s :: r => if nest > 12 then none else match rowS nest seen s with
   | some m => rowL nest m r
   | none => none
end
theorem rowS_eq (nest seen : Int) (s : S) : rowS nest seen s = if seen + 1 > 200 then none else if s.id ≠ seen + 1 then none else
  bif namesB s.labels then bif fieldsB s then
   match rowL (nest + 1) (seen + 1) s.thn with
   | some m => rowL (nest + 1) m s.els
   | none => none
  else none else none := by
 cases s
 rw [rowS]
 rfl
mutual
theorem rowS_le (nest seen : Int) : ∀ (s : S) {m : Int}, rowS nest seen s = some m → seen < m ∧ m ≤ 200
 | .mk id kind labels name proc x has args thn els, m, h => by
   simp only [rowS] at h
   split at h
   ·cases h
   split at h
   ·cases h
   cases hn : namesB labels <;> rw [hn] at h
   ·cases h
   cases hf : fieldsB (.mk id kind labels name proc x has args thn els) <;> rw [hf] at h
   ·cases h
   simp only [cond_true] at h
   split at h
   ·rename_i m1 h1
    have h2 := rowL_le (nest + 1) (seen + 1) thn (by omega) h1
    have h3 := rowL_le (nest + 1) m1 els h2.2 h
    omega
   ·cases h
theorem rowL_le (nest seen : Int) : ∀ (l : List S) {m : Int}, seen ≤ 200 → rowL nest seen l = some m → seen ≤ m ∧ m ≤ 200
 | [], m, h0, h => by
   simp only [rowL] at h
   cases h
   omega
 | s :: r, m, h0, h => by
   simp only [rowL] at h
   split at h
   ·cases h
   split at h
   ·rename_i m1 h1
    have h2 := rowS_le nest seen s h1
    have h3 := rowL_le nest m1 r h2.2 h
    omega
   ·cases h
end
def rowsR (T : Nat) (nest seen : Int) (l : List S) (r : LV) (H : Heap) : Prop :=
 match rowL nest seen l with
 | some m => r = .p .tt ∧ H = [(1000, .obj T [.p (.int .i64 m)])]
 | none => r = .p .ff ∧ ∃ m, H = [(1000, .obj T [.p (.int .i64 m)])]
theorem rowsR_some {T : Nat} {nest seen m : Int} {l : List S} (h : rowL nest seen l = some m) : RetHK [(1000, .obj T [.p (.int .i64 m)])] (.p .tt) (rowsR T nest seen l) :=
 ⟨.p .tt, .refl _, by unfold rowsR; rw [h]; exact ⟨rfl, rfl⟩⟩
theorem rowsR_none {T : Nat} {nest seen m : Int} {l : List S} (h : rowL nest seen l = none) : RetHK [(1000, .obj T [.p (.int .i64 m)])] (.p .ff) (rowsR T nest seen l) :=
 ⟨.p .ff, .refl _, by unfold rowsR; rw [h]; exact ⟨rfl, _, rfl⟩⟩
theorem rowsR_cases {T : Nat} {nest seen : Int} {l : List S} {Q : LV → Heap → Prop} (hs : seen ≤ 200) (h1 : ∀ m, rowL nest seen l = some m → seen ≤ m → m ≤ 200 → Q (.p .tt) [(1000, .obj T [.p (.int .i64 m)])])
  (h2 : rowL nest seen l = none → ∀ m, Q (.p .ff) [(1000, .obj T [.p (.int .i64 m)])]) : ∀ l' H', rowsR T nest seen l l' H' → Q l' H' := by
 intro l' H' h
 unfold rowsR at h
 cases hr : rowL nest seen l with
 | some m =>
   rw [hr] at h
   obtain ⟨rfl, rfl⟩ := h
   have := rowL_le nest seen l hs hr
   exact h1 m hr this.1 this.2
 | none =>
   rw [hr] at h
   obtain ⟨rfl, m, rfl⟩ := h
   exact h2 hr m
theorem rowL_deep {nest seen : Int} {l : List S} (h : nest > 12) (hl : 0 < l.length) : rowL nest seen l = none := by
 cases l with
 | nil => cases hl
 | cons s r => simp only [rowL]; rw [if_pos h]
theorem rowL_step {nest seen : Int} {l : List S} {j : Nat} (h : ¬ nest > 12) (hj : j < l.length) : rowL nest seen (l.drop j) = match rowS nest seen l[j] with
  | some m => rowL nest m (l.drop (j + 1))
  | none => none := by
 rw [drop_cons hj, rowL, if_neg h]
theorem tree_rows : ∀ (d n : Nat) (_ : n + d = 14) (l : List S) (seen : Int) (_ : 0 ≤ seen) (_ : seen ≤ 200),
  SpecH Tryz.prog 189 [.ptr 1000 0, .p (eSs l), .p (.int .i64 n)] [(1000, .obj 196 [.p (.int .i64 seen)])] (rowsR 196 n seen l) := by
 intro d
 induction d with
 | zero =>
   intro n hn l seen h0 h1
   refine SpecH.body I_tree_looker_rows tabOK Tryz.func189 rfl Tryz.call189 (by show 3 ≤ _; decide) ?_
   conv => whnf
   repeat' (first | (intro (_ : _ ≤ 9223372036854775807); conv => whnf) | (refine Br.dec (fun _ => ?_) (fun _ => ?_) <;> first | (exfalso; omega) | conv => whnf))
   ·exact rowsR_none (rowL_deep (by omega) (by rw [S.avs_len] at *; omega))
   ·have hl := S.avs_len l
    obtain rfl : l = [] := List.eq_nil_of_length_eq_zero (by omega)
    refine LoopK.inv tabOK (fun _ : Unit => ⟨[(0, .ptr 1000 0), (2, .p (.int .i64 n)), (16, .p (eSs [])), (17, .p (.int .i64 (S.avs []).length)), (18, .p (.int .i64 0))], [(1000, .obj 196 [.p (.int .i64 seen)])]⟩) (fun _ => True) (fun _ => 0) () (Le.of_eq rfl) trivial ?_
    intro _ _
    conv => whnf
    repeat' (refine Br.dec (fun _ => ?_) (fun _ => ?_) <;> first | (exfalso; omega) | conv => whnf)
    exact rowsR_some rfl
 | succ d ih =>
   intro n hn l seen h0 h1
   refine SpecH.body I_tree_looker_rows tabOK Tryz.func189 rfl Tryz.call189 (by show 3 ≤ _; decide) ?_
   have hl := S.avs_len l
   conv => whnf
   repeat' (first | (intro (_ : _ ≤ 9223372036854775807); conv => whnf) | (refine Br.dec (fun _ => ?_) (fun _ => ?_) <;> first | (exfalso; omega) | conv => whnf))
   ·exact rowsR_none (rowL_deep (by omega) (by omega))
   all_goals
    refine LoopK.inv tabOK (fun i : Nat × Int => ⟨[(0, .ptr 1000 0), (2, .p (.int .i64 n)), (16, .p (eSs l)), (17, .p (.int .i64 (S.avs l).length)), (18, .p (.int .i64 i.1))], [(1000, .obj 196 [.p (.int .i64 i.2)])]⟩) (fun i => i.1 ≤ l.length ∧ 0 ≤ i.2 ∧ i.2 ≤ 200 ∧ rowL n i.2 (l.drop i.1) = rowL n seen l) (fun i => l.length - i.1) (0, seen) (Le.of_eq rfl) ⟨Nat.zero_le _, h0, h1, rfl⟩ ?_
    rintro ⟨j, m⟩ ⟨h2, h3, h4, h5⟩
    simp only at h2 h3 h4 h5 ⊢
    conv => whnf
    repeat' (first | ((first | (refine CallK.pure (tree_names _) (by repeat' (first | exact ArgP.nil | refine ArgP.cons ?_ ?_ | exact Sub.refl _ | exact Sub.tt rfl | exact Sub.ff rfl)) ?_; rintro _ rfl) | (refine CallK.pure (tree_fields _) (by repeat' (first | exact ArgP.nil | refine ArgP.cons ?_ ?_ | exact Sub.refl _ | exact Sub.tt rfl | exact Sub.ff rfl)) ?_; rintro _ rfl) | (refine DrawK.auto tabOK mixed (by kernel_rfl) ?_) | (refine And.intro rfl ?_) | (refine IdxK.ss (by omega) ?_) | (refine Wr.i64 (by omega) (by omega) ?_)); conv => whnf) | (refine Br.dec (fun _ => ?_) (fun _ => ?_) <;> first | (exfalso; omega) | conv => whnf) | (refine Br.dec2 (fun _ => ?_) (fun _ => ?_) <;> first | (exfalso; omega) | conv => whnf) | (refine Br.n (fun _ => ?_) (fun _ => ?_) <;> conv => whnf) | (refine CallK.heap [(1000, 1000)] 0 (by repeat' (first | exact ArgsH.nil | refine ArgsH.cons ?_ ?_ | exact LSub.refl _ | exact LSub.p Sub.nils | exact LSub.p (Sub.tt rfl) | exact LSub.p (Sub.ff rfl) | exact LSub.p (Sub.int (by omega)))) (by refine BlksH.cons (j := 1000) rfl rfl ?_ ?_; exact CSub.refl _; exact BlksH.nil) (ih (n+1) (by omega) _ _ (by omega) (by omega)) rfl rfl (rowsR_cases (by omega) (fun _ _ _ _ => ?_) (fun _ _ => ?_)) <;> conv => whnf))
    all_goals try (have hst := rowL_step (seen := m) (l := l) (j := j) (nest := (n : Int)) (by omega) (by omega); rw [rowS_eq, show (n : Int) + 1 = ((n + 1 : Nat) : Int) from rfl] at hst)
    all_goals first
     | exact rowsR_some (by rw [← h5, List.drop_eq_nil_of_le (by omega)]; simp only [rowL])
     | exact rowsR_none (by rw [← h5, hst]; clear h5 hst; first | rw [if_pos (by omega : m + 1 > 200)] | (rw [if_neg (by omega : ¬ m + 1 > 200)]; simp [*, -Int.natCast_add]))
     | exact ⟨(j + 1, _), ⟨by simp only; omega, by simp only; omega, by simp only; omega, by rw [← h5, hst]; clear h5 hst; first | rw [if_pos (by omega : m + 1 > 200)] | (rw [if_neg (by omega : ¬ m + 1 > 200)]; simp [*, -Int.natCast_add])⟩, by simp only; omega, Le.of_eq rfl⟩
     | trace_state
open Go.Proofs
def mayPr (f : Pr) : Bool := decide (f.params.length ≤ 8) && decide (f.vars.length ≤ 16) && isName f.name && namesB f.vars && namesB f.fin && f.params.all fun a => isName a.name
def mayPrs (seen : Int) : List Pr → Option Int
 | [] => some seen
 | f :: r => bif mayPr f then match rowL 1 seen f.body with
    | some m => mayPrs m r
    | none => none
   else none
def mayB (p : Pg) : Bool := decide (p.globals.length ≤ 16) && decide (p.procs.length ≤ 16) && namesB p.globals && (mayPrs 0 p.procs).isSome
theorem mayPrs_step {seen : Int} {l : List Pr} {j : Nat} (hj : j < l.length) : mayPrs seen (l.drop j) = bif mayPr l[j] then match rowL 1 seen l[j].body with
   | some m => mayPrs m (l.drop (j + 1))
   | none => none
  else none := by
 rw [drop_cons hj, mayPrs]
theorem mayPr_iff {f : Pr} : mayPr f = true ↔ f.params.length ≤ 8 ∧ f.vars.length ≤ 16 ∧ isName f.name = true ∧ namesB f.vars = true ∧ namesB f.fin = true ∧ (f.params.all fun a => isName a.name) = true := by
 simp only [mayPr, Bool.and_eq_true, decide_eq_true_eq, and_assoc]
theorem mayPrs_no {seen : Int} {l : List Pr} {j : Nat} (hj : j < l.length) (h : ¬ (l[j].params.length ≤ 8 ∧ l[j].vars.length ≤ 16 ∧ isName l[j].name = true ∧ namesB l[j].vars = true ∧ namesB l[j].fin = true ∧ (l[j].params.all fun a => isName a.name) = true)) : (mayPrs seen (l.drop j)).isSome = false := by
 rw [mayPrs_step hj]
 have : mayPr l[j] = false := by rw [Bool.eq_false_iff]; intro hm; exact h (mayPr_iff.1 hm)
 rw [this]
 rfl
theorem tree_May (p : Pg) : SpecP Tryz.prog 136 [.agg p.cells] (fun r => r = .bool (mayB p)) := by
 refine SpecP.body I_tree_May tabOK Tryz.func136 rfl Tryz.call136 (by show 1 ≤ _; decide) ?_
 conv => whnf
 repeat' (first | ((first | (intro (_ : _ ≤ 9223372036854775807)) | (refine CallK.pure (tree_names _) (by repeat' (first | exact ArgP.nil | refine ArgP.cons ?_ ?_ | exact Sub.refl _ | exact Sub.tt rfl | exact Sub.ff rfl)) ?_; rintro _ rfl) | (refine And.intro rfl ?_)); conv => whnf) | (refine Br.dec (fun _ => ?_) (fun _ => ?_) <;> first | (exfalso; omega) | conv => whnf) | (refine Br.n (fun _ => ?_) (fun _ => ?_) <;> conv => whnf))
 all_goals try have hl1 : (p.globals.map AV.str).length = p.globals.length := List.length_map _
 all_goals try have hl2 : (p.procs.map fun f => AV.agg f.cells).length = p.procs.length := List.length_map _
 ·exact RetK.ff (by unfold mayB; simp; omega)
 ·exact RetK.ff (by unfold mayB; simp; omega)
 ·have h0 : mayB p = (mayPrs 0 p.procs).isSome := by unfold mayB; simp [*]; omega
  rw [h0]
  refine LoopK.inv tabOK (fun i : Nat × Int => ⟨[(3, .ptr 0 0), (27, .p (.sl (p.procs.map fun f => AV.agg f.cells))), (28, .p (.int .i64 (p.procs.map fun f => AV.agg f.cells).length)), (29, .p (.int .i64 i.1))], [(0, .obj 196 [.p (.int .i64 i.2)])]⟩) (fun i => i.1 ≤ p.procs.length ∧ 0 ≤ i.2 ∧ i.2 ≤ 200 ∧ mayPrs i.2 (p.procs.drop i.1) = mayPrs 0 p.procs) (fun i => p.procs.length - i.1) (0, 0) (Le.of_eq rfl) ⟨Nat.zero_le _, by decide, by decide, rfl⟩ ?_
  rintro ⟨j, m⟩ ⟨h2, h3, h4, h5⟩
  simp only at h2 h3 h4 h5 ⊢
  conv => whnf
  repeat' (first | ((first | (intro (_ : _ ≤ 9223372036854775807)) | (refine CallK.pure (tree_names _) (by repeat' (first | exact ArgP.nil | refine ArgP.cons ?_ ?_ | exact Sub.refl _ | exact Sub.tt rfl | exact Sub.ff rfl)) ?_; rintro _ rfl) | (refine CallK.pure (lex_Name _) (by repeat' (first | exact ArgP.nil | refine ArgP.cons ?_ ?_ | exact Sub.refl _ | exact Sub.tt rfl | exact Sub.ff rfl)) ?_; rintro _ rfl) | (refine And.intro rfl ?_) | (refine IdxK.map (by omega) (fun _ => rfl) ?_)); conv => whnf) | (refine Br.dec (fun _ => ?_) (fun _ => ?_) <;> first | (exfalso; omega) | conv => whnf) | (refine Br.n (fun _ => ?_) (fun _ => ?_) <;> conv => whnf))
  all_goals try have hl3 : ((p.procs[j]'(by omega)).params.map fun a => AV.agg a.cells).length = (p.procs[j]'(by omega)).params.length := List.length_map _
  all_goals try have hl4 : ((p.procs[j]'(by omega)).vars.map AV.str).length = (p.procs[j]'(by omega)).vars.length := List.length_map _
  rotate_left 2
  ·have hj : j < p.procs.length := by omega
   refine LoopK.inv tabOK (fun i : Nat => ⟨[(3, .ptr 0 0), (5, .p (.ip p.procs[j].cells)), (27, .p (.sl (p.procs.map fun f => AV.agg f.cells))), (28, .p (.int .i64 (p.procs.map fun f => AV.agg f.cells).length)), (29, .p (.int .i64 j)), (62, .p (.sl (p.procs[j].params.map fun a => AV.agg a.cells))), (63, .p (.int .i64 (p.procs[j].params.map fun a => AV.agg a.cells).length)), (64, .p (.int .i64 i))], [(0, .obj 196 [.p (.int .i64 m)])]⟩) (fun i => i ≤ p.procs[j].params.length ∧ ((p.procs[j].params.drop i).all fun a => isName a.name) = p.procs[j].params.all fun a => isName a.name) (fun i => p.procs[j].params.length - i) 0 (Le.of_eq rfl) ⟨Nat.zero_le _, rfl⟩ ?_
   rintro i ⟨h6, h7⟩
   conv => whnf
   repeat' (first | ((first | (refine CallK.pure (lex_Name _) (by repeat' (first | exact ArgP.nil | refine ArgP.cons ?_ ?_ | exact Sub.refl _ | exact Sub.tt rfl | exact Sub.ff rfl)) ?_; rintro _ rfl) | (refine And.intro rfl ?_) | (refine IdxK.map (by omega) (fun _ => rfl) ?_) | (refine Wr.i64 (by omega) (by omega) ?_)); conv => whnf) | (refine Br.dec (fun _ => ?_) (fun _ => ?_) <;> first | (exfalso; omega) | conv => whnf) | (refine Br.n (fun _ => ?_) (fun _ => ?_) <;> conv => whnf) | (refine CallK.heap [(1000, 0)] 0 (by repeat' (first | exact ArgsH.nil | refine ArgsH.cons ?_ ?_ | exact LSub.refl _ | exact LSub.p Sub.nils | exact LSub.p (Sub.tt rfl) | exact LSub.p (Sub.ff rfl) | exact LSub.p (Sub.int (by omega)))) (by refine BlksH.cons (j := 0) rfl rfl ?_ ?_; exact CSub.refl _; exact BlksH.nil) (tree_rows 13 1 rfl _ _ (by omega) (by omega)) rfl rfl (rowsR_cases (by omega) (fun _ _ _ _ => ?_) (fun _ _ => ?_)) <;> conv => whnf))
   ·exact ⟨i + 1, ⟨by omega, by rw [← h7, all_yes (p := fun a : Param => isName a.name) (by omega) (by assumption)]⟩, by omega, Le.of_eq rfl⟩
   ·exact RetK.ff (by
     rw [← h5]
     refine mayPrs_no hj fun h => ?_
     have := all_no (p := fun a : Param => isName a.name) (l := p.procs[j].params) (j := i) (by omega) (by assumption)
     rw [h7, h.2.2.2.2.2] at this
     cases this)
   all_goals
    have hall : (p.procs[j].params.all fun a => isName a.name) = true := by rw [← h7, all_end (by omega)]
    have hp : mayPr p.procs[j] = true := mayPr_iff.2 ⟨by omega, by omega, by assumption, by assumption, by assumption, hall⟩
    have hst := mayPrs_step (seen := m) hj
    rw [hp, cond_true] at hst
   ·rename_i m2 hrow _ _
    replace hrow : rowL 1 m p.procs[j].body = some m2 := hrow
    rw [hrow] at hst
    exact ⟨(j + 1, m2), ⟨by simp only; omega, by simp only; omega, by simp only; omega, by rw [← h5, hst]⟩, by simp only; omega, Le.of_eq rfl⟩
   ·rename_i hrow _
    replace hrow : rowL 1 m p.procs[j].body = none := hrow
    rw [hrow] at hst
    exact RetK.ff (by rw [← h5, hst]; rfl)
  all_goals first
   | exact RetK.tt (by rw [← h5, List.drop_eq_nil_of_le (by omega)]; rfl)
   | exact RetK.ff (by rw [← h5]; exact mayPrs_no (by omega) fun h => by omega)
   | exact RetK.ff (by rw [← h5]; exact mayPrs_no (by omega) fun h => by simp_all)
 ·exact RetK.ff (by unfold mayB; simp [*])
open Go.Proofs
theorem slices_Index_string_string_ (l : List Str) (v : Str) : SpecP Tryz.prog 148 [eStrs l, .str v] (fun r => r = .int .i64 (idxF (fun s => v == s) l)) := by
 refine SpecP.body I_slices_Index_string_string_ tabOK Tryz.func148 rfl Tryz.call148 (by show 2 ≤ _; decide) ?_
 conv => whnf
 intro (_ : _ ≤ 9223372036854775807)
 have hl : (l.map AV.str).length = l.length := List.length_map _
 conv => whnf
 refine LoopK.inv tabOK (fun j : Nat => ⟨[(0, .p (eStrs l)), (1, .p (.str v)), (7, .p (.int .i64 (l.map AV.str).length)), (8, .p (.int .i64 j))], []⟩) (fun j => j ≤ l.length ∧ (l.drop j).any (fun s => v == s) = l.any (fun s => v == s) ∧ l.findIdx (fun s => v == s) = j + (l.drop j).findIdx (fun s => v == s)) (fun j => l.length - j) 0 (Le.of_eq rfl) ⟨Nat.zero_le _, rfl, by simp⟩ ?_
 rintro j ⟨h2, h3, h4⟩
 conv => whnf
 repeat' (first | ((first | (refine IdxK.map (by omega) (fun _ => rfl) ?_) | (refine Wr.i64 (by omega) (by omega) ?_)); conv => whnf) | (refine Br.dec (fun _ => ?_) (fun _ => ?_) <;> first | (exfalso; omega) | conv => whnf) | (refine Br.b (fun _ => ?_) (fun _ => ?_) <;> conv => whnf))
 ·exact RetK.int (idxF_yes (p := fun s => v == s) (by omega) (by assumption) h3 h4).symm
 ·exact ⟨j + 1, ⟨by omega, by rw [← h3, any_no (p := fun s => v == s) (by omega) (by assumption)], by rw [h4, fi_no (p := fun s => v == s) (by omega) (by assumption)]; omega⟩, by omega, Le.of_eq rfl⟩
 ·exact RetK.int (by rw [idxF_no]; rw [← h3, any_end (by omega)])
theorem slices_Contains_string_string_ (l : List Str) (v : Str) : SpecP Tryz.prog 93 [eStrs l, .str v] (fun r => r = .bool (l.any fun s => v == s)) := by
 refine SpecP.body I_slices_Contains_string_string_ tabOK Tryz.func93 rfl Tryz.call93 (by show 2 ≤ _; decide) ?_
 conv => whnf
 repeat' (refine CallK.pure (slices_Index_string_string_ _ _) (by repeat' (first | exact ArgP.nil | refine ArgP.cons ?_ ?_ | exact Sub.refl _ | exact Sub.tt rfl | exact Sub.ff rfl)) ?_; rintro _ rfl; conv => whnf)
 exact RetK.bool idxF_ge
def twiceB (l : List Str) : Bool := (List.range l.length).any fun i => (l.take i).any fun s => l[i]?.getD [] == s
theorem scope_twice (l : List Str) : SpecP Tryz.prog 190 [eStrs l] (fun r => r = .bool (twiceB l)) := by
 refine SpecP.body I_scope_twice tabOK Tryz.func190 rfl Tryz.call190 (by show 1 ≤ _; decide) ?_
 conv => whnf
 intro (_ : _ ≤ 9223372036854775807)
 have hl : (l.map AV.str).length = l.length := List.length_map _
 conv => whnf
 refine LoopK.inv tabOK (fun j : Nat => ⟨[(0, .p (eStrs l)), (5, .p (eStrs l)), (6, .p (.int .i64 (l.map AV.str).length)), (7, .p (.int .i64 j))], []⟩) (fun j => j ≤ l.length ∧ ((List.range l.length).drop j).any (fun i => (l.take i).any fun s => l[i]?.getD [] == s) = twiceB l) (fun j => l.length - j) 0 (Le.of_eq rfl) ⟨Nat.zero_le _, rfl⟩ ?_
 rintro j ⟨h2, h3⟩
 conv => whnf
 repeat' (first | ((first | (refine IdxK.map (by omega) (fun _ => rfl) ?_) | (refine Wr.i64 (by omega) (by omega) ?_) | (refine And.intro (fun e he => by obtain ⟨x, _, rfl⟩ := List.mem_map.1 he; rfl) (SlK.mk 0 j rfl rfl (by omega) (by omega) ?_)) | (refine CallK.pure (slices_Contains_string_string_ (l.take j) (l[j]'(by omega))) (.cons (Sub.of_eq (by simp [eStrs, List.map_take])) (.cons (Sub.refl _) .nil)) ?_; rintro _ rfl)); conv => whnf) | (refine Br.dec (fun _ => ?_) (fun _ => ?_) <;> first | (exfalso; omega) | conv => whnf) | (refine Br.b (fun _ => ?_) (fun _ => ?_) <;> conv => whnf))
 all_goals try have hr : (List.range l.length)[j]'(by simp; omega) = j := by simp
 all_goals try have e : l[j]?.getD [] = l[j]'(by omega) := by rw [List.getElem?_eq_getElem (by omega)]; rfl
 ·exact RetK.tt (by rw [← h3, any_yes (p := fun i => (l.take i).any fun s => l[i]?.getD [] == s) (by simp; omega) (by rw [hr, e]; assumption)])
 ·exact ⟨j + 1, ⟨by omega, by rw [← h3, any_no (p := fun i => (l.take i).any fun s => l[i]?.getD [] == s) (by simp; omega) (by rw [hr, e]; assumption)]⟩, by omega, Le.of_eq rfl⟩
 ·exact RetK.ff (by rw [← h3, any_end (by simp; omega)])
def ownL (f : Pr) : List Str := f.params.map Param.name ++ f.vars
theorem scope_own (f : Pr) (h1 : f.params.length ≤ 1000) (h2 : f.vars.length ≤ 1000) : SpecP Tryz.prog 191 [.agg f.cells] (fun r => r = eStrs (ownL f)) := by
 refine SpecP.body I_scope_own tabOK Tryz.func191 rfl Tryz.call191 (by show 1 ≤ _; decide) ?_
 conv => whnf
 intro (_ : _ ≤ 9223372036854775807)
 have hl : (f.params.map fun a => AV.agg a.cells).length = f.params.length := List.length_map _
 conv => whnf
 refine LoopK.inv tabOK (fun j : Nat => ⟨[(1, .p (.ip f.cells)), (3, .hd 0 0 j), (7, .p (.sl (f.params.map fun a => AV.agg a.cells))), (8, .p (.int .i64 (f.params.map fun a => AV.agg a.cells).length)), (9, .p (.int .i64 j))], [(0, .own 9 1 ((f.params.take j).map fun a => AV.str a.name))]⟩) (fun j => j ≤ f.params.length) (fun j => f.params.length - j) 0
  (Le.mk [(0, .own 9 1 [])] (by simp [Chunk.new0]; rfl) (by simp) (by simp) (.cons (.refl _) (.cons (.nil List.mem_cons_self) (.cons (.refl _) (.cons (.refl _) (.cons (.refl _) .nil))))) (.new List.mem_cons_self .nil)) (Nat.zero_le _) ?_
 intro j h3
 conv => whnf
 repeat' (first | ((first | (refine And.intro rfl ?_) | (refine And.intro ⟨by decide, by decide⟩ ?_) | (refine BsK.pure (fun x hx => by rcases List.mem_singleton.1 hx with rfl; rfl) rfl ?_) | (refine IdxK.map (by omega) (fun _ => rfl) ?_) | (refine Wr.i64 (by omega) (by omega) ?_) | (refine AppK.mk (by simp; omega) rfl (by show (j+1) * 16 ≤ 140737488355328; omega) (by show j+1 ≤ 9223372036854775807; omega) (fun x hx => by rcases List.mem_singleton.1 hx with rfl; exact ⟨rfl, rfl⟩) ?_) | (refine AppK.mk (by simp; omega) rfl (by rw [List.length_map]; show (j+f.vars.length) * 16 ≤ 140737488355328; omega) (by rw [List.length_map]; show j+f.vars.length ≤ 9223372036854775807; omega) (fun x hx => by obtain ⟨y, _, rfl⟩ := List.mem_map.1 hx; exact ⟨rfl, rfl⟩) ?_)); conv => whnf) | (refine Br.dec (fun _ => ?_) (fun _ => ?_) <;> first | (exfalso; omega) | conv => whnf))
 ·exact ⟨j + 1, by omega, by omega, Le.of_eq (by rw [take_map (by omega)]; rfl)⟩
 ·refine ⟨_, .hd rfl (by simp; omega), ?_⟩
  rw [List.take_of_length_le (by omega)]
  simp [eStrs, ownL]
open Go.Proofs
mutual
def cntS : S → Nat
 | .mk _ _ _ _ _ _ _ _ thn els => 1 + cntL thn + cntL els
def cntL : List S → Nat
 | [] => 0
 | s :: r => cntS s + cntL r
end
theorem cntS_eq (s : S) : cntS s = 1 + cntL s.thn + cntL s.els := by
 cases s
 rw [cntS]
 rfl
theorem cntL_step {l : List S} {j : Nat} (hj : j < l.length) : cntL (l.drop j) = cntS l[j] + cntL (l.drop (j + 1)) := by
 rw [drop_cons hj, cntL]
theorem cntL_end {l : List S} {j : Nat} (hj : l.length ≤ j) : cntL (l.drop j) = 0 := by
 rw [List.drop_eq_nil_of_le hj, cntL]
theorem flat_size : ∀ (n : Nat) (_ : n ≤ 100000) (s : S) (_ : cntS s ≤ n), SpecP Tryz.prog 201 [.agg s.cells] (fun r => r = .int .i64 (cntS s)) := by
 intro n
 induction n with
 | zero => intro _ s h; rw [cntS_eq] at h; omega
 | succ n ih =>
   intro hn s h
   have hs := cntS_eq s
   have hl1 := S.avs_len s.thn
   have hl2 := S.avs_len s.els
   refine SpecP.body I_flat_size tabOK Tryz.func201 rfl Tryz.call201 (by show 1 ≤ _; decide) ?_
   conv => whnf
   repeat' (intro (_ : _ ≤ 9223372036854775807); conv => whnf)
   refine LoopK.inv tabOK (fun i : Nat × Nat => ⟨[(1, .p (.ip s.cells)), (3, .p (.int .i64 i.2)), (9, .p (eSs s.thn)), (10, .p (.int .i64 (S.avs s.thn).length)), (11, .p (.int .i64 i.1))], []⟩) (fun i => i.1 ≤ s.thn.length ∧ 1 ≤ i.2 ∧ i.2 + cntL (s.thn.drop i.1) = 1 + cntL s.thn) (fun i => s.thn.length - i.1) (0, 1) (Le.of_eq rfl) ⟨Nat.zero_le _, Nat.le_refl _, rfl⟩ ?_
   rintro ⟨j, a⟩ ⟨h2, h4, h3⟩
   simp only at h2 h3 h4 ⊢
   have hst : ∀ hj : j < s.thn.length, cntL (s.thn.drop j) = cntS s.thn[j] + cntL (s.thn.drop (j + 1)) := fun hj => cntL_step hj
   conv => whnf
   repeat' (first | ((first | (intro (_ : _ ≤ 9223372036854775807)) | (refine And.intro rfl ?_) | (refine IdxK.ss (by omega) ?_) | (refine Wr.i64 (by omega) (by omega) ?_) | (refine CallK.pure (ih (by omega) (s.thn[j]'(by omega)) (by have := hst (by omega); omega)) (.cons (Sub.refl _) .nil) ?_; rintro _ rfl; have hst := hst (by omega))); conv => whnf) | (refine Br.dec (fun _ => ?_) (fun _ => ?_) <;> first | (exfalso; omega) | conv => whnf))
   ·exact ⟨(j + 1, a + cntS s.thn[j]), ⟨by simp only; omega, by simp only; omega, by simp only; omega⟩, by simp only; omega, Le.of_eq rfl⟩
   ·have ha : a = 1 + cntL s.thn := by rw [cntL_end (by omega)] at h3; omega
    refine LoopK.inv tabOK (fun i : Nat × Nat => ⟨[(3, .p (.int .i64 i.2)), (21, .p (eSs s.els)), (22, .p (.int .i64 (S.avs s.els).length)), (23, .p (.int .i64 i.1))], []⟩) (fun i => i.1 ≤ s.els.length ∧ 1 ≤ i.2 ∧ i.2 + cntL (s.els.drop i.1) = cntS s) (fun i => s.els.length - i.1) (0, a) (Le.of_eq rfl) ⟨Nat.zero_le _, h4, by simp only [List.drop_zero]; omega⟩ ?_
    rintro ⟨k, b⟩ ⟨h5, h6, h7⟩
    simp only at h5 h6 h7 ⊢
    have hst2 : ∀ hk : k < s.els.length, cntL (s.els.drop k) = cntS s.els[k] + cntL (s.els.drop (k + 1)) := fun hk => cntL_step hk
    conv => whnf
    repeat' (first | ((first | (refine And.intro rfl ?_) | (refine IdxK.ss (by omega) ?_) | (refine Wr.i64 (by omega) (by omega) ?_) | (refine CallK.pure (ih (by omega) (s.els[k]'(by omega)) (by have := hst2 (by omega); omega)) (.cons (Sub.refl _) .nil) ?_; rintro _ rfl; have hst2 := hst2 (by omega))); conv => whnf) | (refine Br.dec (fun _ => ?_) (fun _ => ?_) <;> first | (exfalso; omega) | conv => whnf))
    ·exact ⟨(k + 1, b + cntS s.els[k]), ⟨by simp only; omega, by simp only; omega, by simp only; omega⟩, by simp only; omega, Le.of_eq rfl⟩
    ·exact RetK.int (by rw [cntL_end (by omega)] at h7; omega)
open Go.Proofs
structure Item where
 s : S
 proc : Int
 up : Int
 next : Int
 loop : Int
def Item.cells (i : Item) : List AV := i.s.cells ++ [.int .i64 i.proc, .int .i64 i.up, .int .i64 i.next, .int .i64 i.loop]
mutual
def rowT (proc up nx loop : Int) (acc : List Item) : S → List Item
 | .mk id kind labels name pr x has args thn els =>
   rowsF proc (acc.length + 1) (if kind = 6 then acc.length + 1 else nx) (if kind = 6 then acc.length + 1 else loop)
    (rowsF proc (acc.length + 1) (if kind = 6 then acc.length + 1 else nx) (if kind = 6 then acc.length + 1 else loop) (acc ++ [⟨.mk id kind labels name pr x has args thn els, proc, up, nx, loop⟩]) thn) els
def rowsF (proc up nx loop : Int) (acc : List Item) : List S → List Item
 | [] => acc
 | t :: r => rowsF proc up nx loop (rowT proc up (if r.isEmpty then nx else acc.length + 1 + cntS t) loop acc t) r
end
theorem rowT_eq (proc up nx loop : Int) (acc : List Item) (t : S) : rowT proc up nx loop acc t = rowsF proc (acc.length + 1) (if t.kind = 6 then acc.length + 1 else nx) (if t.kind = 6 then acc.length + 1 else loop)
   (rowsF proc (acc.length + 1) (if t.kind = 6 then acc.length + 1 else nx) (if t.kind = 6 then acc.length + 1 else loop) (acc ++ [⟨t, proc, up, nx, loop⟩]) t.thn) t.els := by
 cases t
 rw [rowT]
 rfl
mutual
theorem rowT_len (proc up nx loop : Int) (acc : List Item) : ∀ t : S, (rowT proc up nx loop acc t).length = acc.length + cntS t
 | .mk id kind labels name pr x has args thn els => by
   rw [rowT, cntS, rowsF_len _ _ _ _ _ els, rowsF_len _ _ _ _ _ thn]
   simp
   omega
theorem rowsF_len (proc up nx loop : Int) (acc : List Item) : ∀ l : List S, (rowsF proc up nx loop acc l).length = acc.length + cntL l
 | [] => by rw [rowsF, cntL]; rfl
 | t :: r => by
   rw [rowsF, cntL, rowsF_len _ _ _ _ _ r, rowT_len _ _ _ _ _ t]
   omega
end
theorem rowsF_step {proc up nx loop : Int} {acc : List Item} {l : List S} {j : Nat} (hj : j < l.length) :
  rowsF proc up nx loop acc (l.drop j) = rowsF proc up nx loop (rowT proc up (if j + 1 < l.length then acc.length + 1 + cntS l[j] else nx) loop acc l[j]) (l.drop (j + 1)) := by
 rw [drop_cons hj, rowsF]
 congr 2
 by_cases h : j + 1 < l.length
 ·rw [if_pos h, if_neg]
  simp only [List.isEmpty_iff]
  intro he
  have := congrArg List.length he
  simp at this
  omega
 ·rw [if_neg h, if_pos]
  rw [List.drop_eq_nil_of_le (by omega)]
  rfl
def sheetH (tS tI tN : Nat) (gl pr : AV) (L : List Item) (lo hi : List Int) : Heap :=
 [(1000, .obj tS [.p gl, .p pr, .hd 2000 0 L.length, .hd 2001 0 lo.length, .hd 2002 0 hi.length]), (2000, .own tI 17 (L.map fun i => .agg i.cells)), (2001, .own tN 1 (lo.map (.int .i64))), (2002, .own tN 1 (hi.map (.int .i64)))]
def X0 : X := .mk 0 0 [] []
def S0 : S := .mk 0 0 [] [] [] X0 false [] [] []
theorem LSub.agg {cs ds : List AV} (h : SubL cs ds) : LSub (.p (.agg cs)) (.p (.agg ds)) := .p (Sub.agg h)
theorem flat_row : ∀ (n : Nat) (_ : n ≤ 1000) (l : List S) (_ : cntL l < n) (acc : List Item) (_ : acc.length + cntL l ≤ 1000) (a : Item) (gl pr : AV) (lo hi : List Int),
  SpecH Tryz.prog 141 [.ptr 1000 0, .p (eSs l), .p (.agg a.cells)] (sheetH 101 98 3 gl pr acc lo hi)
   (fun r H => r = .p (.tup []) ∧ H = sheetH 101 98 3 gl pr (rowsF a.proc a.up a.next a.loop acc l) lo hi) := by
 intro n
 induction n with
 | zero => intro _ l h; omega
 | succ n ih =>
   intro hn l hl acc hacc a gl pr lo hi
   have hl1 := S.avs_len l
   refine SpecH.body I_flat_Sheet_row tabOK Tryz.func141 rfl Tryz.call141 (by show 3 ≤ _; decide) ?_
   conv => whnf
   repeat' (intro (_ : _ ≤ 9223372036854775807); conv => whnf)
   refine LoopK.inv tabOK (fun i : Nat × List Item => ⟨[(0, .ptr 1000 0), (1, .p (eSs l)), (5, .p (.ip a.cells)), (11, .p (eSs l)), (12, .p (.int .i64 (S.avs l).length)), (13, .p (.int .i64 i.1))], sheetH 101 98 3 gl pr i.2 lo hi⟩) (fun i => i.1 ≤ l.length ∧ acc.length ≤ i.2.length ∧ i.2.length + cntL (l.drop i.1) = acc.length + cntL l ∧ rowsF a.proc a.up a.next a.loop i.2 (l.drop i.1) = rowsF a.proc a.up a.next a.loop acc l) (fun i => l.length - i.1) (0, acc) (Le.of_eq rfl) ⟨Nat.zero_le _, Nat.le_refl _, rfl, rfl⟩ ?_
   rintro ⟨j, b⟩ ⟨h2, h5, h3, h4⟩
   simp only at h2 h3 h4 h5 ⊢
   have hst : ∀ hj : j < l.length, cntL (l.drop j) = cntS l[j] + cntL (l.drop (j + 1)) := fun hj => cntL_step hj
   conv => whnf
   repeat' (first | ((first | (intro (_ : _ ≤ 9223372036854775807)) | (refine DrawK.auto tabOK mixed (by kernel_rfl) ?_) | (refine And.intro rfl ?_) | (refine And.intro ⟨by decide, by decide⟩ ?_) | (refine BsK.pure (fun x hx => by rcases List.mem_singleton.1 hx with rfl; rfl) rfl ?_) | (refine IdxK.ss (by omega) ?_) | (refine Wr.i64 (by omega) (by omega) ?_) | (refine CallK.pure (flat_size 1000 (by omega) (l[j]'(by omega)) (by have := hst (by omega); omega)) (.cons (Sub.refl _) .nil) ?_; rintro _ rfl) | (refine Wr.i64 (by have := hst (by omega); omega) (by have := hst (by omega); omega) ?_) | (refine AppK.mk (by simp) rfl (by show (b.length+1) * 240 ≤ 140737488355328; have := hst (by omega); omega) (by show b.length+1 ≤ 9223372036854775807; have := hst (by omega); omega) (fun x hx => by rcases List.mem_singleton.1 hx with rfl; exact ⟨rfl, rfl⟩) ?_)); conv => whnf) | (refine Br.dec (fun _ => ?_) (fun _ => ?_) <;> first | (exfalso; omega) | conv => whnf) | (refine And.intro ?_ ?_ <;> conv => whnf))
   ·have hj : j < l.length := by omega
    have hst := hst hj
    have hcs := cntS_eq l[j]
    refine CallK.heap [(1000, 1000), (2000, 2000), (2001, 2001), (2002, 2002)] 0 (by refine ArgsH.cons (LSub.refl _) (ArgsH.cons (LSub.refl _) (ArgsH.cons (LSub.agg ?_) ArgsH.nil)); repeat' (first | exact SubL.nil | refine SubL.cons ?_ ?_ | exact Sub.refl _ | exact Sub.nils | exact Sub.ff rfl)) (by exact BlksH.cons (j := 1000) rfl rfl (CSub.of_eq (by rw [List.length_append]; first | done | rfl)) (BlksH.cons (j := 2000) rfl rfl (CSub.of_eq (by rw [List.map_append]; first | done | rfl)) (BlksH.cons (j := 2001) rfl rfl (CSub.refl _) (BlksH.cons (j := 2002) rfl rfl (CSub.refl _) BlksH.nil)))) (ih (by omega) l[j].thn (by omega) (b ++ [⟨l[j]'hj, a.proc, a.up, (b.length + 1 + cntS (l[j]'hj) : Int), a.loop⟩]) (by rw [List.length_append]; simp only [List.length_singleton]; omega) ⟨S0, a.proc, b.length + 1, (b.length + 1 : Int), (b.length + 1 : Int)⟩ gl pr lo hi) rfl rfl ?_
    rintro l' H' ⟨rfl, rfl⟩
    conv => whnf
    refine CallK.heap [(1000, 1000), (2000, 2000), (2001, 2001), (2002, 2002)] 0 (by refine ArgsH.cons (LSub.refl _) (ArgsH.cons (LSub.refl _) (ArgsH.cons (LSub.agg ?_) ArgsH.nil)); repeat' (first | exact SubL.nil | refine SubL.cons ?_ ?_ | exact Sub.refl _ | exact Sub.nils | exact Sub.ff rfl)) (by exact BlksH.cons (j := 1000) rfl rfl (CSub.refl _) (BlksH.cons (j := 2000) rfl rfl (CSub.refl _) (BlksH.cons (j := 2001) rfl rfl (CSub.refl _) (BlksH.cons (j := 2002) rfl rfl (CSub.refl _) BlksH.nil)))) (ih (by omega) l[j].els (by omega) (rowsF a.proc (b.length + 1) (b.length + 1 : Int) (b.length + 1 : Int) (b ++ [⟨l[j]'hj, a.proc, a.up, (b.length + 1 + cntS (l[j]'hj) : Int), a.loop⟩]) (l[j]'hj).thn) (by rw [rowsF_len, List.length_append]; simp only [List.length_singleton]; omega) ⟨S0, a.proc, b.length + 1, (b.length + 1 : Int), (b.length + 1 : Int)⟩ gl pr lo hi) rfl rfl ?_
    rintro l' H' ⟨rfl, rfl⟩
    conv => whnf
    refine Wr.i64 (by omega) (by omega) ?_
    conv => whnf
    have hrow : rowT a.proc a.up (b.length + 1 + cntS (l[j]'hj) : Int) a.loop b l[j] = rowsF a.proc (b.length + 1) (b.length + 1 : Int) (b.length + 1 : Int) (rowsF a.proc (b.length + 1) (b.length + 1 : Int) (b.length + 1 : Int) (b ++ [⟨l[j]'hj, a.proc, a.up, (b.length + 1 + cntS (l[j]'hj) : Int), a.loop⟩]) (l[j]'hj).thn) l[j].els := by
     rw [rowT_eq, if_pos (by assumption), if_pos (by assumption)]
    exact ⟨(j + 1, rowT a.proc a.up (b.length + 1 + cntS (l[j]'hj) : Int) a.loop b l[j]), ⟨by simp only; omega, by simp only; rw [rowT_len]; omega, by simp only; rw [rowT_len]; omega, by simp only; rw [← h4, rowsF_step hj, if_pos (by omega)]⟩, by simp only; omega, Le.of_eq (by simp only; rw [hrow]; rfl)⟩
   ·have hj : j < l.length := by omega
    have hst := hst hj
    have hcs := cntS_eq l[j]
    refine CallK.heap [(1000, 1000), (2000, 2000), (2001, 2001), (2002, 2002)] 0 (by refine ArgsH.cons (LSub.refl _) (ArgsH.cons (LSub.refl _) (ArgsH.cons (LSub.agg ?_) ArgsH.nil)); repeat' (first | exact SubL.nil | refine SubL.cons ?_ ?_ | exact Sub.refl _ | exact Sub.nils | exact Sub.ff rfl)) (by exact BlksH.cons (j := 1000) rfl rfl (CSub.of_eq (by rw [List.length_append]; first | done | rfl)) (BlksH.cons (j := 2000) rfl rfl (CSub.of_eq (by rw [List.map_append]; first | done | rfl)) (BlksH.cons (j := 2001) rfl rfl (CSub.refl _) (BlksH.cons (j := 2002) rfl rfl (CSub.refl _) BlksH.nil)))) (ih (by omega) l[j].thn (by omega) (b ++ [⟨l[j]'hj, a.proc, a.up, (b.length + 1 + cntS (l[j]'hj) : Int), a.loop⟩]) (by rw [List.length_append]; simp only [List.length_singleton]; omega) ⟨S0, a.proc, b.length + 1, (b.length + 1 + cntS (l[j]'hj) : Int), a.loop⟩ gl pr lo hi) rfl rfl ?_
    rintro l' H' ⟨rfl, rfl⟩
    conv => whnf
    refine CallK.heap [(1000, 1000), (2000, 2000), (2001, 2001), (2002, 2002)] 0 (by refine ArgsH.cons (LSub.refl _) (ArgsH.cons (LSub.refl _) (ArgsH.cons (LSub.agg ?_) ArgsH.nil)); repeat' (first | exact SubL.nil | refine SubL.cons ?_ ?_ | exact Sub.refl _ | exact Sub.nils | exact Sub.ff rfl)) (by exact BlksH.cons (j := 1000) rfl rfl (CSub.refl _) (BlksH.cons (j := 2000) rfl rfl (CSub.refl _) (BlksH.cons (j := 2001) rfl rfl (CSub.refl _) (BlksH.cons (j := 2002) rfl rfl (CSub.refl _) BlksH.nil)))) (ih (by omega) l[j].els (by omega) (rowsF a.proc (b.length + 1) (b.length + 1 + cntS (l[j]'hj) : Int) a.loop (b ++ [⟨l[j]'hj, a.proc, a.up, (b.length + 1 + cntS (l[j]'hj) : Int), a.loop⟩]) (l[j]'hj).thn) (by rw [rowsF_len, List.length_append]; simp only [List.length_singleton]; omega) ⟨S0, a.proc, b.length + 1, (b.length + 1 + cntS (l[j]'hj) : Int), a.loop⟩ gl pr lo hi) rfl rfl ?_
    rintro l' H' ⟨rfl, rfl⟩
    conv => whnf
    refine Wr.i64 (by omega) (by omega) ?_
    conv => whnf
    have hrow : rowT a.proc a.up (b.length + 1 + cntS (l[j]'hj) : Int) a.loop b l[j] = rowsF a.proc (b.length + 1) (b.length + 1 + cntS (l[j]'hj) : Int) a.loop (rowsF a.proc (b.length + 1) (b.length + 1 + cntS (l[j]'hj) : Int) a.loop (b ++ [⟨l[j]'hj, a.proc, a.up, (b.length + 1 + cntS (l[j]'hj) : Int), a.loop⟩]) (l[j]'hj).thn) l[j].els := by
     rw [rowT_eq, if_neg (by assumption), if_neg (by assumption)]
    exact ⟨(j + 1, rowT a.proc a.up (b.length + 1 + cntS (l[j]'hj) : Int) a.loop b l[j]), ⟨by simp only; omega, by simp only; rw [rowT_len]; omega, by simp only; rw [rowT_len]; omega, by simp only; rw [← h4, rowsF_step hj, if_pos (by omega)]⟩, by simp only; omega, Le.of_eq (by simp only; rw [hrow]; rfl)⟩
   ·have hj : j < l.length := by omega
    have hst := hst hj
    have hcs := cntS_eq l[j]
    refine CallK.heap [(1000, 1000), (2000, 2000), (2001, 2001), (2002, 2002)] 0 (by refine ArgsH.cons (LSub.refl _) (ArgsH.cons (LSub.refl _) (ArgsH.cons (LSub.agg ?_) ArgsH.nil)); repeat' (first | exact SubL.nil | refine SubL.cons ?_ ?_ | exact Sub.refl _ | exact Sub.nils | exact Sub.ff rfl)) (by exact BlksH.cons (j := 1000) rfl rfl (CSub.of_eq (by rw [List.length_append]; first | done | rfl)) (BlksH.cons (j := 2000) rfl rfl (CSub.of_eq (by rw [List.map_append]; first | done | rfl)) (BlksH.cons (j := 2001) rfl rfl (CSub.refl _) (BlksH.cons (j := 2002) rfl rfl (CSub.refl _) BlksH.nil)))) (ih (by omega) l[j].thn (by omega) (b ++ [⟨l[j]'hj, a.proc, a.up, (b.length + 1 + cntS (l[j]'hj) : Int), a.loop⟩]) (by rw [List.length_append]; simp only [List.length_singleton]; omega) ⟨S0, a.proc, b.length + 1, (b.length + 1 : Int), (b.length + 1 : Int)⟩ gl pr lo hi) rfl rfl ?_
    rintro l' H' ⟨rfl, rfl⟩
    conv => whnf
    refine CallK.heap [(1000, 1000), (2000, 2000), (2001, 2001), (2002, 2002)] 0 (by refine ArgsH.cons (LSub.refl _) (ArgsH.cons (LSub.refl _) (ArgsH.cons (LSub.agg ?_) ArgsH.nil)); repeat' (first | exact SubL.nil | refine SubL.cons ?_ ?_ | exact Sub.refl _ | exact Sub.nils | exact Sub.ff rfl)) (by exact BlksH.cons (j := 1000) rfl rfl (CSub.refl _) (BlksH.cons (j := 2000) rfl rfl (CSub.refl _) (BlksH.cons (j := 2001) rfl rfl (CSub.refl _) (BlksH.cons (j := 2002) rfl rfl (CSub.refl _) BlksH.nil)))) (ih (by omega) l[j].els (by omega) (rowsF a.proc (b.length + 1) (b.length + 1 : Int) (b.length + 1 : Int) (b ++ [⟨l[j]'hj, a.proc, a.up, (b.length + 1 + cntS (l[j]'hj) : Int), a.loop⟩]) (l[j]'hj).thn) (by rw [rowsF_len, List.length_append]; simp only [List.length_singleton]; omega) ⟨S0, a.proc, b.length + 1, (b.length + 1 : Int), (b.length + 1 : Int)⟩ gl pr lo hi) rfl rfl ?_
    rintro l' H' ⟨rfl, rfl⟩
    conv => whnf
    refine Wr.i64 (by omega) (by omega) ?_
    conv => whnf
    have hrow : rowT a.proc a.up (b.length + 1 + cntS (l[j]'hj) : Int) a.loop b l[j] = rowsF a.proc (b.length + 1) (b.length + 1 : Int) (b.length + 1 : Int) (rowsF a.proc (b.length + 1) (b.length + 1 : Int) (b.length + 1 : Int) (b ++ [⟨l[j]'hj, a.proc, a.up, (b.length + 1 + cntS (l[j]'hj) : Int), a.loop⟩]) (l[j]'hj).thn) l[j].els := by
     rw [rowT_eq, if_pos (by assumption), if_pos (by assumption)]
    exact ⟨(j + 1, rowT a.proc a.up (b.length + 1 + cntS (l[j]'hj) : Int) a.loop b l[j]), ⟨by simp only; omega, by simp only; rw [rowT_len]; omega, by simp only; rw [rowT_len]; omega, by simp only; rw [← h4, rowsF_step hj, if_pos (by omega)]⟩, by simp only; omega, Le.of_eq (by simp only; rw [hrow]; rfl)⟩
   ·have hj : j < l.length := by omega
    have hst := hst hj
    have hcs := cntS_eq l[j]
    refine CallK.heap [(1000, 1000), (2000, 2000), (2001, 2001), (2002, 2002)] 0 (by refine ArgsH.cons (LSub.refl _) (ArgsH.cons (LSub.refl _) (ArgsH.cons (LSub.agg ?_) ArgsH.nil)); repeat' (first | exact SubL.nil | refine SubL.cons ?_ ?_ | exact Sub.refl _ | exact Sub.nils | exact Sub.ff rfl)) (by exact BlksH.cons (j := 1000) rfl rfl (CSub.of_eq (by rw [List.length_append]; first | done | rfl)) (BlksH.cons (j := 2000) rfl rfl (CSub.of_eq (by rw [List.map_append]; first | done | rfl)) (BlksH.cons (j := 2001) rfl rfl (CSub.refl _) (BlksH.cons (j := 2002) rfl rfl (CSub.refl _) BlksH.nil)))) (ih (by omega) l[j].thn (by omega) (b ++ [⟨l[j]'hj, a.proc, a.up, (b.length + 1 + cntS (l[j]'hj) : Int), a.loop⟩]) (by rw [List.length_append]; simp only [List.length_singleton]; omega) ⟨S0, a.proc, b.length + 1, (b.length + 1 + cntS (l[j]'hj) : Int), a.loop⟩ gl pr lo hi) rfl rfl ?_
    rintro l' H' ⟨rfl, rfl⟩
    conv => whnf
    refine CallK.heap [(1000, 1000), (2000, 2000), (2001, 2001), (2002, 2002)] 0 (by refine ArgsH.cons (LSub.refl _) (ArgsH.cons (LSub.refl _) (ArgsH.cons (LSub.agg ?_) ArgsH.nil)); repeat' (first | exact SubL.nil | refine SubL.cons ?_ ?_ | exact Sub.refl _ | exact Sub.nils | exact Sub.ff rfl)) (by exact BlksH.cons (j := 1000) rfl rfl (CSub.refl _) (BlksH.cons (j := 2000) rfl rfl (CSub.refl _) (BlksH.cons (j := 2001) rfl rfl (CSub.refl _) (BlksH.cons (j := 2002) rfl rfl (CSub.refl _) BlksH.nil)))) (ih (by omega) l[j].els (by omega) (rowsF a.proc (b.length + 1) (b.length + 1 + cntS (l[j]'hj) : Int) a.loop (b ++ [⟨l[j]'hj, a.proc, a.up, (b.length + 1 + cntS (l[j]'hj) : Int), a.loop⟩]) (l[j]'hj).thn) (by rw [rowsF_len, List.length_append]; simp only [List.length_singleton]; omega) ⟨S0, a.proc, b.length + 1, (b.length + 1 + cntS (l[j]'hj) : Int), a.loop⟩ gl pr lo hi) rfl rfl ?_
    rintro l' H' ⟨rfl, rfl⟩
    conv => whnf
    refine Wr.i64 (by omega) (by omega) ?_
    conv => whnf
    have hrow : rowT a.proc a.up (b.length + 1 + cntS (l[j]'hj) : Int) a.loop b l[j] = rowsF a.proc (b.length + 1) (b.length + 1 + cntS (l[j]'hj) : Int) a.loop (rowsF a.proc (b.length + 1) (b.length + 1 + cntS (l[j]'hj) : Int) a.loop (b ++ [⟨l[j]'hj, a.proc, a.up, (b.length + 1 + cntS (l[j]'hj) : Int), a.loop⟩]) (l[j]'hj).thn) l[j].els := by
     rw [rowT_eq, if_neg (by assumption), if_neg (by assumption)]
    exact ⟨(j + 1, rowT a.proc a.up (b.length + 1 + cntS (l[j]'hj) : Int) a.loop b l[j]), ⟨by simp only; omega, by simp only; rw [rowT_len]; omega, by simp only; rw [rowT_len]; omega, by simp only; rw [← h4, rowsF_step hj, if_pos (by omega)]⟩, by simp only; omega, Le.of_eq (by simp only; rw [hrow]; rfl)⟩
   ·have hj : j < l.length := by omega
    have hst := hst hj
    have hcs := cntS_eq l[j]
    refine CallK.heap [(1000, 1000), (2000, 2000), (2001, 2001), (2002, 2002)] 0 (by refine ArgsH.cons (LSub.refl _) (ArgsH.cons (LSub.refl _) (ArgsH.cons (LSub.agg ?_) ArgsH.nil)); repeat' (first | exact SubL.nil | refine SubL.cons ?_ ?_ | exact Sub.refl _ | exact Sub.nils | exact Sub.ff rfl)) (by exact BlksH.cons (j := 1000) rfl rfl (CSub.of_eq (by rw [List.length_append]; first | done | rfl)) (BlksH.cons (j := 2000) rfl rfl (CSub.of_eq (by rw [List.map_append]; first | done | rfl)) (BlksH.cons (j := 2001) rfl rfl (CSub.refl _) (BlksH.cons (j := 2002) rfl rfl (CSub.refl _) BlksH.nil)))) (ih (by omega) l[j].thn (by omega) (b ++ [⟨l[j]'hj, a.proc, a.up, a.next, a.loop⟩]) (by rw [List.length_append]; simp only [List.length_singleton]; omega) ⟨S0, a.proc, b.length + 1, (b.length + 1 : Int), (b.length + 1 : Int)⟩ gl pr lo hi) rfl rfl ?_
    rintro l' H' ⟨rfl, rfl⟩
    conv => whnf
    refine CallK.heap [(1000, 1000), (2000, 2000), (2001, 2001), (2002, 2002)] 0 (by refine ArgsH.cons (LSub.refl _) (ArgsH.cons (LSub.refl _) (ArgsH.cons (LSub.agg ?_) ArgsH.nil)); repeat' (first | exact SubL.nil | refine SubL.cons ?_ ?_ | exact Sub.refl _ | exact Sub.nils | exact Sub.ff rfl)) (by exact BlksH.cons (j := 1000) rfl rfl (CSub.refl _) (BlksH.cons (j := 2000) rfl rfl (CSub.refl _) (BlksH.cons (j := 2001) rfl rfl (CSub.refl _) (BlksH.cons (j := 2002) rfl rfl (CSub.refl _) BlksH.nil)))) (ih (by omega) l[j].els (by omega) (rowsF a.proc (b.length + 1) (b.length + 1 : Int) (b.length + 1 : Int) (b ++ [⟨l[j]'hj, a.proc, a.up, a.next, a.loop⟩]) (l[j]'hj).thn) (by rw [rowsF_len, List.length_append]; simp only [List.length_singleton]; omega) ⟨S0, a.proc, b.length + 1, (b.length + 1 : Int), (b.length + 1 : Int)⟩ gl pr lo hi) rfl rfl ?_
    rintro l' H' ⟨rfl, rfl⟩
    conv => whnf
    refine Wr.i64 (by omega) (by omega) ?_
    conv => whnf
    have hrow : rowT a.proc a.up a.next a.loop b l[j] = rowsF a.proc (b.length + 1) (b.length + 1 : Int) (b.length + 1 : Int) (rowsF a.proc (b.length + 1) (b.length + 1 : Int) (b.length + 1 : Int) (b ++ [⟨l[j]'hj, a.proc, a.up, a.next, a.loop⟩]) (l[j]'hj).thn) l[j].els := by
     rw [rowT_eq, if_pos (by assumption), if_pos (by assumption)]
    exact ⟨(j + 1, rowT a.proc a.up a.next a.loop b l[j]), ⟨by simp only; omega, by simp only; rw [rowT_len]; omega, by simp only; rw [rowT_len]; omega, by simp only; rw [← h4, rowsF_step hj, if_neg (by omega)]⟩, by simp only; omega, Le.of_eq (by simp only; rw [hrow]; rfl)⟩
   ·have hj : j < l.length := by omega
    have hst := hst hj
    have hcs := cntS_eq l[j]
    refine CallK.heap [(1000, 1000), (2000, 2000), (2001, 2001), (2002, 2002)] 0 (by refine ArgsH.cons (LSub.refl _) (ArgsH.cons (LSub.refl _) (ArgsH.cons (LSub.agg ?_) ArgsH.nil)); repeat' (first | exact SubL.nil | refine SubL.cons ?_ ?_ | exact Sub.refl _ | exact Sub.nils | exact Sub.ff rfl)) (by exact BlksH.cons (j := 1000) rfl rfl (CSub.of_eq (by rw [List.length_append]; first | done | rfl)) (BlksH.cons (j := 2000) rfl rfl (CSub.of_eq (by rw [List.map_append]; first | done | rfl)) (BlksH.cons (j := 2001) rfl rfl (CSub.refl _) (BlksH.cons (j := 2002) rfl rfl (CSub.refl _) BlksH.nil)))) (ih (by omega) l[j].thn (by omega) (b ++ [⟨l[j]'hj, a.proc, a.up, a.next, a.loop⟩]) (by rw [List.length_append]; simp only [List.length_singleton]; omega) ⟨S0, a.proc, b.length + 1, a.next, a.loop⟩ gl pr lo hi) rfl rfl ?_
    rintro l' H' ⟨rfl, rfl⟩
    conv => whnf
    refine CallK.heap [(1000, 1000), (2000, 2000), (2001, 2001), (2002, 2002)] 0 (by refine ArgsH.cons (LSub.refl _) (ArgsH.cons (LSub.refl _) (ArgsH.cons (LSub.agg ?_) ArgsH.nil)); repeat' (first | exact SubL.nil | refine SubL.cons ?_ ?_ | exact Sub.refl _ | exact Sub.nils | exact Sub.ff rfl)) (by exact BlksH.cons (j := 1000) rfl rfl (CSub.refl _) (BlksH.cons (j := 2000) rfl rfl (CSub.refl _) (BlksH.cons (j := 2001) rfl rfl (CSub.refl _) (BlksH.cons (j := 2002) rfl rfl (CSub.refl _) BlksH.nil)))) (ih (by omega) l[j].els (by omega) (rowsF a.proc (b.length + 1) a.next a.loop (b ++ [⟨l[j]'hj, a.proc, a.up, a.next, a.loop⟩]) (l[j]'hj).thn) (by rw [rowsF_len, List.length_append]; simp only [List.length_singleton]; omega) ⟨S0, a.proc, b.length + 1, a.next, a.loop⟩ gl pr lo hi) rfl rfl ?_
    rintro l' H' ⟨rfl, rfl⟩
    conv => whnf
    refine Wr.i64 (by omega) (by omega) ?_
    conv => whnf
    have hrow : rowT a.proc a.up a.next a.loop b l[j] = rowsF a.proc (b.length + 1) a.next a.loop (rowsF a.proc (b.length + 1) a.next a.loop (b ++ [⟨l[j]'hj, a.proc, a.up, a.next, a.loop⟩]) (l[j]'hj).thn) l[j].els := by
     rw [rowT_eq, if_neg (by assumption), if_neg (by assumption)]
    exact ⟨(j + 1, rowT a.proc a.up a.next a.loop b l[j]), ⟨by simp only; omega, by simp only; rw [rowT_len]; omega, by simp only; rw [rowT_len]; omega, by simp only; rw [← h4, rowsF_step hj, if_neg (by omega)]⟩, by simp only; omega, Le.of_eq (by simp only; rw [hrow]; rfl)⟩
   ·have hj : j < l.length := by omega
    have hst := hst hj
    have hcs := cntS_eq l[j]
    refine CallK.heap [(1000, 1000), (2000, 2000), (2001, 2001), (2002, 2002)] 0 (by refine ArgsH.cons (LSub.refl _) (ArgsH.cons (LSub.refl _) (ArgsH.cons (LSub.agg ?_) ArgsH.nil)); repeat' (first | exact SubL.nil | refine SubL.cons ?_ ?_ | exact Sub.refl _ | exact Sub.nils | exact Sub.ff rfl)) (by exact BlksH.cons (j := 1000) rfl rfl (CSub.of_eq (by rw [List.length_append]; first | done | rfl)) (BlksH.cons (j := 2000) rfl rfl (CSub.of_eq (by rw [List.map_append]; first | done | rfl)) (BlksH.cons (j := 2001) rfl rfl (CSub.refl _) (BlksH.cons (j := 2002) rfl rfl (CSub.refl _) BlksH.nil)))) (ih (by omega) l[j].thn (by omega) (b ++ [⟨l[j]'hj, a.proc, a.up, a.next, a.loop⟩]) (by rw [List.length_append]; simp only [List.length_singleton]; omega) ⟨S0, a.proc, b.length + 1, (b.length + 1 : Int), (b.length + 1 : Int)⟩ gl pr lo hi) rfl rfl ?_
    rintro l' H' ⟨rfl, rfl⟩
    conv => whnf
    refine CallK.heap [(1000, 1000), (2000, 2000), (2001, 2001), (2002, 2002)] 0 (by refine ArgsH.cons (LSub.refl _) (ArgsH.cons (LSub.refl _) (ArgsH.cons (LSub.agg ?_) ArgsH.nil)); repeat' (first | exact SubL.nil | refine SubL.cons ?_ ?_ | exact Sub.refl _ | exact Sub.nils | exact Sub.ff rfl)) (by exact BlksH.cons (j := 1000) rfl rfl (CSub.refl _) (BlksH.cons (j := 2000) rfl rfl (CSub.refl _) (BlksH.cons (j := 2001) rfl rfl (CSub.refl _) (BlksH.cons (j := 2002) rfl rfl (CSub.refl _) BlksH.nil)))) (ih (by omega) l[j].els (by omega) (rowsF a.proc (b.length + 1) (b.length + 1 : Int) (b.length + 1 : Int) (b ++ [⟨l[j]'hj, a.proc, a.up, a.next, a.loop⟩]) (l[j]'hj).thn) (by rw [rowsF_len, List.length_append]; simp only [List.length_singleton]; omega) ⟨S0, a.proc, b.length + 1, (b.length + 1 : Int), (b.length + 1 : Int)⟩ gl pr lo hi) rfl rfl ?_
    rintro l' H' ⟨rfl, rfl⟩
    conv => whnf
    refine Wr.i64 (by omega) (by omega) ?_
    conv => whnf
    have hrow : rowT a.proc a.up a.next a.loop b l[j] = rowsF a.proc (b.length + 1) (b.length + 1 : Int) (b.length + 1 : Int) (rowsF a.proc (b.length + 1) (b.length + 1 : Int) (b.length + 1 : Int) (b ++ [⟨l[j]'hj, a.proc, a.up, a.next, a.loop⟩]) (l[j]'hj).thn) l[j].els := by
     rw [rowT_eq, if_pos (by assumption), if_pos (by assumption)]
    exact ⟨(j + 1, rowT a.proc a.up a.next a.loop b l[j]), ⟨by simp only; omega, by simp only; rw [rowT_len]; omega, by simp only; rw [rowT_len]; omega, by simp only; rw [← h4, rowsF_step hj, if_neg (by omega)]⟩, by simp only; omega, Le.of_eq (by simp only; rw [hrow]; rfl)⟩
   ·have hj : j < l.length := by omega
    have hst := hst hj
    have hcs := cntS_eq l[j]
    refine CallK.heap [(1000, 1000), (2000, 2000), (2001, 2001), (2002, 2002)] 0 (by refine ArgsH.cons (LSub.refl _) (ArgsH.cons (LSub.refl _) (ArgsH.cons (LSub.agg ?_) ArgsH.nil)); repeat' (first | exact SubL.nil | refine SubL.cons ?_ ?_ | exact Sub.refl _ | exact Sub.nils | exact Sub.ff rfl)) (by exact BlksH.cons (j := 1000) rfl rfl (CSub.of_eq (by rw [List.length_append]; first | done | rfl)) (BlksH.cons (j := 2000) rfl rfl (CSub.of_eq (by rw [List.map_append]; first | done | rfl)) (BlksH.cons (j := 2001) rfl rfl (CSub.refl _) (BlksH.cons (j := 2002) rfl rfl (CSub.refl _) BlksH.nil)))) (ih (by omega) l[j].thn (by omega) (b ++ [⟨l[j]'hj, a.proc, a.up, a.next, a.loop⟩]) (by rw [List.length_append]; simp only [List.length_singleton]; omega) ⟨S0, a.proc, b.length + 1, a.next, a.loop⟩ gl pr lo hi) rfl rfl ?_
    rintro l' H' ⟨rfl, rfl⟩
    conv => whnf
    refine CallK.heap [(1000, 1000), (2000, 2000), (2001, 2001), (2002, 2002)] 0 (by refine ArgsH.cons (LSub.refl _) (ArgsH.cons (LSub.refl _) (ArgsH.cons (LSub.agg ?_) ArgsH.nil)); repeat' (first | exact SubL.nil | refine SubL.cons ?_ ?_ | exact Sub.refl _ | exact Sub.nils | exact Sub.ff rfl)) (by exact BlksH.cons (j := 1000) rfl rfl (CSub.refl _) (BlksH.cons (j := 2000) rfl rfl (CSub.refl _) (BlksH.cons (j := 2001) rfl rfl (CSub.refl _) (BlksH.cons (j := 2002) rfl rfl (CSub.refl _) BlksH.nil)))) (ih (by omega) l[j].els (by omega) (rowsF a.proc (b.length + 1) a.next a.loop (b ++ [⟨l[j]'hj, a.proc, a.up, a.next, a.loop⟩]) (l[j]'hj).thn) (by rw [rowsF_len, List.length_append]; simp only [List.length_singleton]; omega) ⟨S0, a.proc, b.length + 1, a.next, a.loop⟩ gl pr lo hi) rfl rfl ?_
    rintro l' H' ⟨rfl, rfl⟩
    conv => whnf
    refine Wr.i64 (by omega) (by omega) ?_
    conv => whnf
    have hrow : rowT a.proc a.up a.next a.loop b l[j] = rowsF a.proc (b.length + 1) a.next a.loop (rowsF a.proc (b.length + 1) a.next a.loop (b ++ [⟨l[j]'hj, a.proc, a.up, a.next, a.loop⟩]) (l[j]'hj).thn) l[j].els := by
     rw [rowT_eq, if_neg (by assumption), if_neg (by assumption)]
    exact ⟨(j + 1, rowT a.proc a.up a.next a.loop b l[j]), ⟨by simp only; omega, by simp only; rw [rowT_len]; omega, by simp only; rw [rowT_len]; omega, by simp only; rw [← h4, rowsF_step hj, if_neg (by omega)]⟩, by simp only; omega, Le.of_eq (by simp only; rw [hrow]; rfl)⟩
   ·refine ⟨_, .refl _, rfl, ?_⟩
    rw [List.drop_eq_nil_of_le (by omega), rowsF] at h4
    rw [← h4]
    rfl
open Go.Proofs
structure Sheet where
 p : Pg
 l : List Item
 lo : List Int
 hi : List Int
def Sheet.cells (s : Sheet) : List AV := s.p.cells ++ [.sl (s.l.map fun i => .agg i.cells), eInts s.lo, eInts s.hi]
def cntP : List Pr → Nat
 | [] => 0
 | f :: r => cntL f.body + cntP r
theorem cntP_step {l : List Pr} {j : Nat} (hj : j < l.length) : cntP (l.drop j) = cntL l[j].body + cntP (l.drop (j + 1)) := by
 rw [drop_cons hj, cntP]
def newL (i : Nat) (acc : List Item) (lo hi : List Int) : List Pr → List Item × List Int × List Int
 | [] => (acc, lo, hi)
 | f :: r => newL (i + 1) (rowsF i 0 (-1) 0 acc f.body) (lo ++ [(acc.length : Int) + 1]) (hi ++ [((rowsF i 0 (-1) 0 acc f.body).length : Int) + 1]) r
def sheetOf (p : Pg) : Sheet := ⟨p, (newL 0 [] [] [] p.procs).1, (newL 0 [] [] [] p.procs).2.1, (newL 0 [] [] [] p.procs).2.2⟩
theorem newL_step {i : Nat} {acc : List Item} {lo hi : List Int} {l : List Pr} {j : Nat} (hj : j < l.length) :
  newL i acc lo hi (l.drop j) = newL (i + 1) (rowsF i 0 (-1) 0 acc l[j].body) (lo ++ [(acc.length : Int) + 1]) (hi ++ [((rowsF i 0 (-1) 0 acc l[j].body).length : Int) + 1]) (l.drop (j + 1)) := by
 rw [drop_cons hj, newL]
def newH (tS tI tN : Nat) (p : Pg) (L : List Item) (lo hi : List Int) : Heap :=
 [(0, .obj tS [.p (eStrs p.globals), .p (.sl (p.procs.map fun f => .agg f.cells)), .hd 1 0 L.length, .hd 2 0 lo.length, .hd 3 0 hi.length]), (1, .own tI 17 (L.map fun i => .agg i.cells)), (2, .own tN 1 (lo.map (.int .i64))), (3, .own tN 1 (hi.map (.int .i64)))]
theorem flat_New (p : Pg) (h1 : p.procs.length ≤ 1000) (hc : cntP p.procs ≤ 999) : SpecP Tryz.prog 82 [.agg p.cells] (fun r => r = .ip (sheetOf p).cells) := by
 refine SpecP.body I_flat_New tabOK Tryz.func82 rfl Tryz.call82 (by show 1 ≤ _; decide) ?_
 conv => whnf
 repeat' ((first | (intro (_ : _ ≤ 9223372036854775807)) | (refine And.intro rfl ?_)); conv => whnf)
 have hl2 : (p.procs.map fun f => AV.agg f.cells).length = p.procs.length := List.length_map _
 refine LoopK.inv tabOK (fun i : Nat × List Item × List Int × List Int => ⟨[(3, .ptr 0 0), (10, .p (.sl (p.procs.map fun f => AV.agg f.cells))), (11, .p (.int .i64 (p.procs.map fun f => AV.agg f.cells).length)), (12, .p (.int .i64 i.1))], newH 101 98 3 p i.2.1 i.2.2.1 i.2.2.2⟩)
  (fun i => i.1 ≤ p.procs.length ∧ i.2.1.length + cntP (p.procs.drop i.1) = cntP p.procs ∧ i.2.2.1.length = i.1 ∧ i.2.2.2.length = i.1 ∧ newL i.1 i.2.1 i.2.2.1 i.2.2.2 (p.procs.drop i.1) = newL 0 [] [] [] p.procs) (fun i => p.procs.length - i.1) (0, [], [], [])
  (Le.mk [(1, .own 98 17 []), (2, .own 3 1 []), (3, .own 3 1 [])] (by simp [Chunk.new0]; exact ⟨rfl, rfl, rfl⟩) (by simp) (by simp [newH]) (.cons (.refl _) (.cons (.refl _) (.cons (.refl _) (.cons (.refl _) .nil))))
    (.cons rfl (.obj (.cons (.refl _) (.cons (.refl _) (.cons (.nil List.mem_cons_self) (.cons (.nil (List.mem_cons_of_mem _ List.mem_cons_self)) (.cons (.nil (List.mem_cons_of_mem _ (List.mem_cons_of_mem _ List.mem_cons_self))) .nil)))))) (.new List.mem_cons_self (.new (List.mem_cons_of_mem _ List.mem_cons_self) (.new (List.mem_cons_of_mem _ (List.mem_cons_of_mem _ List.mem_cons_self)) .nil)))))
  ⟨Nat.zero_le _, by simp, rfl, rfl, rfl⟩ ?_
 rintro ⟨j, b, lo, hi⟩ ⟨h2, h3, h4, h5, h6⟩
 simp only at h2 h3 h4 h5 h6 ⊢
 conv => whnf
 repeat' (first | ((first | (intro (_ : _ ≤ 9223372036854775807)) | (refine DrawK.auto tabOK mixed (by kernel_rfl) ?_) | (refine And.intro rfl ?_) | (refine And.intro ⟨by decide, by decide⟩ ?_) | (refine BsK.pure (fun x hx => by rcases List.mem_singleton.1 hx with rfl; rfl) rfl ?_) | (refine IdxK.map (by omega) (fun _ => rfl) ?_) | (refine Wr.i64 (by omega) (by omega) ?_) | (refine AppK.mk (by simp) rfl (by show (lo.length+1) * 8 ≤ 140737488355328; omega) (by show lo.length+1 ≤ 9223372036854775807; omega) (fun x hx => by rcases List.mem_singleton.1 hx with rfl; exact ⟨rfl, rfl⟩) ?_)); conv => whnf) | (refine Br.dec (fun _ => ?_) (fun _ => ?_) <;> first | (exfalso; omega) | conv => whnf) | (refine And.intro ?_ ?_ <;> conv => whnf))
 ·have hj : j < p.procs.length := by omega
  have hst := cntP_step hj
  refine CallK.heap [(1000, 0), (2000, 1), (2001, 2), (2002, 3)] 0 (by refine ArgsH.cons (LSub.refl _) (ArgsH.cons (LSub.refl _) (ArgsH.cons (LSub.agg ?_) ArgsH.nil)); repeat' (first | exact SubL.nil | refine SubL.cons ?_ ?_ | exact Sub.refl _ | exact Sub.nils | exact Sub.ff rfl)) (by exact BlksH.cons (j := 0) rfl rfl (CSub.of_eq (by rw [List.length_append]; first | done | rfl)) (BlksH.cons (j := 1) rfl rfl (CSub.refl _) (BlksH.cons (j := 2) rfl rfl (CSub.of_eq (by rw [List.map_append]; first | done | rfl)) (BlksH.cons (j := 3) rfl rfl (CSub.refl _) BlksH.nil)))) (flat_row 1000 (by omega) p.procs[j].body (by omega) b (by omega) ⟨S0, j, 0, -1, 0⟩ _ _ (lo ++ [(b.length : Int) + 1]) hi) rfl rfl ?_
  rintro l' H' ⟨rfl, rfl⟩
  conv => whnf
  have hlen := rowsF_len j 0 (-1) 0 b p.procs[j].body
  repeat' (first | ((first | (intro (_ : _ ≤ 9223372036854775807)) | (refine DrawK.auto tabOK mixed (by kernel_rfl) ?_) | (refine And.intro rfl ?_) | (refine And.intro ⟨by decide, by decide⟩ ?_) | (refine BsK.pure (fun x hx => by rcases List.mem_singleton.1 hx with rfl; rfl) rfl ?_) | (refine Wr.i64 (by omega) (by omega) ?_) | (refine AppK.mk (by simp) rfl (by show (hi.length+1) * 8 ≤ 140737488355328; omega) (by show hi.length+1 ≤ 9223372036854775807; omega) (fun x hx => by rcases List.mem_singleton.1 hx with rfl; exact ⟨rfl, rfl⟩) ?_) | (refine Wr.i64 (by rw [rowsF_len]; omega) (by rw [rowsF_len]; omega) ?_)); conv => whnf) | (refine And.intro ?_ ?_ <;> conv => whnf))
  all_goals exact ⟨(j + 1, rowsF j 0 (-1) 0 b p.procs[j].body, lo ++ [(b.length : Int) + 1], hi ++ [((rowsF j 0 (-1) 0 b p.procs[j].body).length : Int) + 1]), ⟨by simp only; omega, by simp only; omega, by simp [h4], by simp [h5], by simp only; rw [← h6, newL_step hj]⟩, by simp only; omega, Le.of_eq (by simp only [newH, List.length_append, List.map_append]; rfl)⟩
 ·have hj : j < p.procs.length := by omega
  have hst := cntP_step hj
  refine CallK.heap [(1000, 0), (2000, 1), (2001, 2), (2002, 3)] 0 (by refine ArgsH.cons (LSub.refl _) (ArgsH.cons (LSub.refl _) (ArgsH.cons (LSub.agg ?_) ArgsH.nil)); repeat' (first | exact SubL.nil | refine SubL.cons ?_ ?_ | exact Sub.refl _ | exact Sub.nils | exact Sub.ff rfl)) (by exact BlksH.cons (j := 0) rfl rfl (CSub.of_eq (by rw [List.length_append]; first | done | rfl)) (BlksH.cons (j := 1) rfl rfl (CSub.refl _) (BlksH.cons (j := 2) rfl rfl (CSub.of_eq (by rw [List.map_append]; first | done | rfl)) (BlksH.cons (j := 3) rfl rfl (CSub.refl _) BlksH.nil)))) (flat_row 1000 (by omega) p.procs[j].body (by omega) b (by omega) ⟨S0, j, 0, -1, 0⟩ _ _ (lo ++ [(b.length : Int) + 1]) hi) rfl rfl ?_
  rintro l' H' ⟨rfl, rfl⟩
  conv => whnf
  have hlen := rowsF_len j 0 (-1) 0 b p.procs[j].body
  repeat' (first | ((first | (intro (_ : _ ≤ 9223372036854775807)) | (refine DrawK.auto tabOK mixed (by kernel_rfl) ?_) | (refine And.intro rfl ?_) | (refine And.intro ⟨by decide, by decide⟩ ?_) | (refine BsK.pure (fun x hx => by rcases List.mem_singleton.1 hx with rfl; rfl) rfl ?_) | (refine Wr.i64 (by omega) (by omega) ?_) | (refine AppK.mk (by simp) rfl (by show (hi.length+1) * 8 ≤ 140737488355328; omega) (by show hi.length+1 ≤ 9223372036854775807; omega) (fun x hx => by rcases List.mem_singleton.1 hx with rfl; exact ⟨rfl, rfl⟩) ?_) | (refine Wr.i64 (by rw [rowsF_len]; omega) (by rw [rowsF_len]; omega) ?_)); conv => whnf) | (refine And.intro ?_ ?_ <;> conv => whnf))
  all_goals exact ⟨(j + 1, rowsF j 0 (-1) 0 b p.procs[j].body, lo ++ [(b.length : Int) + 1], hi ++ [((rowsF j 0 (-1) 0 b p.procs[j].body).length : Int) + 1]), ⟨by simp only; omega, by simp only; omega, by simp [h4], by simp [h5], by simp only; rw [← h6, newL_step hj]⟩, by simp only; omega, Le.of_eq (by simp only [newH, List.length_append, List.map_append]; rfl)⟩
 ·have hd : p.procs.drop j = [] := List.drop_eq_nil_of_le (by omega)
  rw [hd, newL] at h6
  refine ⟨.ip (sheetOf p).cells, ?_, rfl⟩
  have e : (sheetOf p).cells = [eStrs p.globals, .sl (p.procs.map fun f => .agg f.cells), .sl (b.map fun i => .agg i.cells), eInts lo, eInts hi] := by
   unfold sheetOf
   rw [← h6]
   rfl
  rw [e]
  have hF : ∀ H : Heap, getH H 1 = some (.own 98 17 (b.map fun i => .agg i.cells)) → getH H 2 = some (.own 3 1 (lo.map (.int .i64))) → getH H 3 = some (.own 3 1 (hi.map (.int .i64))) →
    FrzL H [.p (eStrs p.globals), .p (.sl (p.procs.map fun f => .agg f.cells)), .hd 1 0 b.length, .hd 2 0 lo.length, .hd 3 0 hi.length] [eStrs p.globals, .sl (p.procs.map fun f => .agg f.cells), .sl (b.map fun i => .agg i.cells), eInts lo, eInts hi] := fun H g1 g2 g3 =>
   .cons (.p (Sub.refl _)) (.cons (.p (Sub.refl _)) (.cons (.hd g1 (by simp)) (.cons (.hd g2 (by simp)) (.cons (.hd g3 (by simp)) .nil))))
  refine Frz.ptr (off := 0) rfl rfl fun m l c hl hc => ?_
  obtain ⟨l', h7, h8⟩ := (hF (newH 101 98 3 p b lo hi) rfl rfl rfl).get.2 m c hc
  have h9 := h7.symm.trans hl
  cases h9
  exact h8
end Go.Ab
